import PyProof.Rows.All
import HandS.Iter
import KE.GoesMore
import PyProof.EnumMake
import PyProof.Draws
import Wide.All
import OpenK.AllK
import Wide.FinOn
import HandS.ForMost
import HandS.Exc
import HandS.ExcOwn
import HandS.WordsExc
import HandS.Flow
import HandS.TupAny
import HandS.IsInst
import HandS.SortRule
import HandS.CallSlots
import HandS.NoneIn
import HandS.TupLen
import KE.KeyNested
import HandS.NestedK
import HandS.Wide
import HandS.Deep
import KE.SortData
import HandS.More
import HandS.Text
import HandS.StrMore
import PyProof.AutoSeq1
import HandS.Defaults
import HandS.ExcInit
import HandS.ExcIs
import HandS.ExcField
import KE.KExcIs
import HandS.HeadHook2
import HandS.HeadWalk
import HandS.Conv
import HandS.Style
import HandS.MakeKwOnly
import HandS.HeadEnd
import HandS.Head2
import HandS.Codes
import HandS.EndTab
import HandS.HeadHook4
import HandS.TryMany
import HandS.TryOnly
import HandS.Head0
import HandS.Head1
import HandS.HeadHook1
import Lean
import PySem.Challenge.RW_firstway_k24_errors_of_tokens
set_option Elab.async false
set_option linter.all false
set_option maxRecDepth 100000
set_option maxHeartbeats 8000000
namespace DL
open PySem L2
open AutoSeq1 (wpAny_loadPart')
theorem meets_enumerate_newT (l : Addr) (items : Array Value) (dct : Option Addr) (sl : Array (Option Value)) (n : Nat) :
    Meets (Builtin.«enumerate.__new__» ⟨[.type "enumerate", .ref l], []⟩) (fun _ R s => s.heap.get? l = some { cls := .type "tuple", dict := dct, data := .seq items n, slots := sl } ∧
      R (.ok (.ret (.ref (s.heap.push { cls := .type "tuple_iterator", data := .fields #[.ref l, .int 0 0] }).objs.size)))
        { s with heap := (s.heap.push { cls := .type "tuple_iterator", data := .fields #[.ref l, .int 0 0] }).push { cls := .type "enumerate", data := .fields #[.none, .bool false, .ref s.heap.objs.size, rawInt 0, .none, .none] } }) :=
  .of_wp fun prog w A R s h => by
    obtain ⟨hp, g, d, tk, os⟩ := s; obtain ⟨hl, h⟩ := h
    have hsub := sub_enumerate
    have hL : Heap.IsTuple (Shared.heap ⟨hp, g, d, tk, os⟩) l items := ⟨_, hl, rfl, n, rfl⟩
    wp_walk using wpAny_loadPart' hl
    refine wpAny_stack_any fun st => wpAny_pure ?_
    split
    · rename_i c _ _ _ _ _
      cases (c == Value.type "enumerate")
      · wp_walk using wpAny_loadPart' hl, wpAny_pyIter_tuple hL
        exact ⟨_, rfl, h⟩
      · wp_walk using wpAny_loadPart' hl, wpAny_pyIter_tuple hL
        exact ⟨_, rfl, h⟩
    · wp_walk using wpAny_loadPart' hl, wpAny_pyIter_tuple hL
      exact ⟨_, rfl, h⟩
section
variable {prog : Program} {w : World} {A : Around} {E : Value → Shared → Prop} {s : Shared}
theorem call_enumerate_tuple {l : Addr} {items : Array Value} {Q : Value → Shared → Prop} (hL : s.heap.IsTuple l items)
    (h : ∀ h', IsEnum h' (s.heap.objs.size + 1) s.heap.objs.size 0 .none → h'.IsTupleIter s.heap.objs.size l 0 → h'.objs.size = s.heap.objs.size + 2 →
      (∀ b o, s.heap.get? b = some o → h'.get? b = some o) → Q (.ref (s.heap.objs.size + 1)) { s with heap := h' }) :
    wpAny (model prog w) A (call (.type "enumerate") [.ref l]) Q E s := by
  obtain ⟨⟨c, dct, dt, sl⟩, hl, hc, n, hd⟩ := hL
  replace hc : c = .type "tuple" := hc
  replace hd : dt = .seq items n := hd
  subst hc hd
  refine callType_new F.called_enumerate (by decide) (F.typeCall_enumerate_1 _) (F.newCall_enumerate_1 _) (fun obj => F.args_object_init_2 obj _) F.entry_enumerate_new
    (meets_enumerate_newT l items dct sl n) ⟨hl, ?_⟩
  have hz : (s.heap.push { cls := .type "tuple_iterator", data := .fields #[.ref l, .int 0 0] }).objs.size = s.heap.objs.size + 1 := Heap.size_push ..
  show _ ∧ _
  rw [hz]
  have he : IsEnum ((s.heap.push { cls := .type "tuple_iterator", data := .fields #[.ref l, .int 0 0] }).push
      { cls := .type "enumerate", data := .fields #[.none, .bool false, .ref s.heap.objs.size, rawInt 0, .none, .none] }) (s.heap.objs.size + 1) s.heap.objs.size 0 .none := by
    have := Heap.get?_push_size (s.heap.push { cls := .type "tuple_iterator", data := .fields #[.ref l, .int 0 0] })
      (o := { cls := .type "enumerate", data := .fields #[.none, .bool false, .ref s.heap.objs.size, rawInt 0, .none, .none] }) rfl
    rw [hz] at this; exact this
  refine ⟨⟨_, he, rfl⟩, h _ he ⟨_, Heap.get?_push_of_some _ (Heap.get?_push_size _ rfl), rfl, rfl⟩ (by rw [Heap.size_push, hz]) fun b o x => Heap.get?_push_of_some _ (Heap.get?_push_of_some _ x)⟩
end
theorem wpAny_pyNext_enum_endT {prog : Program} {w : World} {A : Around} {E : Value → Shared → Prop} {s : Shared} {e it l : Addr} {i : Nat} {items : Array Value} {old : Value} {Q : Option Value → Shared → Prop} (hh : A.handled = none)
    (he : IsEnum s.heap e it i old) (hit : s.heap.IsTupleIter it l i) (hl : s.heap.IsTuple l items) (hx : items[i]? = none)
    (hQ : ∀ h', Heap.ExtBut it s.heap h' → Q none { s with heap := h' }) : wpAny (model prog w) A (pyNext (.ref e)) Q E s := by
  have hT : s.TypeIs (.ref e) "enumerate" := ⟨_, he, rfl⟩
  unfold pyNext
  refine wpAny_bind (wpAny_attempt (wpAny_callSpecial?_slot (name := Str.ofString "__next__") hT F.slot_enumerate_next
    (wpAny_call_entry F.slot_enumerate_next hT F.entry_enumerate_next ?_ (F.args_enumerate_next_1 _))))
  show wpAny _ _ (field (.ref e) 2 >>= _) _ _ _
  refine wpAny_bind (wpAny_field he rfl (x := .ref it) rfl ?_)
  refine wpAny_bind (wpAny_nextOf_tuple_end hh hit hl hx fun h' x he' hx' => ?_)
  obtain ⟨o, ho, hc⟩ := hx'
  refine wpAny_bind (wpAny_isInstance (T := "StopIteration") (b := true) ⟨o, ho, hc⟩ isSubtype_stop ?_)
  exact wpAny_pure (hQ _ he')
/-- the tuple at a, each item in a new pair -/
def IteT (K : PySem.W.Frag) (a : Addr) : It :=
  ⟨fun i H => ∃ (xs : List V) (x : V), SqT K H a xs ∧ xs[i]? = some x, fun i H v H' => ∃ T x, v = .ref T ∧ H T = none ∧ H' = upd H T (.tup [.int (i : Nat), x]) ∧ ∀ xs, SqT K H a xs → xs[i]? = some x, fun i H => ∃ xs : List V, SqT K H a xs ∧ xs.length ≤ i⟩
theorem turn_enumT {P : Program} {w : World} {K : PySem.W.Frag} {elts : List Expr} {kk : Nat} {tpos : Pos} (a e it : Addr) (hat : a ≠ it) (hae : a ≠ e) :
    Turn P w K (.Tuple elts kk tpos) (IteT K a) [e, it] e (fun i h => (∃ old, IsEnum h e it ((i : Nat) : Int) old) ∧ h.IsTupleIter it a i ∧ e ≠ it) where
  mem := by simp
  obj := fun i h st b hb => by
    obtain ⟨⟨old, he⟩, ⟨o, ho, hc, hd⟩, _⟩ := st
    have e' : b = e ∨ b = it := by simpa using hb
    rcases e' with z | z
    · rw [z]; exact ⟨_, he, fun v q => nomatch q⟩
    · rw [z]; exact ⟨o, ho, fun v q => by rw [hd] at q; cases q⟩
  keep := fun i h h' st k => let ⟨⟨old, he⟩, hi, hne⟩ := st; ⟨⟨old, k e (by simp) _ he⟩, hi.at fun o q => k it (by simp) o q, hne⟩
  item := by
    intro X hP hw hK hc i pins s σ H E I hf st hg
    subst hP hw hK
    obtain ⟨⟨old, he⟩, hit, hne⟩ := st
    obtain ⟨xs, x, hq, hx⟩ := hg
    obtain ⟨its, rv, p, hz⟩ := I.tuple hq
    obtain ⟨u, hu, ru⟩ := rv.get hx
    have hel : e < s.heap.objs.size := Heap.lt_size he
    have hil : it < s.heap.objs.size := by obtain ⟨_, q, _⟩ := hit; exact Heap.lt_size q
    have p' : s.heap.IsTuple a its.toArray := p
    have hlt : i < its.toArray.size := by have := (List.getElem?_eq_some_iff.mp hu).1; simpa using this
    have D := Draws.tuple (prog := X.prog) (w := X.w) (A := X.A.in1) (I.ok.hd hc) it a hat its.toArray
    refine wpAny_pyNext_enum_itemD (n := its.toArray.size) D he ⟨hit, p'⟩ hlt hne (fun z => by
      have e' : e = it ∨ e = a := by simpa using z
      rcases e' with z | z
      · exact hne z
      · exact hae z.symm) fun x' h' tk hPx ho hst hT hsz hk => ?_
    have hx' : x' = u := by
      have : its.toArray[i]? = some u := by simpa using hu
      rw [this] at hPx; exact (Option.some.inj hPx).symm
    subst hx'
    refine ⟨_, rfl, wpAny_letOwnedTupleGo_enum (s := { s with heap := h', toks := tk + 1 }) ho fun h'' he' sb => ?_⟩
    have hT2 : h''.get? s.heap.objs.size = some { cls := .type "tuple", data := .seq #[.int i tk, x'] } := (sb.2 _ (Nat.ne_of_gt hel)).trans hT
    have new : ObjOk X.prog X.w (upd H s.heap.objs.size (.tup [.int (i : Nat), x])) h'' s.heap.objs.size (.tup [.int (i : Nat), x]) :=
      ⟨by show 2 ≤ sizeLine; decide, [.int i tk, x'], .cons ⟨_, rfl⟩ (.cons ru .nil), ⟨_, hT2, rfl, _, rfl⟩⟩
    have I1 : Inv X pins σ (upd H s.heap.objs.size (.tup [.int (i : Nat), x])) { s with heap := h'', toks := tk + 1 } :=
      I.turnedNew (ch := [e, it]) (fun b ob hb q => (sb.2 b (fun z => hb (by simp [z]))).trans (hk b ob (fun z => hb (by simp [z])) (fun z => hb (by simp [z])) q)) hf (Nat.le_refl _) new
    refine ⟨.ref s.heap.objs.size, _, I1, rfl, ⟨_, x, rfl, I.hok.fresh (Nat.le_refl _), rfl, fun ys hy => by rw [I.tuple_inj hy hq]; exact hx⟩, ⟨⟨x', ?_⟩, hst.1.at fun o q => (sb.2 it (Ne.symm hne)).trans q, hne⟩, fun b hb => ?_⟩
    · have e1 : ((i + 1 : Nat) : Int) = (i : Int) + 1 := by omega
      rw [e1]; exact he'
    · have hb' : b < s.heap.objs.size := by
        have e' : b = e ∨ b = it := by simpa using hb
        rcases e' with z | z
        · rw [z]; exact hel
        · rw [z]; exact hil
      rw [upd_ne (Nat.ne_of_lt hb')]
      exact (hf b hb).1
  done := by
    intro X hP hw hK hc i pins s σ H E I hf st hg
    subst hP hw hK
    obtain ⟨⟨old, he⟩, hit, hne⟩ := st
    obtain ⟨xs, hq, hx⟩ := hg
    obtain ⟨its, rv, p, hz⟩ := I.tuple hq
    obtain ⟨f0, f1, f2, f3, f4, f5⟩ := hf it (by simp)
    have hl := rv.length
    have p' : s.heap.IsTuple a its.toArray := p
    exact wpAny_pyNext_enum_endT (I.ok.hd hc) he hit p' (by simp; omega) fun h' eb => ⟨rfl, I.turned (t' := s.toks) (fun b o hb q => eb b o hb q) f0 f1 f3 f4 f5⟩
  self := fun A i s Q E st h => let ⟨⟨_, he⟩, _⟩ := st; wpAny_pyIter_enum he h
def iEnumT (K : PySem.W.Frag) (ta : TA) : TI := fun σ H R => ta σ H fun vs H1 => ∃ a xs, vs = [.ref a] ∧ SqT K H1 a xs ∧ R (IteT K a) H1
theorem pi_enumT {X : Cx} {e : Expr} {ta : TA} {p pos tpos : Pos} {elts : List Expr} {kk : Nat} (hg : Gl X "enumerate") (hm : X.mg "enumerate" = none) (ha : PA X [e] ta) (hs : starEach [e] X.env = [(false, eval e X.env)] := by rfl) :
    PI X (.Tuple elts kk tpos) (.Call (.Name "enumerate" p) [e] [] pos) (iEnumT X.K ta) := by
  refine ⟨fun pins s σ H R I h => ?_⟩
  refine PyProof.Rows.Call_ (ld_blt I hg hm PyProof.Rows.boot_enumerate (PyProof.Rows.callWith_type1 (thn (ha.run pos pins s σ H _ I h) fun us s1 ⟨vs, H1, I1, r1, q1⟩ => ?_) hs rfl))
  obtain ⟨a, xs, ex, hq, q⟩ := q1
  subst ex
  cases r1 with
  | cons r rr =>
    cases rr
    cases r
    obtain ⟨its, rv, p', hz⟩ := I1.tuple hq
    have p2 : s1.heap.IsTuple a its.toArray := p'
    have hal : a < s1.heap.objs.size := by obtain ⟨_, z, _⟩ := p2; exact Heap.lt_size z
    refine call_enumerate_tuple p2 fun h' he hit hsz hk => wpAny_pyIter_enum he ?_
    have I2 : Inv X pins σ H1 { s1 with heap := h' } := I1.kept (t' := s1.toks) hk
    refine ⟨s1.heap.objs.size + 1, [s1.heap.objs.size + 1, s1.heap.objs.size], _, _, H1, rfl, I2, turn_enumT a (s1.heap.objs.size + 1) s1.heap.objs.size (Nat.ne_of_lt hal) (Nat.ne_of_lt (Nat.lt_succ_of_lt hal)), ⟨⟨.none, he⟩, hit, Nat.succ_ne_self _⟩, fun b hb => ?_, q⟩
    have e' : b = s1.heap.objs.size + 1 ∨ b = s1.heap.objs.size := by simpa using hb
    have hle : s1.heap.objs.size ≤ b := by
      rcases e' with z | z
      · rw [z]; exact Nat.le_add_right _ _
      · rw [z]; exact Nat.le_refl _
    exact I1.fpOk hle (I1.hok.fresh hle)
end DL
namespace DL
open PySem PySem.Spec PyProof.Rows L2
/-- a dict by None, ints, texts -/
def FD (pg : Program) (w : World) (a : Addr) (us : List (Option Key × V)) : HO := .ext fun h =>
  us.length ≤ sizeLine ∧ (a == sysModules) = false ∧ ∃ vs, KV us vs ∧ h.DictOf (noneKind pg w) a vs
def kVo : Option Key → V
  | none => .non
  | some k => kV k
theorem kVo_is {P : Program} {w : World} {k : Option Key} {u : Value} (r : RelV (kVo k) u) : (noneKind P w).is k u = true := by
  cases k with
  | none => have r : u = Value.none := r; subst r; rfl
  | some k => exact kV_is (P := P) (w := w) r
section
variable {X : Cx} {pins : List (Addr × Obj)} {σ : L2.St} {H : Hp} {s : Shared} {a : Addr} {y v : V} {u r : Value} {A : Around} {E : Value → Shared → Prop} {us : List (Option Key × V)} {k : Option Key}
theorem fd_of (I : Inv X pins σ H s) (e : H a = some (FD X.prog X.w a us)) : us.length ≤ sizeLine ∧ (a == sysModules) = false ∧ ∃ vs, KV us vs ∧ s.heap.DictOf (noneKind X.prog X.w) a vs := by
  obtain ⟨z, _, _⟩ := I.hok a _ e
  exact z
theorem fd_getItem {Q : Value → Shared → Prop} (I : Inv X pins σ H s) (e : H a = some (FD X.prog X.w a us)) (l : valV us k = some v) (ry : RelV (kVo k) u) (h : ∀ w' s', Inv X pins σ H s' → RelV v w' → Q w' s') :
    wpAny (model X.prog X.w) A (getItem (.ref a) u) Q E s := by
  obtain ⟨z, hd, vs, rel, dd⟩ := fd_of I e
  obtain ⟨w', hw, rw'⟩ := RelO.some_of (v := v) (o := valueAt vs k) (by rw [← l]; exact rel.val k)
  exact wpAny_getItem_of (kVo_is ry) dd.mapOf hw (h w' _ (I.tok _) rw')
theorem fd_in {Q : Value → Shared → Prop} (I : Inv X pins σ H s) (e : H a = some (FD X.prog X.w a us)) (ry : RelV (kVo k) u) (h : ∀ s', Inv X pins σ H s' → Q (.bool (valV us k).isSome) s') :
    wpAny (model X.prog X.w) A (compareOp .In u (.ref a)) Q E s := by
  obtain ⟨z, hd, vs, rel, dd⟩ := fd_of I e
  refine wpAny_in_of (kVo_is ry) hd dd.mapOf ?_
  rw [← (rel.val k).isSome_eq]
  exact h _ (I.tok _)
theorem fd_notIn {Q : Value → Shared → Prop} (I : Inv X pins σ H s) (e : H a = some (FD X.prog X.w a us)) (ry : RelV (kVo k) u) (h : ∀ s', Inv X pins σ H s' → Q (.bool (!(valV us k).isSome)) s') :
    wpAny (model X.prog X.w) A (compareOp .NotIn u (.ref a)) Q E s := by
  obtain ⟨z, hd, vs, rel, dd⟩ := fd_of I e
  refine wpAny_notIn_of (kVo_is ry) hd dd.mapOf ?_
  rw [← (rel.val k).isSome_eq]
  exact h _ (I.tok _)
theorem fd_ok {P : Program} {w : World} {H' : Hp} {h' : Heap} {us : List (Option Key × V)} {vs : List (Option Key × Value)} (z : us.length ≤ sizeLine) (hd : (a == sysModules) = false) (rel : KV us vs) (dd : h'.DictOf (noneKind P w) a vs) :
    ObjOk P w H' h' a (FD P w a us) := by
  refine ⟨⟨z, hd, vs, rel, dd⟩, ?_, ?_⟩
  · obtain ⟨o, _, _, ho, _⟩ := dd; exact ⟨o, ho⟩
  · rintro h1 h2 ⟨z, hd, vs, rel, o, es, ep, ho, hx, hdt, hk, hp, hn⟩ st
    exact ⟨z, hd, vs, rel, o, es, ep, st _ ho, hx, hdt, hk, hp, hn⟩
theorem fd_setItem {Q : Unit → Shared → Prop} (I : Inv X pins σ H s) (e : H a = some (FD X.prog X.w a us)) (l : us.length < sizeLine) (ry : RelV (kVo k) u) (rv : RelV v r)
    (h : ∀ s', Inv X pins σ (upd H a (FD X.prog X.w a (putK us k v))) s' → Q () s') : wpAny (model X.prog X.w) A (setItem (.ref a) u r) Q E s := by
  obtain ⟨z, hd, vs, rel, dd⟩ := fd_of I e
  have hz : vs.length ≤ sizeLine := by rw [← rel.length]; exact z
  have hl : (putK us k v).length ≤ sizeLine := by have := length_putK us k v; omega
  refine wpAny_setItem_pairs (hsz := hz) (kVo_is ry) dd fun h' dd' hs => h _ ?_
  have he : ∃ q, h'.get? a = some q := let ⟨q, _, _, hq, _⟩ := dd'; ⟨q, hq⟩
  exact d_write I (by rw [e]; exact True.intro) hs he (fd_ok hl hd (rel.put k rv) dd')
end
/-- the entries: the key, where its tuple lies, the value -/
def TD (pg : Program) (w : World) (a : Addr) (es : List (NestedKey × Addr × V)) : HO := .ext fun h =>
  es.length ≤ sizeLine ∧ (a == sysModules) = false ∧ ∃ xs : List (NestedKey × Addr × Value), Paired (fun (p : NestedKey × Addr × V) (q : NestedKey × Addr × Value) => p.1 = q.1 ∧ p.2.1 = q.2.1 ∧ RelV p.2.2 q.2.2) es xs ∧
    ∃ o e ep, h.get? a = some o ∧ o.ExactDict ∧ o.data = .dict e ep ∧ e.toList = xs.map (entryOfKey (nestedKind pg w)) ∧ (xs.map (·.1)).Nodup
def tVal (es : List (NestedKey × Addr × V)) (k : NestedKey) : Option V := (es.find? fun x => decide (x.1 = k)).map (·.2.2)
def tPut (es : List (NestedKey × Addr × V)) (k : NestedKey) (b : Addr) (v : V) : List (NestedKey × Addr × V) :=
  if (es.any fun x => decide (x.1 = k)) = true then es.map (fun x => if x.1 = k then (x.1, x.2.1, v) else x) else es ++ [(k, b, v)]
abbrev TR : List (NestedKey × Addr × V) → List (NestedKey × Addr × Value) → Prop := Paired fun p q => p.1 = q.1 ∧ p.2.1 = q.2.1 ∧ RelV p.2.2 q.2.2
theorem TR.val {es xs} (r : TR es xs) (k : NestedKey) : RelO (tVal es k) ((atKey xs k).map (·.2)) := by
  induction r with
  | nil => exact True.intro
  | @cons p q ps qs h t ih =>
    obtain ⟨h1, _, h2⟩ := h
    by_cases e : p.1 = k
    · have e' : q.1 = k := h1.symm.trans e
      have b : atKey (q :: qs) k = some q.2 := by simp [atKey, List.find?_cons, e']
      have c : tVal (p :: ps) k = some p.2.2 := by simp [tVal, List.find?_cons, e]
      rw [c, b]; exact h2
    · have e' : ¬ q.1 = k := fun z => e (h1.trans z)
      have b : atKey (q :: qs) k = atKey qs k := by simp [atKey, List.find?_cons, e']
      have c : tVal (p :: ps) k = tVal ps k := by simp [tVal, List.find?_cons, e]
      rw [c, b]; exact ih
theorem TR.any {es xs} (r : TR es xs) (k : NestedKey) : (es.any fun x => decide (x.1 = k)) = (atKey xs k).isSome := by
  induction r with
  | nil => rfl
  | @cons p q ps qs h t ih =>
    obtain ⟨h1, _, h2⟩ := h
    rw [List.any_cons, ih]
    by_cases e : p.1 = k
    · have e' : q.1 = k := h1.symm.trans e
      have b : atKey (q :: qs) k = some q.2 := by simp [atKey, List.find?_cons, e']
      rw [b]; simp [e]
    · have e' : ¬ q.1 = k := fun z => e (h1.trans z)
      have b : atKey (q :: qs) k = atKey qs k := by simp [atKey, List.find?_cons, e']
      rw [b]; simp [e]
theorem TR.put {es xs} (r : TR es xs) (k : NestedKey) {b : Addr} {v : V} {u : Value} (rv : RelV v u) : TR (tPut es k b v) (storedH xs k b u) := by
  unfold tPut storedH
  rw [r.any]
  by_cases q : (atKey xs k).isSome = true
  · rw [if_pos q, if_pos q]
    clear q
    induction r with
    | nil => exact .nil
    | @cons p q ps qs h t ih =>
      rw [List.map_cons, List.map_cons]
      refine .cons ?_ ih
      obtain ⟨h1, h2, h3⟩ := h
      unfold putAt
      by_cases e : p.1 = k
      · rw [if_pos e, if_pos (h1.symm.trans e)]; exact ⟨h1, h2, rv⟩
      · rw [if_neg e, if_neg (fun z => e (h1.trans z))]; exact ⟨h1, h2, h3⟩
  · rw [if_neg q, if_neg q]; exact Paired.snoc r ⟨rfl, rfl, rv⟩
theorem tPut_len (es : List (NestedKey × Addr × V)) (k : NestedKey) (b : Addr) (v : V) : (tPut es k b v).length ≤ es.length + 1 := by
  unfold tPut
  split
  · rw [List.length_map]; omega
  · rw [List.length_append]; simp
theorem nested_room {A : Around} (hu : A.units + 10 < cLine) {pg : Program} {w : World} : (nestedKind pg w).room A.in1 := by
  show A.in1.units + 8 < cLine
  rw [Around.in1_units]; omega
section
variable {X : Cx} {pins : List (Addr × Obj)} {σ : L2.St} {H : Hp} {s : Shared} {a b : Addr} {y v : V} {u r : Value} {A : Around} {E : Value → Shared → Prop} {es : List (NestedKey × Addr × V)} {k : NestedKey}
/-- the keys lie as they should -/
def KeysAt (pg : Program) (w : World) (h : Heap) (es : List (NestedKey × Addr × V)) : Prop := ∀ x ∈ es, (nestedKind pg w).is h x.1 x.2.1
theorem td_of (I : Inv X pins σ H s) (e : H a = some (TD X.prog X.w a es)) (hk : KeysAt X.prog X.w s.heap es) : es.length ≤ sizeLine ∧ (a == sysModules) = false ∧ ∃ xs, TR es xs ∧ s.heap.DictOfH (nestedKind X.prog X.w) a xs := by
  obtain ⟨⟨z, hd, xs, r, o, e1, ep, h1, h2, h3, h4, h5⟩, _, _⟩ := I.hok a _ e
  refine ⟨z, hd, xs, r, o, e1, ep, h1, h2, h3, h4, fun x hx => ?_, h5⟩
  have : ∀ {l m}, TR l m → (∀ x ∈ l, (nestedKind X.prog X.w).is s.heap x.1 x.2.1) → ∀ x ∈ m, (nestedKind X.prog X.w).is s.heap x.1 x.2.1 := by
    intro l m r
    induction r with
    | nil => intro _ x hx; cases hx
    | @cons p q ps qs h t ih =>
      intro hl x hx
      rcases List.mem_cons.mp hx with e | hx
      · subst e
        obtain ⟨h1, h2, _⟩ := h
        rw [← h1, ← h2]
        exact hl p List.mem_cons_self
      · exact ih (fun y hy => hl y (List.mem_cons_of_mem _ hy)) x hx
  exact this r hk x hx
theorem td_getItem {Q : Value → Shared → Prop} (hu : A.units + 10 < cLine) (I : Inv X pins σ H s) (e : H a = some (TD X.prog X.w a es)) (hk : KeysAt X.prog X.w s.heap es) (hb : (nestedKind X.prog X.w).is s.heap k b) (l : tVal es k = some v)
    (h : ∀ w' s', Inv X pins σ H s' → RelV v w' → Q w' s') : wpAny (model X.prog X.w) A (getItem (.ref a) (.ref b)) Q E s := by
  obtain ⟨z, hd, xs, rel, dd⟩ := td_of I e hk
  obtain ⟨w', hw, rw'⟩ := RelO.some_of (v := v) (o := (atKey xs k).map (·.2)) (by rw [← l]; exact rel.val k)
  obtain ⟨p, hp, hp2⟩ := Option.map_eq_some_iff.mp hw
  refine wpAny_getItem_heap (nested_room hu) hb dd hp ?_
  rw [hp2]
  exact h w' _ (I.tok _) rw'
theorem td_in {Q : Value → Shared → Prop} (hu : A.units + 10 < cLine) (I : Inv X pins σ H s) (e : H a = some (TD X.prog X.w a es)) (hk : KeysAt X.prog X.w s.heap es) (hb : (nestedKind X.prog X.w).is s.heap k b)
    (h : ∀ s', Inv X pins σ H s' → Q (.bool (tVal es k).isSome) s') : wpAny (model X.prog X.w) A (compareOp .In (.ref b) (.ref a)) Q E s := by
  obtain ⟨z, hd, xs, rel, dd⟩ := td_of I e hk
  refine wpAny_in_heap (nested_room hu) hb hd dd ?_
  have q := (rel.val k).isSome_eq
  rw [Option.isSome_map] at q
  rw [← q]
  exact h _ (I.tok _)
theorem td_notIn {Q : Value → Shared → Prop} (hu : A.units + 10 < cLine) (I : Inv X pins σ H s) (e : H a = some (TD X.prog X.w a es)) (hk : KeysAt X.prog X.w s.heap es) (hb : (nestedKind X.prog X.w).is s.heap k b)
    (h : ∀ s', Inv X pins σ H s' → Q (.bool (!(tVal es k).isSome)) s') : wpAny (model X.prog X.w) A (compareOp .NotIn (.ref b) (.ref a)) Q E s := by
  obtain ⟨z, hd, xs, rel, dd⟩ := td_of I e hk
  refine wpAny_notIn_heap (nested_room hu) hb hd dd ?_
  have q := (rel.val k).isSome_eq
  rw [Option.isSome_map] at q
  rw [← q]
  exact h _ (I.tok _)
theorem td_ok {P : Program} {w : World} {H' : Hp} {h' : Heap} {xs : List (NestedKey × Addr × Value)} (z : es.length ≤ sizeLine) (hd : (a == sysModules) = false) (rel : TR es xs) (dd : h'.DictOfH (nestedKind P w) a xs) :
    ObjOk P w H' h' a (TD P w a es) := by
  obtain ⟨o, e1, ep, h1, h2, h3, h4, _, h5⟩ := dd
  refine ⟨⟨z, hd, xs, rel, o, e1, ep, h1, h2, h3, h4, h5⟩, ⟨o, h1⟩, ?_⟩
  rintro g1 g2 ⟨z, hd, xs, rel, o, e1, ep, h1, h2, h3, h4, h5⟩ st
  exact ⟨z, hd, xs, rel, o, e1, ep, st _ h1, h2, h3, h4, h5⟩
theorem td_setItem {Q : Unit → Shared → Prop} (hu : A.units + 10 < cLine) (I : Inv X pins σ H s) (e : H a = some (TD X.prog X.w a es)) (hk : KeysAt X.prog X.w s.heap es) (hb : (nestedKind X.prog X.w).is s.heap k b) (l : es.length < sizeLine) (rv : RelV v r)
    (h : ∀ s', Inv X pins σ (upd H a (TD X.prog X.w a (tPut es k b v))) s' → Q () s') : wpAny (model X.prog X.w) A (setItem (.ref a) (.ref b) r) Q E s := by
  obtain ⟨z, hd, xs, rel, dd⟩ := td_of I e hk
  have hz : xs.length ≤ sizeLine := by rw [← Paired.length rel]; exact z
  have hl : (tPut es k b v).length ≤ sizeLine := by have := tPut_len es k b v; omega
  refine wpAny_setItem_heap (hsz := hz) (nested_room hu) hb dd fun h' dd' hs => h _ ?_
  have he : ∃ q, h'.get? a = some q := let ⟨q, _, _, hq, _⟩ := dd'; ⟨q, hq⟩
  exact d_write I (by rw [e]; exact True.intro) hs he (td_ok hl hd (rel.put k rv) dd')
end
theorem pe_dnewF {X : Cx} {pos : Pos} : PE X (.Dict [] [] pos) fun _ H Q => ∀ p, H p = none → Q (.ref p) (upd H p (FD X.prog X.w p [])) := ⟨fun pins s σ H Q I h =>
  wpAny_Dict_empty ⟨.ref s.heap.objs.size, _, I.laid (a := s.heap.objs.size) (o := FD X.prog X.w s.heap.objs.size []) (t' := s.toks) (fun _ _ q => Heap.get?_push_of_some _ q) (Nat.le_refl _)
    (fd_ok (vs := []) (Nat.zero_le _) (beq_eq_false_iff_ne.mpr (Nat.ne_of_gt I.big)) .nil ⟨_, #[], 0, Heap.get?_push_size _ rfl, ⟨rfl, rfl, rfl⟩, rfl, fun _ he => by simp at he, by constructor, by simp⟩), rfl, h _ (I.hok.fresh (Nat.le_refl _))⟩⟩
theorem pe_dnewT {X : Cx} {pos : Pos} : PE X (.Dict [] [] pos) fun _ H Q => ∀ p, H p = none → Q (.ref p) (upd H p (TD X.prog X.w p [])) := ⟨fun pins s σ H Q I h =>
  wpAny_Dict_empty ⟨.ref s.heap.objs.size, _, I.laid (a := s.heap.objs.size) (o := TD X.prog X.w s.heap.objs.size []) (t' := s.toks) (fun _ _ q => Heap.get?_push_of_some _ q) (Nat.le_refl _)
    (td_ok (xs := []) (Nat.zero_le _) (beq_eq_false_iff_ne.mpr (Nat.ne_of_gt I.big)) .nil ⟨_, #[], 0, Heap.get?_push_size _ rfl, ⟨rfl, rfl, rfl⟩, rfl, rfl, fun _ he => (nomatch he), by simp⟩), rfl, h _ (I.hok.fresh (Nat.le_refl _))⟩⟩
structure PD (X : Cx) (KS : List Str) (keys : List (Option Expr)) (values : List Expr) (t : TA) : Prop where
  run : ∀ (pos : Pos) (pins : List (Addr × Obj)) (s : Shared) (σ : L2.St) (H : Hp) (Q : List V → Hp → Prop), Inv X pins σ H s → t σ H Q →
    wpAny (model X.prog X.w) X.A (evalPairs (pairTrees keys values X.env pos)) (fun ws s' => ∃ us H', Inv X pins σ H' s' ∧ us.length = KS.length ∧ VV ((KS.zip us).map fun p => (V.str p.1, p.2)) ws ∧ Q us H') X.xe s
theorem pd_nil {X : Cx} : PD X [] [] [] (fun _ H Q => Q [] H) := ⟨fun pos pins s σ H Q I h => pairTrees_nil_walk ⟨[], H, I, rfl, .nil, h⟩⟩
theorem pd_cons {X : Cx} {KS : List Str} {k : Str} {a : Nat} {b : Pos} {v : Expr} {keys : List (Option Expr)} {values : List Expr} {tv : TE} {tr : TA} (hv : PE X v tv) (hr : PD X KS keys values tr) :
    PD X (k :: KS) (some (.Constant (.str k) a b) :: keys) (v :: values) (fun σ H Q => tv σ H fun y H2 => tr σ H2 fun us H3 => Q (y :: us) H3) := ⟨fun pos pins s σ H Q I h =>
  pairTrees_cons_walk (thn ((pe_str (x := k) (j := a) (pos := b)).run pins s σ H (fun x H1 => x = .str k ∧ H1 = H) I ⟨rfl, rfl⟩) fun u s1 ⟨x, H1, I1, rx, ex, e1⟩ => by
    subst ex; subst e1
    exact thn (hv.run pins s1 σ _ _ I1 h) fun w2 s2 ⟨y, H2, I2, ry, q2⟩ =>
      thn (hr.run pos pins s2 σ H2 _ I2 q2) fun ws s3 ⟨us, H3, I3, hl, rel, q3⟩ => ⟨y :: us, H3, I3, by rw [List.length_cons, List.length_cons, hl], .cons ⟨rx, ry⟩ rel, q3⟩)⟩
def fPut (l : List (Str × V)) (acc : List (Option Key × V)) : List (Option Key × V) := l.foldl (fun acc kv => putK acc (some (.inr kv.1)) kv.2) acc
theorem fPut_len : ∀ (l : List (Str × V)) (acc : List (Option Key × V)), (fPut l acc).length ≤ acc.length + l.length
  | [], acc => Nat.le_refl _
  | p :: l, acc => by
    have h1 := fPut_len l (putK acc (some (.inr p.1)) p.2)
    have h2 := length_putK acc (some (.inr p.1) : Option Key) p.2
    show (fPut l (putK acc (some (.inr p.1)) p.2)).length ≤ _
    rw [List.length_cons]; omega
theorem carriesF {P : Program} {w : World} : ∀ {l : List (Str × V)} {ws : List (Value × Value)}, VV (l.map fun p => (V.str p.1, p.2)) ws → ∃ rs : List (Option Key × Value), Carries (noneKind P w) ws rs ∧ ∀ {acc vs}, KV acc vs → KV (fPut l acc) (merged vs rs)
  | [], _, r => by rw [List.map_nil] at r; cases r; exact ⟨[], True.intro, fun q => q⟩
  | p :: l, _, r => by
    rw [List.map_cons] at r
    cases r with
    | @cons a b as bs h t =>
      obtain ⟨rs, c, q⟩ := carriesF (P := P) (w := w) t
      obtain ⟨b1, b2⟩ := b
      have h1 : (noneKind P w).is (some (.inr p.1)) b1 = true := kVo_is (P := P) (w := w) (k := some (.inr p.1)) h.1
      exact ⟨(some (.inr p.1), b2) :: rs, ⟨h1, rfl, c⟩, fun q0 => q (q0.put _ h.2)⟩
theorem pe_dlitF {X : Cx} {pos : Pos} {KS : List Str} {keys : List (Option Expr)} {values : List Expr} {t : TA} (h : PD X KS keys values t) (hall : keys.all (·.isSome) = true) (hl : keys.length = values.length) (h0 : keys ≠ []) (h15 : keys.length ≤ 15) (hk : KS.length ≤ 15) :
    PE X (.Dict keys values pos) fun σ H Q => ∀ p, H p = none → t σ (upd H p (FD X.prog X.w p [])) fun us H2 => H2 p = some (FD X.prog X.w p []) ∧ Q (.ref p) (upd H2 p (FD X.prog X.w p (fPut (KS.zip us) []))) := by
  refine ⟨fun pins s σ H Q I q => ?_⟩
  have hn := I.hok.fresh (Nat.le_refl s.heap.objs.size)
  have I1 := I.laid (a := s.heap.objs.size) (o := FD X.prog X.w s.heap.objs.size []) (h' := s.heap.push { cls := .type "dict", data := .dict #[] }) (t' := s.toks) (fun _ _ q => Heap.get?_push_of_some _ q) (Nat.le_refl _)
    (fd_ok (vs := []) (Nat.zero_le _) (beq_eq_false_iff_ne.mpr (Nat.ne_of_gt I.big)) .nil ⟨_, #[], 0, Heap.get?_push_size _ rfl, ⟨rfl, rfl, rfl⟩, rfl, fun _ he => by simp at he, by constructor, by simp⟩)
  refine wpAny_Dict_walk (knd := noneKind X.prog X.w) hall hl h0 h15 (thn (h.run pos pins _ σ _ _ I1 (q _ hn)) fun ws s2 ⟨us, H2, I2, hlen, rel, e, q2⟩ => ?_)
  obtain ⟨rs, c, rk⟩ := carriesF (P := X.prog) (w := X.w) rel
  obtain ⟨z, hd, vs0, r0, dd⟩ := fd_of I2 e
  cases r0
  refine ⟨rs, c, dd, fun h' dd' hs => ⟨.ref s.heap.objs.size, _, ?_, rfl, q2⟩⟩
  have hz : (fPut (KS.zip us) []).length ≤ sizeLine := by
    have h1 := fPut_len (KS.zip us) []
    rw [List.length_nil, List.length_zip, hlen] at h1
    rw [sizeLine_eq]; omega
  have he : ∃ q, h'.get? s.heap.objs.size = some q := let ⟨q, _, _, hq, _⟩ := dd'; ⟨q, hq⟩
  exact d_write I2 (by rw [e]; exact True.intro) hs he (fd_ok hz hd (rk .nil) dd')
def tFGet2 (pg : Program) (wl : World) (td ty tx : TE) : TE := fun σ H Q => td σ H fun x H1 => ∃ a us, x = .ref a ∧ H1 a = some (FD pg wl a us) ∧ ty σ H1 fun y H2 => tx σ H2 fun z H3 => ∃ us k, H3 a = some (FD pg wl a us) ∧ y = kVo k ∧ Q ((valV us k).getD z) H3
theorem fd_get2 {X : Cx} {pins : List (Addr × Obj)} {σ : L2.St} {H : Hp} {s : Shared} {a : Addr} {z : V} {u r : Value} {A : Around} {E : Value → Shared → Prop} {us : List (Option Key × V)} {k : Option Key} {Q : Value → Shared → Prop} (hu : A.units + 1 < cLine) (I : Inv X pins σ H s) (e : H a = some (FD X.prog X.w a us)) (ry : RelV (kVo k) u) (rd : RelV z r)
    (h : ∀ w' s', Inv X pins σ H s' → RelV ((valV us k).getD z) w' → Q w' s') : wpAny (model X.prog X.w) A (call (.builtin "dict.get") [.ref a, u, r]) Q E s := by
  obtain ⟨_, hd, vs, rel, dd⟩ := fd_of I e
  refine call_meetsIn PySem.F.slot_dict_get dd.typeIs PySem.F.entry_dict_get (PySem.F.args_dict_get_3 _ _ _) (meets_dict_get_default (noneKind X.prog X.w) a (kVo_is ry) hd r) ⟨_, dd.mapOf, h _ _ (I.tok _) ?_⟩
  exact (rel.val k).getD rd
theorem pe_fget2 {X : Cx} {o e f : Expr} {apos cpos : Pos} {td ty tx : TE} (hu : X.A.units + 1 < cLine) (ho : PE X o td) (he : PE X e ty) (hf : PE X f tx) (m : M2 X o "get" apos e f cpos) : PE X (.Call (.Attribute o "get" apos) [e, f] [] cpos) (tFGet2 X.prog X.w td ty tx) := by
  refine ⟨fun pins s σ H Q I h => ?_⟩
  refine wpAny_Call_method m.base m.few m.line PySem.F.plainAttrs_dict PySem.F.slot_dict_get PySem.F.type_dict_get (thn (ho.run pins s σ H _ I h) fun u s1 ⟨x, H1, I1, rx, a, us, ex, d, q1⟩ => ?_)
  subst ex
  obtain rfl : u = Value.ref a := rx
  obtain ⟨_, hd, vs, _, dd⟩ := fd_of I1 d
  have t2 : ∀ b, Value.ref a = .ref b → ∃ ob, s1.heap.get? b = some ob ∧ ob.dict = none := fun b q => by
    cases q
    obtain ⟨ob, _, _, h1, h2, _⟩ := dd
    exact ⟨ob, h1, h2.2.1⟩
  refine ⟨dd.typeIs, t2, ?_⟩
  rw [m.trees]
  refine Calls.callWith_builtin rfl (Calls.evalArgs_plain (Calls.spliced_cons (thn (he.run pins s1 σ H1 _ I1 q1) fun iv s2 ⟨y, H2, I2, ry, q2⟩ =>
    Calls.spliced_cons (thn (hf.run pins s2 σ H2 _ I2 q2) fun fv s3 ⟨z, H3, I3, rz, us3, k, e3, ey, q3⟩ => Calls.spliced_nil ?_))))
  subst ey
  exact fd_get2 hu I3 e3 ry rz fun w' s4 I4 rw' => ⟨_, H3, I4, rw', q3⟩
end DL
namespace DL
open PySem L2
/-- data: what a name holds, tuples and settled lists by value; ref k: the k-th changing object -/
inductive D where
  | non | bl (b : Bool) | int (i : Int) | str (s : Str) | tup (ds : List D) | lst (ds : List D) | scr (ns : List Int) | ref (k : Nat) | obj (c : Str) (ns : List Str) (ds : List D)
  | exc (a : Addr) (od : Option Addr) (c : Str) (ns : List Str) (ds : List D)
/-- a changing object; dead: one that is settled or let go -/
inductive MO where
  | lst (ds : List D) | dct (kvs : List (Option Key × D)) | dctT (kvs : List (D × D)) | ins (c : Str) (fs : List (Str × D)) | fn (F : NdefX.NF) (n : Nat) (cs : List D) (cvs : List V) | dead
abbrev Md := List MO
abbrev Std := List (Option D)
/-- how data lie: F what is settled, r where the changing objects stand -/
structure Wd where
  F : Hp
  r : List Addr
/-- the classes of the text -/
structure Pm where
  pg : Program
  wl : World
  K : PySem.W.Frag
  cls : Str → Addr
  T : List NdefX.NTab
mutual
def RelD (P : Pm) (w : Wd) : D → V → Prop
  | .non, v => v = .non
  | .bl b, v => v = .bl b
  | .int i, v => v = .int i
  | .str s, v => v = .str s
  | .tup ds, v => ∃ p vs, v = .ref p ∧ SqT P.K w.F p vs ∧ RelDs P w ds vs
  | .lst ds, v => ∃ p vs, v = .ref p ∧ w.F p = some (.lst vs) ∧ RelDs P w ds vs
  | .scr ns, v => ∃ p, v = .ref p ∧ SqL P.K w.F p (ns.map V.int)
  | .ref k, v => ∃ p, v = .ref p ∧ w.r[k]? = some p
  | .obj c ns ds, v => ∃ p dx vs, v = .ref p ∧ w.F p = some (.ins (P.cls c) dx (ns.zip vs)) ∧ ns.length = ds.length ∧ RelDs P w ds vs
  | .exc a od _ ns ds, v => ∃ vs, v = .ref a ∧ (∀ d, od = some d → w.F d = some (.xd (ns.zip vs))) ∧ ns.length = ds.length ∧ RelDs P w ds vs
def RelDs (P : Pm) (w : Wd) : List D → List V → Prop
  | [], vs => vs = []
  | d :: ds, vs => ∃ v r, vs = v :: r ∧ RelD P w d v ∧ RelDs P w ds r
end
structure Le (w w' : Wd) : Prop where
  F : ∀ a o, w.F a = some o → w'.F a = some o
  r : ∀ (k : Nat) p, w.r[k]? = some p → w'.r[k]? = some p
theorem Le.refl (w : Wd) : Le w w := ⟨fun _ _ h => h, fun _ _ h => h⟩
theorem Le.trans {a b c : Wd} (x : Le a b) (y : Le b c) : Le a c := ⟨fun p o h => y.F p o (x.F p o h), fun k p h => y.r k p (x.r k p h)⟩
theorem rd_mono {H H' : Hp} (e : ∀ a o, H a = some o → H' a = some o) {a : Addr} {u : HO} (h : Rd H a u) : Rd H' a u := by
  rcases h with h | ⟨o, h⟩
  · exact .inl (e _ _ h)
  · exact .inr ⟨o, e _ _ h⟩
theorem sqT_mono {K : PySem.W.Frag} {H H' : Hp} (e : ∀ a o, H a = some o → H' a = some o) {a : Addr} {xs : List V} (h : SqT K H a xs) : SqT K H' a xs := by
  rcases h with h | h
  · exact .inl (rd_mono e h)
  · exact .inr h
theorem sqL_mono {K : PySem.W.Frag} {H H' : Hp} (e : ∀ a o, H a = some o → H' a = some o) {a : Addr} {xs : List V} (h : SqL K H a xs) : SqL K H' a xs := by
  rcases h with h | h
  · exact .inl (rd_mono e h)
  · exact .inr h
section
variable {P : Pm} {w w' : Wd}
mutual
theorem RelD.mono (l : Le w w') : ∀ {d : D} {v : V}, RelD P w d v → RelD P w' d v
  | .non, _, h => h
  | .bl _, _, h => h
  | .int _, _, h => h
  | .str _, _, h => h
  | .tup ds, _, ⟨p, vs, e, hp, hs⟩ => ⟨p, vs, e, sqT_mono l.F hp, RelDs.mono l hs⟩
  | .lst ds, _, ⟨p, vs, e, hp, hs⟩ => ⟨p, vs, e, l.F _ _ hp, RelDs.mono l hs⟩
  | .scr _, _, ⟨p, e, hp⟩ => ⟨p, e, sqL_mono l.F hp⟩
  | .ref _, _, ⟨p, e, hp⟩ => ⟨p, e, l.r _ _ hp⟩
  | .obj c ns ds, _, ⟨p, dx, vs, e, hp, hl, hs⟩ => ⟨p, dx, vs, e, l.F _ _ hp, hl, RelDs.mono l hs⟩
  | .exc a od c ns ds, _, ⟨vs, e, hp, hl, hs⟩ => ⟨vs, e, fun d hd => l.F _ _ (hp d hd), hl, RelDs.mono l hs⟩
theorem RelDs.mono (l : Le w w') : ∀ {ds : List D} {vs : List V}, RelDs P w ds vs → RelDs P w' ds vs
  | [], _, h => h
  | d :: ds, _, ⟨v, r, e, h1, h2⟩ => ⟨v, r, e, RelD.mono l h1, RelDs.mono l h2⟩
end
theorem RelDs.length : ∀ {ds : List D} {vs : List V}, RelDs P w ds vs → vs.length = ds.length
  | [], _, h => by
    have h : _ = [] := h
    rw [h]; rfl
  | d :: ds, _, ⟨v, r, e, h1, h2⟩ => by rw [e, List.length_cons, List.length_cons, RelDs.length h2]
theorem RelDs.nil : RelDs P w [] [] := rfl
theorem RelDs.cons {d : D} {ds : List D} {v : V} {vs : List V} (h : RelD P w d v) (t : RelDs P w ds vs) : RelDs P w (d :: ds) (v :: vs) := ⟨v, vs, rfl, h, t⟩
theorem RelDs.append : ∀ {ds es : List D} {vs us : List V}, RelDs P w ds vs → RelDs P w es us → RelDs P w (ds ++ es) (vs ++ us)
  | [], _, _, _, h, t => by
    have h : _ = [] := h
    rw [h]; exact t
  | d :: ds, _, _, _, ⟨v, r, e, h1, h2⟩, t => by rw [e]; exact ⟨v, _, rfl, h1, RelDs.append h2 t⟩
theorem RelDs.get : ∀ {ds : List D} {vs : List V} {i : Nat} {d : D}, RelDs P w ds vs → ds[i]? = some d → ∃ v, vs[i]? = some v ∧ RelD P w d v
  | [], _, _, _, _, h => by simp at h
  | d :: ds, _, 0, _, ⟨v, r, e, h1, h2⟩, h => by
    simp at h; subst h; rw [e]; exact ⟨v, rfl, h1⟩
  | d :: ds, _, i + 1, _, ⟨v, r, e, h1, h2⟩, h => by
    rw [e]
    simpa using RelDs.get (i := i) h2 (by simpa using h)
theorem RelDs.set : ∀ {ds : List D} {vs : List V} {d : D} {v : V} (i : Nat), RelD P w d v → RelDs P w ds vs → RelDs P w (ds.set i d) (vs.set i v)
  | [], _, _, _, _, _, h => by
    have h : _ = [] := h
    rw [h]; rfl
  | d :: ds, _, _, _, 0, q, ⟨v, r, e, h1, h2⟩ => by rw [e]; exact ⟨_, _, rfl, q, h2⟩
  | d :: ds, _, _, _, i + 1, q, ⟨v, r, e, h1, h2⟩ => by rw [e]; exact ⟨_, _, rfl, h1, RelDs.set i q h2⟩
theorem RelDs.take : ∀ {ds : List D} {vs : List V} (n : Nat), RelDs P w ds vs → RelDs P w (ds.take n) (vs.take n)
  | _, _, 0, _ => by simp [RelDs]
  | [], _, n + 1, h => by
    have h : _ = [] := h
    rw [h]; rfl
  | d :: ds, _, n + 1, ⟨v, r, e, h1, h2⟩ => by rw [e]; exact ⟨_, _, rfl, h1, RelDs.take n h2⟩
theorem RelDs.drop : ∀ {ds : List D} {vs : List V} (n : Nat), RelDs P w ds vs → RelDs P w (ds.drop n) (vs.drop n)
  | _, _, 0, h => by simpa using h
  | [], _, n + 1, h => by
    have h : _ = [] := h
    rw [h]; rfl
  | d :: ds, _, n + 1, ⟨v, r, e, h1, h2⟩ => by rw [e]; exact RelDs.drop n h2
theorem RelDs.reverse : ∀ {ds : List D} {vs : List V}, RelDs P w ds vs → RelDs P w ds.reverse vs.reverse
  | [], _, h => by
    have h : _ = [] := h
    rw [h]; rfl
  | d :: ds, _, ⟨v, r, e, h1, h2⟩ => by
    rw [e, List.reverse_cons, List.reverse_cons]
    exact RelDs.append (RelDs.reverse h2) (.cons h1 .nil)
end
/-- entries, field by field -/
def RelKs {κ : Type} (P : Pm) (w : Wd) : List (κ × D) → List (κ × V) → Prop
  | [], us => us = []
  | (k, d) :: r, us => ∃ v us', us = (k, v) :: us' ∧ RelD P w d v ∧ RelKs P w r us'
theorem RelKs.mono {κ : Type} {P : Pm} {w w' : Wd} (l : Le w w') : ∀ {ds : List (κ × D)} {vs : List (κ × V)}, RelKs P w ds vs → RelKs P w' ds vs
  | [], _, h => h
  | (k, d) :: r, _, ⟨v, us', e, h2, h3⟩ => ⟨v, us', e, h2.mono l, RelKs.mono l h3⟩
theorem RelKs.length {κ : Type} {P : Pm} {w : Wd} : ∀ {ds : List (κ × D)} {vs : List (κ × V)}, RelKs P w ds vs → vs.length = ds.length
  | [], _, h => by
    have h : _ = [] := h
    rw [h]; rfl
  | (k, d) :: r, _, ⟨v, us', e, h2, h3⟩ => by rw [e, List.length_cons, List.length_cons, RelKs.length h3]
mutual
def keyN : D → Option NestedKey
  | .non => some .none
  | .bl b => some (.num (if b = true then 1 else 0))
  | .int i => some (.num i)
  | .str s => some (.text s)
  | .tup ds => (keyNs ds).map .tup
  | .lst _ => none
  | .scr _ => none
  | .ref _ => none
  | .obj _ _ _ => none
  | .exc _ _ _ _ _ => none
def keyNs : List D → Option (List NestedKey)
  | [] => some []
  | d :: ds => match keyN d, keyNs ds with
    | some k, some ks => some (k :: ks)
    | _, _ => none
end
/-- entries by tuples -/
def RelTs (P : Pm) (w : Wd) : List (D × D) → List (NestedKey × Addr × V) → Prop
  | [], es => es = []
  | (kd, d) :: r, es => ∃ k b v es', es = (k, b, v) :: es' ∧ keyN kd = some k ∧ k.depth ≤ 8 ∧ RelD P w kd (.ref b) ∧ RelD P w d v ∧ RelTs P w r es'
theorem RelTs.mono {P : Pm} {w w' : Wd} (l : Le w w') : ∀ {ds : List (D × D)} {es : List (NestedKey × Addr × V)}, RelTs P w ds es → RelTs P w' ds es
  | [], _, h => h
  | (kd, d) :: r, _, ⟨k, b, v, es', e, h1, h2, h3, h4, h5⟩ => ⟨k, b, v, es', e, h1, h2, h3.mono l, h4.mono l, RelTs.mono l h5⟩
theorem RelTs.length {P : Pm} {w : Wd} : ∀ {ds : List (D × D)} {es : List (NestedKey × Addr × V)}, RelTs P w ds es → es.length = ds.length
  | [], _, h => by
    have h : _ = [] := h
    rw [h]; rfl
  | (kd, d) :: r, _, ⟨k, b, v, es', e, h1, h2, h3, h4, h5⟩ => by rw [e, List.length_cons, List.length_cons, RelTs.length h5]
/-- a changing object as it stands at p -/
def CellOk (P : Pm) (w : Wd) (H : Hp) (p : Addr) : MO → Prop
  | .dead => True
  | .lst ds => w.F p = none ∧ ∃ vs, H p = some (.lst vs) ∧ RelDs P w ds vs
  | .dct kvs => w.F p = none ∧ ∃ us, H p = some (FD P.pg P.wl p us) ∧ RelKs P w kvs us
  | .dctT kvs => w.F p = none ∧ ∃ es, H p = some (TD P.pg P.wl p es) ∧ RelTs P w kvs es
  | .ins c fs => w.F p = none ∧ ∃ dx us, H p = some (.ins (P.cls c) dx us) ∧ RelKs P w fs us
  | .fn F _ cs cvs => w.F p = none ∧ H p = some (NdefX.FnO p F) ∧ F.c ∉ w.r ∧ H F.c = some (LamX.CodeO F.c F.qual) ∧ RelDs P w cs cvs
/-- no code object, no table -/
structure NoC (b : Addr) (o : HO) : Prop where
  c : ∀ q, o ≠ LamX.CodeO b q
  t : ∀ ps, o ≠ .tbl ps
/-- the tables of code objects stand, apart from all else -/
structure TabOk (P : Pm) (w : Wd) (H : Hp) : Prop where
  t : ∀ t ∈ P.T, (t.1 ∉ w.r ∧ w.F t.1 = none) ∧ ∃ ps : Array Value, H t.1 = some (.tbl ps) ∧ TriplesOk ps.toList ∧ ∀ (pos : Pos) (cv : Value), codeAmong pos ps.toList = some cv → ∃ c, cv = .ref c ∧ c ∉ w.r ∧ H c = some (LamX.CodeO c (t.2 pos.line pos.col))
  nt : ∀ a ps, w.F a ≠ some (.tbl ps)
  nc : ∀ b ∈ w.r, ∀ o, H b = some o → NoC b o
structure RepM (P : Pm) (w : Wd) (M : Md) (H : Hp) : Prop where
  sub : ∀ a o, w.F a = some o → H a = some o
  len : M.length = w.r.length
  nd : w.r.Nodup
  inH : ∀ p ∈ w.r, H p ≠ none
  cell : ∀ (k : Nat) m p, M[k]? = some m → w.r[k]? = some p → CellOk P w H p m
  tab : TabOk P w H
def RelSt (P : Pm) (w : Wd) (sd : Std) (σ : L2.St) : Prop := sd.length = σ.length ∧ ∀ (i : Nat) d, sd[i]? = some (some d) → ∃ v, σ[i]? = some (some v) ∧ RelD P w d v
theorem RelSt.mono {P : Pm} {w w' : Wd} {sd : Std} {σ : L2.St} (l : Le w w') (h : RelSt P w sd σ) : RelSt P w' sd σ :=
  ⟨h.1, fun i d e => let ⟨v, e', r⟩ := h.2 i d e; ⟨v, e', r.mono l⟩⟩
theorem upd_some {H : Hp} {p a : Addr} {o : HO} (e : H a ≠ none) : upd H p o a ≠ none := by
  by_cases h : a = p
  · subst h; rw [upd_same]; simp
  · rw [upd_ne h]; exact e
/-- what a step keeps -/
structure Step (w : Wd) (H : Hp) (w' : Wd) (H' : Hp) : Prop where
  le : Le w w'
  keep : ∀ a o, H a = some o → (∀ ps, o ≠ .tbl ps) → (a ∉ w.r ∨ w.F a ≠ none) → H' a = some o
  new : ∀ a, H a ≠ none → w.F a = none → a ∉ w.r → w'.F a = none ∧ a ∉ w'.r
  stay : ∀ a, H a ≠ none → H' a ≠ none
/-- the code objects stand as they did -/
def KpC (w : Wd) (H : Hp) (w' : Wd) (H' : Hp) : Prop := ∀ b q, b ∉ w.r → H b = some (LamX.CodeO b q) → b ∉ w'.r ∧ H' b = some (LamX.CodeO b q)
theorem TabOk.on {P : Pm} {w w' : Wd} {H H' : Hp} (T : TabOk P w H) (hC : KpC w H w' H') (hT : ∀ b ps, b ∉ w.r → w.F b = none → H b = some (.tbl ps) → b ∉ w'.r ∧ w'.F b = none ∧ H' b = some (.tbl ps)) (hn : ∀ a ps, w'.F a = some (.tbl ps) → w.F a = some (.tbl ps)) (hN : ∀ b ∈ w'.r, ∀ o, H' b = some o → NoC b o) : TabOk P w' H' := ⟨fun t ht => by
  obtain ⟨⟨h1, h2⟩, ps, h3, h4, h5⟩ := T.t t ht
  obtain ⟨g1, g2, g3⟩ := hT _ _ h1 h2 h3
  exact ⟨⟨g1, g2⟩, ps, g3, h4, fun pos cv hc => let ⟨c, e1, e2, e3⟩ := h5 pos cv hc; ⟨c, e1, hC c _ e2 e3⟩⟩, fun a ps z => T.nt a ps (hn a ps z), hN⟩
theorem NoC.lst {b : Addr} {vs : List V} : NoC b (.lst vs) := ⟨(fun q z => by unfold LamX.CodeO at z; cases z), (fun ps z => by cases z)⟩
theorem NoC.ins {b C dx : Addr} {fs : List (Str × V)} : NoC b (.ins C dx fs) := ⟨(fun q z => by unfold LamX.CodeO at z; cases z), (fun ps z => by cases z)⟩
/-- a heap whose object at b is a code object -/
def hpC (b : Addr) (q : Str) : Heap := ⟨Array.replicate (b + 1) ⟨.none, none, .fields #[.none, .str q default], #[]⟩, {}⟩
theorem hpC_at {b : Addr} {q : Str} : (hpC b q).get? b = some ⟨.none, none, .fields #[.none, .str q default], #[]⟩ := by
  unfold hpC Heap.get?
  simp
theorem NoC.ext {b : Addr} {p : Heap → Prop} (h : ∀ hp o vs, hp.get? b = some o → o.data = .fields vs → ¬ p hp) : NoC b (.ext p) := ⟨(fun q z => by
  unfold LamX.CodeO at z
  have e : p = _ := HO.ext.inj z
  refine h (hpC b q) _ _ hpC_at rfl ?_
  rw [e]
  exact ⟨_, _, default, hpC_at, rfl, rfl⟩), (fun ps z => by cases z)⟩
theorem NoC.fd {pg : Program} {w : World} {b : Addr} {us : List (Option Key × V)} : NoC b (FD pg w b us) := .ext fun hp o vs h1 h2 ⟨_, _, vs', _, o', es, ep, h3, _, h4, _⟩ => by
  rw [h1] at h3; cases h3; rw [h2] at h4; cases h4
theorem NoC.td {pg : Program} {w : World} {b : Addr} {us : List (NestedKey × Addr × V)} : NoC b (TD pg w b us) := .ext fun hp o vs h1 h2 ⟨_, _, xs, _, o', es, ep, h3, _, h4, _⟩ => by
  rw [h1] at h3; cases h3; rw [h2] at h4; cases h4
theorem NoC.fn {b : Addr} {F : NdefX.NF} : NoC b (NdefX.FnO b F) := .ext fun hp o vs h1 h2 ⟨od, sl, doc, pm, ctv, h3⟩ => by
  rw [h1] at h3; cases h3; cases h2
theorem codeO_lst {a : Addr} {q : Str} {vs : List V} : LamX.CodeO a q ≠ .lst vs := fun z => by unfold LamX.CodeO at z; cases z
theorem Step.refl (w : Wd) (H : Hp) : Step w H w H := ⟨.refl w, fun _ _ h _ _ => h, fun _ _ h1 h2 => ⟨h1, h2⟩, fun _ h => h⟩
theorem Step.trans {a b c : Wd} {H1 H2 H3 : Hp} (x : Step a H1 b H2) (y : Step b H2 c H3) : Step a H1 c H3 where
  le := x.le.trans y.le
  keep := fun p o h ht hp => by
    by_cases hF : a.F p = none
    · rcases hp with hp | hp
      · obtain ⟨n1, n2⟩ := x.new p (by rw [h]; simp) hF hp
        exact y.keep p o (x.keep p o h ht (.inl hp)) ht (.inl n2)
      · exact absurd hF hp
    · have hF' : b.F p ≠ none := by
        cases q : a.F p with
        | none => exact absurd q hF
        | some u => rw [x.le.F _ _ q]; simp
      exact y.keep p o (x.keep p o h ht hp) ht (.inr hF')
  new := fun p h h1 h2 => by
    obtain ⟨n1, n2⟩ := x.new p h h1 h2
    exact y.new p (x.stay p h) n1 n2
  stay := fun p h => y.stay p (x.stay p h)
section
variable {P : Pm} {w : Wd} {M : Md} {H : Hp} {p : Addr}
theorem RepM.Fnone (R : RepM P w M H) (h : H p = none) : w.F p = none := by
  cases q : w.F p with
  | none => rfl
  | some o => rw [R.sub _ _ q] at h; cases h
theorem RepM.notin (R : RepM P w M H) (h : H p = none) : p ∉ w.r := fun hm => R.inH p hm h
theorem CellOk.mono {w' : Wd} {H' : Hp} (l : Le w w') (hF : w.F p = none → w'.F p = none) (hH : H' p = H p) (hC : KpC w H w' H') : ∀ {m : MO}, CellOk P w H p m → CellOk P w' H' p m
  | .dead, _ => trivial
  | .lst ds, ⟨h, vs, e, r⟩ => ⟨hF h, vs, hH.trans e, r.mono l⟩
  | .dct _, ⟨h, vs, e, r⟩ => ⟨hF h, vs, hH.trans e, r.mono l⟩
  | .dctT _, ⟨h, vs, e, r⟩ => ⟨hF h, vs, hH.trans e, r.mono l⟩
  | .fn _ _ _ _, ⟨h, e, r1, r2, r3⟩ => ⟨hF h, hH.trans e, (hC _ _ r1 r2).1, (hC _ _ r1 r2).2, r3.mono l⟩
  | .ins _ _, ⟨h, dx, vs, e, r⟩ => ⟨hF h, dx, vs, hH.trans e, r.mono l⟩
/-- a new settled object -/
theorem RepM.newF (R : RepM P w M H) (h : H p = none) (o : HO) (hnt : ∀ ps, o ≠ .tbl ps) : RepM P { w with F := upd w.F p o } M (upd H p o) ∧ Step w H { w with F := upd w.F p o } (upd H p o) := by
  have hF := R.Fnone h
  have hr := R.notin h
  have le : Le w { w with F := upd w.F p o } := ⟨fun a u e => by rw [show ({ w with F := upd w.F p o } : Wd).F = upd w.F p o from rfl, upd_ne (fun z => by rw [z, hF] at e; cases e)]; exact e, fun _ _ e => e⟩
  have hC : KpC w H { w with F := upd w.F p o } (upd H p o) := fun b q h1 h2 => ⟨h1, by rw [upd_ne (fun z => by rw [z, h] at h2; cases h2)]; exact h2⟩
  refine ⟨⟨fun a u e => ?_, R.len, R.nd, fun q hq => ?_, fun k m q hm hq => ?_, R.tab.on hC (fun a ps h1 h2 h3 => ?_) (fun a ps z => ?_) fun b hb o' e => R.tab.nc b hb o' (by rw [upd_ne (fun z => hr (by rw [← z]; exact hb))] at e; exact e)⟩, le, fun a u e _ _ => ?_, fun a e h1 h2 => ⟨?_, h2⟩, fun a e => upd_some e⟩
  · by_cases ha : a = p
    · subst ha
      have e' : upd w.F a o a = some u := e
      rw [upd_same] at e' ⊢; exact e'
    · have e' : upd w.F p o a = some u := e
      rw [upd_ne ha] at e' ⊢; exact R.sub _ _ e'
  · have : q ≠ p := fun z => hr (z ▸ hq)
    rw [upd_ne this]; exact R.inH q hq
  · have hqr : q ∈ w.r := List.mem_of_getElem? hq
    have nq : q ≠ p := fun z => hr (z ▸ hqr)
    exact (R.cell k m q hm hq).mono le (fun z => by show upd w.F p o q = none; rw [upd_ne nq]; exact z) (upd_ne nq) hC
  · have np : a ≠ p := fun z => by rw [z, h] at h3; cases h3
    exact ⟨h1, (by show upd w.F p o a = none; rw [upd_ne np]; exact h2), by rw [upd_ne np]; exact h3⟩
  · have z : upd w.F p o a = some (.tbl ps) := z
    by_cases ha : a = p
    · subst ha; rw [upd_same] at z; exact absurd (Option.some.inj z) (hnt ps)
    · rw [upd_ne ha] at z; exact z
  · rw [upd_ne (fun z => by rw [z, h] at e; cases e)]; exact e
  · show upd w.F p o a = none
    rw [upd_ne (fun z => e (by rw [z]; exact h))]; exact h1
/-- a new changing object -/
theorem RepM.newC (R : RepM P w M H) (h : H p = none) (o : HO) (m : MO) (hno : NoC p o) (hc : CellOk P { w with r := w.r ++ [p] } (upd H p o) p m) :
    RepM P { w with r := w.r ++ [p] } (M ++ [m]) (upd H p o) ∧ Step w H { w with r := w.r ++ [p] } (upd H p o) := by
  have hF := R.Fnone h
  have hr := R.notin h
  have le : Le w { w with r := w.r ++ [p] } := ⟨fun _ _ e => e, fun k q e => by
    show (w.r ++ [p])[k]? = some q
    rw [List.getElem?_append_left (List.getElem?_eq_some_iff.mp e).1]; exact e⟩
  have hC : KpC w H { w with r := w.r ++ [p] } (upd H p o) := fun b q h1 h2 => by
    have np : b ≠ p := fun z => by rw [z, h] at h2; cases h2
    refine ⟨fun z => ?_, by rw [upd_ne np]; exact h2⟩
    rcases List.mem_append.mp z with z | z
    · exact h1 z
    · simp at z; exact np z
  refine ⟨⟨fun a u e => ?_, by simp [R.len], ?_, fun q hq => ?_, fun k m' q hm hq => ?_, R.tab.on hC (fun a ps h1 h2 h3 => ?_) (fun a ps z => z) fun b hb o' e => ?_⟩, le, fun a u e _ _ => ?_, fun a e h1 h2 => ⟨h1, ?_⟩, fun a e => upd_some e⟩
  · rw [upd_ne (fun z => by rw [z] at e; rw [show w.F p = some u from e] at hF; cases hF)]; exact R.sub _ _ e
  · exact List.nodup_append.mpr ⟨R.nd, by simp, fun a ha b hb => by simp at hb; subst hb; exact fun z => hr (z ▸ ha)⟩
  · by_cases hq' : q = p
    · subst hq'; rw [upd_same]; simp
    · rw [upd_ne hq']
      refine R.inH q ?_
      rcases List.mem_append.mp hq with z | z
      · exact z
      · simp at z; exact absurd z hq'
  · by_cases hk : k < M.length
    · rw [List.getElem?_append_left hk] at hm
      have hq2 : w.r[k]? = some q := by
        have : (w.r ++ [p])[k]? = some q := hq
        rwa [List.getElem?_append_left (by rw [← R.len]; exact hk)] at this
      have nq : q ≠ p := fun z => hr (z ▸ List.mem_of_getElem? hq2)
      exact (R.cell k m' q hm hq2).mono le (fun z => z) (upd_ne nq) hC
    · have hk2 : k = M.length := by
        have := (List.getElem?_eq_some_iff.mp hm).1
        simp at this; omega
      subst hk2
      have e1 : m' = m := by simpa using hm.symm
      have e2 : q = p := by
        have : (w.r ++ [p])[M.length]? = some q := hq
        rw [R.len] at this
        simpa using this.symm
      subst e1; subst e2
      exact hc
  · have np : a ≠ p := fun z => by rw [z, h] at h3; cases h3
    refine ⟨fun z => ?_, h2, by rw [upd_ne np]; exact h3⟩
    rcases List.mem_append.mp z with z | z
    · exact h1 z
    · simp at z; exact np z
  · by_cases hbp : b = p
    · subst hbp; rw [upd_same] at e; cases e; exact hno
    · rw [upd_ne hbp] at e
      refine R.tab.nc b ?_ o' e
      rcases List.mem_append.mp hb with z | z
      · exact z
      · simp at z; exact absurd z hbp
  · rw [upd_ne (fun z => by rw [z, h] at e; cases e)]; exact e
  · intro z
    rcases List.mem_append.mp z with z | z
    · exact h2 z
    · simp at z; exact e (by rw [z]; exact h)
/-- a changing object changed -/
theorem RepM.write (R : RepM P w M H) {k : Nat} {m m' : MO} {o : HO} (hm : M[k]? = some m) (hl : w.F p = none) (hp : w.r[k]? = some p) (hno : NoC p o) (hc : CellOk P w (upd H p o) p m') :
    RepM P w (M.set k m') (upd H p o) ∧ Step w H w (upd H p o) := by
  have hpr : p ∈ w.r := List.mem_of_getElem? hp
  have hC : KpC w H w (upd H p o) := fun b q h1 h2 => ⟨h1, by rw [upd_ne (fun z => h1 (by rw [z]; exact hpr))]; exact h2⟩
  refine ⟨⟨fun a u e => ?_, by simp [R.len], R.nd, fun q hq => ?_, fun j n q hn hq => ?_, R.tab.on hC (fun a ps h1 h2 h3 => ⟨h1, h2, by rw [upd_ne (fun z => h1 (by rw [z]; exact hpr))]; exact h3⟩) (fun a ps z => z) fun b hb o' e => ?_⟩, .refl w, fun a u e _ ha => ?_, fun a e h1 h2 => ⟨h1, h2⟩, fun a e => upd_some e⟩
  · rw [upd_ne (fun z => by rw [z, hl] at e; cases e)]; exact R.sub _ _ e
  · by_cases hq' : q = p
    · subst hq'; rw [upd_same]; simp
    · rw [upd_ne hq']; exact R.inH q hq
  · by_cases hj : j = k
    · subst hj
      have e2 : q = p := by rw [hp] at hq; exact (Option.some.inj hq).symm
      subst e2
      have hlt : j < M.length := (List.getElem?_eq_some_iff.mp hm).1
      rw [List.getElem?_set_self hlt] at hn
      cases hn
      exact hc
    · rw [List.getElem?_set_ne (Ne.symm hj)] at hn
      have nq : q ≠ p := fun z => by
        subst z
        obtain ⟨l1, e1⟩ := List.getElem?_eq_some_iff.mp hq
        obtain ⟨l2, e2⟩ := List.getElem?_eq_some_iff.mp hp
        exact hj ((List.getElem_inj R.nd).mp (e1.trans e2.symm))
      exact (R.cell j n q hn hq).mono (.refl w) (fun z => z) (upd_ne nq) hC
  · by_cases hbp : b = p
    · subst hbp; rw [upd_same] at e; cases e; exact hno
    · rw [upd_ne hbp] at e; exact R.tab.nc b hb o' e
  · rw [upd_ne (fun z => by
      subst z
      rcases ha with ha | ha
      · exact ha hpr
      · exact ha hl)]
    exact e
theorem RepM.at (R : RepM P w M H) {k : Nat} {m : MO} (hm : M[k]? = some m) : ∃ p, w.r[k]? = some p := by
  have hlt : k < M.length := (List.getElem?_eq_some_iff.mp hm).1
  rw [R.len] at hlt
  exact ⟨w.r[k], List.getElem?_eq_getElem hlt⟩
/-- a changing list is settled -/
theorem RepM.settle (R : RepM P w M H) {k : Nat} {ds : List D} (hm : M[k]? = some (.lst ds)) (hp : w.r[k]? = some p) :
    ∃ vs, H p = some (.lst vs) ∧ RelDs P w ds vs ∧ RepM P { w with F := upd w.F p (.lst vs) } (M.set k .dead) H ∧ Step w H { w with F := upd w.F p (.lst vs) } H := by
  obtain ⟨hF, vs, hv, r⟩ := R.cell k _ p hm hp
  have hpr : p ∈ w.r := List.mem_of_getElem? hp
  have le : Le w { w with F := upd w.F p (.lst vs) } := ⟨fun a u e => by show upd w.F p _ a = _; rw [upd_ne (fun z => by rw [z, hF] at e; cases e)]; exact e, fun _ _ e => e⟩
  refine ⟨vs, hv, r, ⟨fun a u e => ?_, by simp [R.len], R.nd, R.inH, fun j n q hn hq => ?_, R.tab.on (fun _ _ h1 h2 => ⟨h1, h2⟩) (fun a ps h1 h2 h3 => ⟨h1, (by show upd w.F p _ a = none; rw [upd_ne (fun z => h1 (by rw [z]; exact hpr))]; exact h2), h3⟩) (fun a ps z => by
    have z : upd w.F p _ a = some (.tbl ps) := z
    by_cases ha : a = p
    · subst ha; rw [upd_same] at z; cases z
    · rw [upd_ne ha] at z; exact z) R.tab.nc⟩, le, fun a u e _ _ => e, fun a e h1 h2 => ⟨?_, h2⟩, fun a e => e⟩
  · have e' : upd w.F p (.lst vs) a = some u := e
    by_cases ha : a = p
    · subst ha; rw [upd_same] at e'; rw [← e']; exact hv
    · rw [upd_ne ha] at e'; exact R.sub _ _ e'
  · by_cases hj : j = k
    · subst hj
      have hlt : j < M.length := (List.getElem?_eq_some_iff.mp hm).1
      rw [List.getElem?_set_self hlt] at hn
      cases hn
      trivial
    · rw [List.getElem?_set_ne (Ne.symm hj)] at hn
      have nq : q ≠ p := fun z => by
        subst z
        obtain ⟨l1, e1⟩ := List.getElem?_eq_some_iff.mp hq
        obtain ⟨l2, e2⟩ := List.getElem?_eq_some_iff.mp hp
        exact hj ((List.getElem_inj R.nd).mp (e1.trans e2.symm))
      exact (R.cell j n q hn hq).mono le (fun z => by show upd w.F p _ q = none; rw [upd_ne nq]; exact z) rfl fun _ _ h1 h2 => ⟨h1, h2⟩
  · show upd w.F p _ a = none
    rw [upd_ne (fun z => h2 (by rw [z]; exact hpr))]; exact h1
/-- a changing instance is settled -/
theorem relKs_zip {P : Pm} {w : Wd} : ∀ {fs : List (Str × D)} {us : List (Str × V)}, RelKs P w fs us → us = (fs.map (·.1)).zip (us.map (·.2)) ∧ RelDs P w (fs.map (·.2)) (us.map (·.2))
  | [], us, h => by
    have h : us = [] := h
    subst h; exact ⟨rfl, rfl⟩
  | (k, d) :: r, _, ⟨v, us', e, h2, h3⟩ => by
    subst e
    obtain ⟨a, b⟩ := relKs_zip h3
    refine ⟨?_, v, _, rfl, h2, b⟩
    rw [List.map_cons, List.map_cons, List.zip_cons_cons, ← a]
theorem RepM.settleI (R : RepM P w M H) {k : Nat} {c : Str} {fs : List (Str × D)} (hm : M[k]? = some (.ins c fs)) (hp : w.r[k]? = some p) :
    ∃ w', w'.r = w.r ∧ RepM P w' (M.set k .dead) H ∧ Step w H w' H ∧ RelD P w' (.obj c (fs.map (·.1)) (fs.map (·.2))) (.ref p) := by
  obtain ⟨hF, dx, us, hv, r⟩ := R.cell k _ p hm hp
  have hpr : p ∈ w.r := List.mem_of_getElem? hp
  have le : Le w { w with F := upd w.F p (.ins (P.cls c) dx us) } := ⟨fun a u e => by show upd w.F p _ a = _; rw [upd_ne (fun z => by rw [z, hF] at e; cases e)]; exact e, fun _ _ e => e⟩
  obtain ⟨z1, z2⟩ := relKs_zip r
  refine ⟨{ w with F := upd w.F p (.ins (P.cls c) dx us) }, rfl, ⟨fun a u e => ?_, by simp [R.len], R.nd, R.inH, fun j n q hn hq => ?_, R.tab.on (fun _ _ h1 h2 => ⟨h1, h2⟩) (fun a ps h1 h2 h3 => ⟨h1, (by show upd w.F p _ a = none; rw [upd_ne (fun z => h1 (by rw [z]; exact hpr))]; exact h2), h3⟩) (fun a ps z => by
    have z : upd w.F p _ a = some (.tbl ps) := z
    by_cases ha : a = p
    · subst ha; rw [upd_same] at z; cases z
    · rw [upd_ne ha] at z; exact z) R.tab.nc⟩, ⟨le, fun a u e _ _ => e, fun a e h1 h2 => ⟨?_, h2⟩, fun a e => e⟩, ⟨p, dx, us.map (·.2), rfl, ?_, by simp, z2.mono le⟩⟩
  · have e' : upd w.F p (.ins (P.cls c) dx us) a = some u := e
    by_cases ha : a = p
    · subst ha; rw [upd_same] at e'; rw [← e']; exact hv
    · rw [upd_ne ha] at e'; exact R.sub _ _ e'
  · by_cases hj : j = k
    · subst hj
      have hlt : j < M.length := (List.getElem?_eq_some_iff.mp hm).1
      rw [List.getElem?_set_self hlt] at hn
      cases hn
      trivial
    · rw [List.getElem?_set_ne (Ne.symm hj)] at hn
      have nq : q ≠ p := fun z => by
        subst z
        obtain ⟨l1, e1⟩ := List.getElem?_eq_some_iff.mp hq
        obtain ⟨l2, e2⟩ := List.getElem?_eq_some_iff.mp hp
        exact hj ((List.getElem_inj R.nd).mp (e1.trans e2.symm))
      exact (R.cell j n q hn hq).mono le (fun z => by show upd w.F p _ q = none; rw [upd_ne nq]; exact z) rfl fun _ _ h1 h2 => ⟨h1, h2⟩
  · show upd w.F p _ a = none
    rw [upd_ne (fun z => h2 (by rw [z]; exact hpr))]; exact h1
  · show upd w.F p _ p = _
    rw [upd_same, ← z1]
end
mutual
def RLt (n : Nat) : D → Prop
  | .ref k => k < n
  | .tup ds => RLts n ds
  | .lst ds => RLts n ds
  | .obj _ _ ds => RLts n ds
  | .exc _ _ _ _ ds => RLts n ds
  | _ => True
def RLts (n : Nat) : List D → Prop
  | [] => True
  | d :: ds => RLt n d ∧ RLts n ds
end
theorem RLts_iff {n : Nat} : ∀ {ds : List D}, RLts n ds ↔ ∀ d ∈ ds, RLt n d
  | [] => by simp [RLts]
  | d :: ds => by simp [RLts, RLts_iff (ds := ds)]
def RLtM (n : Nat) : MO → Prop
  | .dead => True
  | .fn _ _ cs _ => RLts n cs
  | .lst ds => RLts n ds
  | .dct kvs => ∀ p ∈ kvs, RLt n p.2
  | .dctT kvs => ∀ p ∈ kvs, RLt n p.1 ∧ RLt n p.2
  | .ins _ fs => ∀ p ∈ fs, RLt n p.2
/-- what stands at changing objects points to changing objects that stand -/
def MOk (M : Md) : Prop := ∀ m ∈ M, RLtM M.length m
section
variable {P : Pm} {w : Wd}
mutual
theorem RelD.rlt : ∀ {d : D} {v : V}, RelD P w d v → RLt w.r.length d
  | .non, _, _ => trivial
  | .bl _, _, _ => trivial
  | .int _, _, _ => trivial
  | .str _, _, _ => trivial
  | .scr _, _, _ => trivial
  | .tup ds, _, ⟨p, vs, e, hp, hs⟩ => RelDs.rlt hs
  | .lst ds, _, ⟨p, vs, e, hp, hs⟩ => RelDs.rlt hs
  | .ref _, _, ⟨p, e, hp⟩ => (List.getElem?_eq_some_iff.mp hp).1
  | .obj c ns ds, _, ⟨p, dx, vs, e, hp, hl, hs⟩ => RelDs.rlt hs
  | .exc a od c ns ds, _, ⟨vs, e, hp, hl, hs⟩ => RelDs.rlt hs
theorem RelDs.rlt : ∀ {ds : List D} {vs : List V}, RelDs P w ds vs → RLts w.r.length ds
  | [], _, _ => trivial
  | d :: ds, _, ⟨v, r, e, h1, h2⟩ => ⟨RelD.rlt h1, RelDs.rlt h2⟩
end
mutual
theorem RelD.cut {n : Nat} : ∀ {d : D} {v : V}, RelD P w d v → RLt n d → RelD P { w with r := w.r.take n } d v
  | .non, _, h, _ => h
  | .bl _, _, h, _ => h
  | .int _, _, h, _ => h
  | .str _, _, h, _ => h
  | .scr _, _, h, _ => h
  | .tup ds, _, ⟨p, vs, e, hp, hs⟩, l => ⟨p, vs, e, hp, RelDs.cut hs l⟩
  | .lst ds, _, ⟨p, vs, e, hp, hs⟩, l => ⟨p, vs, e, hp, RelDs.cut hs l⟩
  | .ref k, _, ⟨p, e, hp⟩, l => ⟨p, e, by
    have l : k < n := l
    show (w.r.take n)[k]? = some p
    rw [List.getElem?_take_of_lt l]; exact hp⟩
  | .obj c ns ds, _, ⟨p, dx, vs, e, hp, hl, hs⟩, l => ⟨p, dx, vs, e, hp, hl, RelDs.cut hs l⟩
  | .exc a od c ns ds, _, ⟨vs, e, hp, hl, hs⟩, l => ⟨vs, e, hp, hl, RelDs.cut hs l⟩
theorem RelDs.cut {n : Nat} : ∀ {ds : List D} {vs : List V}, RelDs P w ds vs → RLts n ds → RelDs P { w with r := w.r.take n } ds vs
  | [], _, h, _ => h
  | d :: ds, _, ⟨v, r, e, h1, h2⟩, l => ⟨v, r, e, RelD.cut h1 l.1, RelDs.cut h2 l.2⟩
end
theorem RelKs.rlt {κ : Type} : ∀ {ds : List (κ × D)} {vs : List (κ × V)}, RelKs P w ds vs → ∀ p ∈ ds, RLt w.r.length p.2
  | [], _, _, p, hp => by cases hp
  | (k, d) :: r, _, ⟨v, us', e, h2, h3⟩, p, hp => by
    rcases List.mem_cons.mp hp with z | z
    · rw [z]; exact h2.rlt
    · exact RelKs.rlt h3 p z
theorem RelKs.cut {κ : Type} {n : Nat} : ∀ {ds : List (κ × D)} {vs : List (κ × V)}, RelKs P w ds vs → (∀ p ∈ ds, RLt n p.2) → RelKs P { w with r := w.r.take n } ds vs
  | [], _, h, _ => h
  | (k, d) :: r, _, ⟨v, us', e, h2, h3⟩, l => ⟨v, us', e, h2.cut (l _ List.mem_cons_self), RelKs.cut h3 fun p hp => l p (List.mem_cons_of_mem _ hp)⟩
theorem RelTs.rlt : ∀ {ds : List (D × D)} {es : List (NestedKey × Addr × V)}, RelTs P w ds es → ∀ p ∈ ds, RLt w.r.length p.1 ∧ RLt w.r.length p.2
  | [], _, _, p, hp => by cases hp
  | (kd, d) :: r, _, ⟨k, b, v, es', e, h1, h2, h3, h4, h5⟩, p, hp => by
    rcases List.mem_cons.mp hp with z | z
    · rw [z]; exact ⟨h3.rlt, h4.rlt⟩
    · exact RelTs.rlt h5 p z
theorem RelTs.cut {n : Nat} : ∀ {ds : List (D × D)} {es : List (NestedKey × Addr × V)}, RelTs P w ds es → (∀ p ∈ ds, RLt n p.1 ∧ RLt n p.2) → RelTs P { w with r := w.r.take n } ds es
  | [], _, h, _ => h
  | (kd, d) :: r, _, ⟨k, b, v, es', e, h1, h2, h3, h4, h5⟩, l => ⟨k, b, v, es', e, h1, h2, h3.cut (l _ List.mem_cons_self).1, h4.cut (l _ List.mem_cons_self).2, RelTs.cut h5 fun p hp => l p (List.mem_cons_of_mem _ hp)⟩
variable {M : Md} {H : Hp}
theorem RepM.ok (R : RepM P w M H) : MOk M := fun m hm => by
  obtain ⟨k, hk, e⟩ := List.getElem_of_mem hm
  have hm' : M[k]? = some m := by rw [List.getElem?_eq_getElem hk, e]
  obtain ⟨p, hp⟩ := R.at hm'
  have c := R.cell k m p hm' hp
  rw [R.len]
  cases m with
  | dead => trivial
  | fn _ _ _ _ => exact c.2.2.2.2.rlt
  | lst ds => obtain ⟨_, vs, _, r⟩ := c; exact r.rlt
  | dct kvs => obtain ⟨_, us, _, r⟩ := c; exact r.rlt
  | dctT kvs => obtain ⟨_, us, _, r⟩ := c; exact r.rlt
  | ins _ fs => obtain ⟨_, dx, us, _, r⟩ := c; exact r.rlt
theorem RepM.letgo (R : RepM P w M H) {n : Nat} (hn : n ≤ M.length) (hm : ∀ m ∈ M.take n, RLtM n m) : RepM P { w with r := w.r.take n } (M.take n) H where
  sub := R.sub
  len := by rw [List.length_take, List.length_take, R.len]
  nd := R.nd.sublist (List.take_sublist _ _)
  inH := fun p hp => R.inH p (List.mem_of_mem_take hp)
  cell := fun k m p h1 h2 => by
    have hk : k < n := by
      have := (List.getElem?_eq_some_iff.mp h1).1
      rw [List.length_take] at this; omega
    have h1' : M[k]? = some m := by rwa [List.getElem?_take_of_lt hk] at h1
    have h2' : w.r[k]? = some p := by
      have : (w.r.take n)[k]? = some p := h2
      rwa [List.getElem?_take_of_lt hk] at this
    have c := R.cell k m p h1' h2'
    have l := hm m (List.mem_of_getElem? h1)
    cases m with
    | dead => trivial
    | fn F n _ _ => exact ⟨c.1, c.2.1, fun z => c.2.2.1 (List.mem_of_mem_take z), c.2.2.2.1, c.2.2.2.2.cut l⟩
    | lst ds => obtain ⟨a, vs, e, r⟩ := c; exact ⟨a, vs, e, r.cut l⟩
    | dct kvs => obtain ⟨a, us, e, r⟩ := c; exact ⟨a, us, e, r.cut l⟩
    | dctT kvs => obtain ⟨a, us, e, r⟩ := c; exact ⟨a, us, e, r.cut l⟩
    | ins _ fs => obtain ⟨a, dx, us, e, r⟩ := c; exact ⟨a, dx, us, e, r.cut l⟩
  tab := R.tab.on (fun _ _ h1 h2 => ⟨fun z => h1 (List.mem_of_mem_take z), h2⟩) (fun a ps h1 h2 h3 => ⟨fun z => h1 (List.mem_of_mem_take z), h2, h3⟩) (fun a ps z => z) fun b hb => R.tab.nc b (List.mem_of_mem_take hb)
theorem Step.letgo {w0 : Wd} {H0 : Hp} (s : Step w0 H0 w H) {n : Nat} (h0 : w0.r.length ≤ n) : Step w0 H0 { w with r := w.r.take n } H where
  le := ⟨s.le.F, fun k p e => by
    have hk : k < n := Nat.lt_of_lt_of_le (List.getElem?_eq_some_iff.mp e).1 h0
    show (w.r.take n)[k]? = some p
    rw [List.getElem?_take_of_lt hk]; exact s.le.r _ _ e⟩
  keep := s.keep
  new := fun a e h1 h2 => ⟨(s.new a e h1 h2).1, fun z => (s.new a e h1 h2).2 (List.mem_of_mem_take z)⟩
  stay := s.stay
end
/-- what a def hands back: as it is; a changing list settled; changing objects of its own let go -/
inductive Fin (n0 : Nat) (Q : D → Md → Prop) : D → Md → Prop
  | keep {d : D} {M : Md} : Q d M → Fin n0 Q d M
  | drop {d : D} {M : Md} (n : Nat) : n0 ≤ n → n ≤ M.length → RLt n d → (∀ m ∈ M.take n, RLtM n m) → Fin n0 Q d (M.take n) → Fin n0 Q d M
  | settle {k : Nat} {ds : List D} {M : Md} : M[k]? = some (.lst ds) → Fin n0 Q (.lst ds) (M.set k .dead) → Fin n0 Q (.ref k) M
  | settleI {k : Nat} {c : Str} {fs : List (Str × D)} {M : Md} : M[k]? = some (.ins c fs) → Fin n0 Q (.obj c (fs.map (·.1)) (fs.map (·.2))) (M.set k .dead) → Fin n0 Q (.ref k) M
  | settleT {k : Nat} {ds es us : List D} {M : Md} : M[k]? = some (.lst ds) → Fin n0 Q (.tup (es ++ .lst ds :: us)) (M.set k .dead) → Fin n0 Q (.tup (es ++ .ref k :: us)) M
theorem RelDs.split {P : Pm} {w : Wd} {ds : List D} : ∀ {es : List D} {vs : List V}, RelDs P w (es ++ ds) vs → ∃ a b, vs = a ++ b ∧ RelDs P w es a ∧ RelDs P w ds b
  | [], vs, h => ⟨[], vs, rfl, rfl, h⟩
  | e :: es, vs, ⟨v, r, z, h1, h2⟩ => by
    obtain ⟨a, b, z2, h3, h4⟩ := RelDs.split h2
    exact ⟨v :: a, b, by rw [z, z2]; rfl, ⟨v, a, rfl, h1, h3⟩, h4⟩
theorem Fin.run {P : Pm} {n0 : Nat} {Q : D → Md → Prop} {d : D} {M : Md} (f : Fin n0 Q d M) : ∀ {w0 w : Wd} {H0 H : Hp} {v : V}, w0.r.length ≤ n0 → Step w0 H0 w H → RepM P w M H → RelD P w d v →
    ∃ d' M' w', Step w0 H0 w' H ∧ RepM P w' M' H ∧ RelD P w' d' v ∧ Q d' M' := by
  induction f with
  | keep q => intro w0 w H0 H v _ s R r; exact ⟨_, _, w, s, R, r, q⟩
  | drop n h0 hn hd hm _ ih =>
    intro w0 w H0 H v hw s R r
    exact ih hw (s.letgo (Nat.le_trans hw h0)) (R.letgo hn hm) (r.cut hd)
  | @settle k ds M hk _ ih =>
    intro w0 w H0 H v hw s R r
    obtain ⟨p, e, hp⟩ := r
    obtain ⟨vs, hv, rs, R', s'⟩ := R.settle hk hp
    refine ih hw (s.trans s') R' ⟨p, vs, e, ?_, rs.mono s'.le⟩
    show upd w.F p (.lst vs) p = _
    rw [upd_same]
  | @settleI k c fs M hk _ ih =>
    intro w0 w H0 H v hw s R r
    obtain ⟨p, e, hp⟩ := r
    obtain ⟨w', e1, R', s', r'⟩ := R.settleI hk hp
    subst e
    exact ih hw (s.trans s') R' r'
  | @settleT k ds es us M hk _ ih =>
    intro w0 w H0 H v hw s R r
    obtain ⟨q, vs, e, hq, rs⟩ := r
    obtain ⟨a, b, e2, h1, h2⟩ := rs.split
    obtain ⟨v, b, e3, ⟨p, e4, hp⟩, h3⟩ := h2
    obtain ⟨us', hv, rs', R', s'⟩ := R.settle hk hp
    refine ih hw (s.trans s') R' ⟨q, vs, e, sqT_mono s'.le.F hq, ?_⟩
    subst e2 e3 e4
    refine (h1.mono s'.le).append (.cons ⟨p, us', rfl, ?_, rs'.mono s'.le⟩ (h3.mono s'.le))
    show upd w.F p (.lst us') p = _
    rw [upd_same]
end DL
namespace DL
open PySem L2
abbrev QE := D → Md → Prop
/-- an exception: its class, its fields -/
structure XD where
  cls : Str
  fs : Option (List (Str × D))
abbrev EX := XD → Md → Prop
abbrev O2 := D → D → Md → QE → Prop
abbrev OA := List D → Md → QE → Prop
def Lk (P : Pm) (w : Wd) (H : Hp) (Qd : QE) (Q : VK) : Prop := ∀ w' M' H' d v, Step w H w' H' → RepM P w' M' H' → RelD P w' d v → Qd d M' → Q v H'
section
variable {P : Pm} {w : Wd} {M : Md} {H : Hp} {p : Addr} {Qd : QE} {Q : VK}
theorem Lk.same (l : Lk P w H Qd Q) (R : RepM P w M H) {d : D} {v : V} (r : RelD P w d v) (q : Qd d M) : Q v H := l w M H d v (.refl _ _) R r q
theorem Lk.tup (l : Lk P w H Qd Q) (R : RepM P w M H) {ds : List D} {vs : List V} (r : RelDs P w ds vs) (h : H p = none) (q : Qd (.tup ds) M) : Q (.ref p) (upd H p (.tup vs)) := by
  obtain ⟨R', s⟩ := R.newF h (.tup vs) fun _ z => by cases z
  exact l _ M _ (.tup ds) _ s R' ⟨p, vs, rfl, .inl (.inl upd_same), r.mono s.le⟩ q
theorem Lk.lst (l : Lk P w H Qd Q) (R : RepM P w M H) {ds : List D} {vs : List V} (r : RelDs P w ds vs) (h : H p = none) (q : Qd (.lst ds) M) : Q (.ref p) (upd H p (.lst vs)) := by
  obtain ⟨R', s⟩ := R.newF h (.lst vs) fun _ z => by cases z
  exact l _ M _ (.lst ds) _ s R' ⟨p, vs, rfl, upd_same, r.mono s.le⟩ q
theorem Lk.cell (l : Lk P w H Qd Q) (R : RepM P w M H) {ds : List D} {vs : List V} (r : RelDs P w ds vs) (h : H p = none) (q : Qd (.ref M.length) (M ++ [.lst ds])) : Q (.ref p) (upd H p (.lst vs)) := by
  have le : Le w { w with r := w.r ++ [p] } := ⟨fun _ _ e => e, fun k q e => by
    show (w.r ++ [p])[k]? = some q
    rw [List.getElem?_append_left (List.getElem?_eq_some_iff.mp e).1]; exact e⟩
  obtain ⟨R', s⟩ := R.newC h (.lst vs) (.lst ds) .lst ⟨R.Fnone h, vs, upd_same, r.mono le⟩
  exact l _ _ _ (.ref M.length) _ s R' ⟨p, rfl, by show (w.r ++ [p])[M.length]? = some p; rw [R.len]; simp⟩ q
end
def lstOf : D → Md → Option (List D)
  | .lst ds, _ => some ds
  | .ref k, M => match M[k]? with
    | some (.lst ds) => some ds
    | _ => none
  | _, _ => none
def seqOf : D → Md → Option (List D)
  | .tup ds, _ => some ds
  | .scr ns, _ => some (ns.map D.int)
  | .lst ds, _ => some ds
  | .ref k, M => match M[k]? with
    | some (.lst ds) => some ds
    | _ => none
  | _, _ => none
section
variable {P : Pm} {w : Wd} {M : Md} {H : Hp} {p : Addr} {Qd : QE} {Q : VK}
theorem relDs_ints : ∀ ns : List Int, RelDs P w (ns.map D.int) (ns.map V.int)
  | [] => rfl
  | n :: ns => ⟨.int n, _, rfl, rfl, relDs_ints ns⟩
theorem lstOf_at (R : RepM P w M H) {d : D} {v : V} {ds : List D} (r : RelD P w d v) (h : lstOf d M = some ds) : ∃ p vs, v = .ref p ∧ H p = some (.lst vs) ∧ RelDs P w ds vs := by
  cases d with
  | lst es =>
    cases h
    obtain ⟨p, vs, e, hp, hs⟩ := r
    exact ⟨p, vs, e, R.sub _ _ hp, hs⟩
  | ref k =>
    obtain ⟨p, e, hp⟩ := r
    have h : (match M[k]? with
      | some (.lst ds) => some ds
      | _ => none) = some ds := h
    split at h
    · rename_i ds' hm
      cases h
      obtain ⟨_, vs, e2, hs⟩ := R.cell k _ p hm hp
      exact ⟨p, vs, e, e2, hs⟩
    · cases h
  | _ => cases h
theorem seqOf_at (R : RepM P w M H) {d : D} {v : V} {ds : List D} (r : RelD P w d v) (h : seqOf d M = some ds) : ∃ p vs, v = .ref p ∧ (SqL P.K H p vs ∨ SqT P.K H p vs) ∧ RelDs P w ds vs := by
  cases d with
  | tup es =>
    cases h
    obtain ⟨p, vs, e, hp, hs⟩ := r
    exact ⟨p, vs, e, .inr (sqT_mono R.sub hp), hs⟩
  | lst es =>
    cases h
    obtain ⟨p, vs, e, hp, hs⟩ := r
    exact ⟨p, vs, e, .inl (SqL.of (R.sub _ _ hp)), hs⟩
  | scr ns =>
    cases h
    obtain ⟨p, e, hp⟩ := r
    exact ⟨p, _, e, .inl (sqL_mono R.sub hp), relDs_ints ns⟩
  | ref k =>
    obtain ⟨p, e, hp⟩ := r
    have h : (match M[k]? with
      | some (.lst ds) => some ds
      | _ => none) = some ds := h
    split at h
    · rename_i ds' hm
      cases h
      obtain ⟨_, vs, e2, hs⟩ := R.cell k _ p hm hp
      exact ⟨p, vs, e, .inl (SqL.of e2), hs⟩
    · cases h
  | _ => cases h
end
def truD : D → Md → (Bool → Prop) → Prop
  | .non, _, Q => Q false
  | .bl b, _, Q => Q b
  | .int i, _, Q => Q (i != 0)
  | .str s, _, Q => s.length ≤ sizeLine ∧ Q ((s.length : Int) != 0)
  | .tup ds, _, Q => Q (!ds.isEmpty)
  | .lst ds, _, Q => Q (!ds.isEmpty)
  | .scr ns, _, Q => Q (!ns.isEmpty)
  | .obj _ _ _, _, _ => False
  | .exc _ _ _ _ _, _, _ => False
  | .ref k, M, Q => match M[k]? with
    | some (.lst ds) => Q (!ds.isEmpty)
    | _ => False
theorem relDs_empty {P : Pm} {w : Wd} {ds : List D} {vs : List V} (r : RelDs P w ds vs) : vs.isEmpty = ds.isEmpty := by
  cases ds with
  | nil => have r : vs = [] := r; rw [r]; rfl
  | cons d ds => obtain ⟨v, r, e, _⟩ := r; rw [e]; rfl
theorem truD_at {P : Pm} {w : Wd} {M : Md} {H : Hp} (R : RepM P w M H) {d : D} {v : V} {Q : Bool → Prop} (r : RelD P w d v) (h : truD d M Q) : ∃ k, TruV P.K v H k ∧ Q k := by
  cases d with
  | non => have r : v = .non := r; subst r; exact ⟨_, rfl, h⟩
  | bl b => have r : v = .bl b := r; subst r; exact ⟨_, rfl, h⟩
  | int b => have r : v = .int b := r; subst r; exact ⟨_, rfl, h⟩
  | str b => have r : v = .str b := r; subst r; exact ⟨_, ⟨h.1, rfl⟩, h.2⟩
  | tup ds =>
    obtain ⟨p, vs, e, hp, hs⟩ := r
    subst e
    exact ⟨!vs.isEmpty, .inr (.inl ⟨vs, sqT_mono R.sub hp, rfl⟩), by rw [relDs_empty hs]; exact h⟩
  | lst ds =>
    obtain ⟨p, vs, e, hp, hs⟩ := r
    subst e
    exact ⟨!vs.isEmpty, .inl ⟨vs, SqL.of (R.sub _ _ hp), rfl⟩, by rw [relDs_empty hs]; exact h⟩
  | scr ns =>
    obtain ⟨p, e, hp⟩ := r
    subst e
    exact ⟨!(ns.map V.int).isEmpty, .inl ⟨_, sqL_mono R.sub hp, rfl⟩, by rw [List.isEmpty_map]; exact h⟩
  | obj c ns ds => exact h.elim
  | exc a od c ns ds => exact h.elim
  | ref k =>
    obtain ⟨p, e, hp⟩ := r
    subst e
    have h : (match M[k]? with
      | some (.lst ds) => Q (!ds.isEmpty)
        | _ => False) := h
    split at h
    · rename_i ds hm
      obtain ⟨_, vs, e2, hs⟩ := R.cell k _ p hm hp
      exact ⟨!vs.isEmpty, .inl ⟨vs, SqL.of e2, rfl⟩, by rw [relDs_empty hs]; exact h⟩
    · exact h.elim
def liO2 (P : Pm) (o : O2) : R2 := fun x y H Q => ∃ w M dx dy Qd, RepM P w M H ∧ RelD P w dx x ∧ RelD P w dy y ∧ Lk P w H Qd Q ∧ o dx dy M Qd
def liOA (P : Pm) (o : OA) : List V → Hp → VK → Prop := fun xs H Q => ∃ w M ds Qd, RepM P w M H ∧ RelDs P w ds xs ∧ Lk P w H Qd Q ∧ o ds M Qd
inductive Op where
  | add | cat | sub | mul | fdiv | fdivW | mod | pow | band
def opO : Op → Operator
  | .add => .Add | .cat => .Add | .sub => .Sub | .mul => .Mult | .fdiv => .FloorDiv | .fdivW => .FloorDiv | .mod => .Mod | .pow => .Pow | .band => .BitAnd
def repS (s : Str) (n : Nat) : Str := ⟨(List.replicate n s.cps).foldl (· ++ ·) #[]⟩
theorem op_mul_str {X : Cx} : OpR X (binaryOp .Mult) (fun x y H Q => ∃ i j, x = .str i ∧ y = .int j ∧ 0 ≤ j ∧ 1 ≤ i.length ∧ i.length * j.toNat ≤ sizeLine ∧ Q (.str (repS i j.toNat)) H) := by
  intro pins s σ H x y v u Q I rx ry h
  obtain ⟨i, j, rfl, rfl, hj, hi, hz, q⟩ := h
  obtain ⟨t, rfl⟩ := rx
  obtain ⟨t', rfl⟩ := ry
  have hjn : j.toNat ≤ sizeLine := Nat.le_trans (Nat.le_mul_of_pos_left _ hi) hz
  have hzl : sizeLine = 16777216 := rfl
  have htl : Builtin.Str.tooLong (i.length * j.toNat) = false := by
    unfold Builtin.Str.tooLong
    exact decide_eq_false (by omega)
  refine P.mul_str ?_ (fun hj1 _ => ?_) (fun _ _ => htl) ?_
  · rw [decide_eq_false (by omega), decide_eq_false (by omega)]; rfl
  · have hil : i.length ≤ sizeLine := Nat.le_trans (Nat.le_mul_of_pos_right _ (by omega)) hz
    have h1 : j.toNat * i.length ≤ 16777216 := by rw [Nat.mul_comm]; exact hz
    have h2 : (i.length : Int) * j ≤ 16777216 := by
      have e : j = (j.toNat : Int) := by omega
      rw [e, Int.mul_comm]
      have h4 : ((j.toNat * i.length : Nat) : Int) ≤ ((16777216 : Nat) : Int) := Int.ofNat_le.mpr h1
      rw [Int.natCast_mul] at h4
      exact h4
    have h3 : (i.length : Int) ≤ (2 ^ 63 - 1) / j := by
      refine (Int.le_ediv_iff_mul_le (by omega)).mpr ?_
      omega
    omega
  · by_cases h0 : j = 0
    · subst h0
      rw [if_pos (by omega)]
      exact ⟨by decide, .str (repS i 0), H, I.tok _, ⟨_, rfl⟩, q⟩
    rw [if_neg (by omega)]
    by_cases h1 : j = 1
    · subst h1
      rw [if_pos (by rfl)]
      have e : repS i 1 = i := by
        show (⟨#[] ++ i.cps⟩ : Str) = i
        rw [Array.empty_append]
      have q' : Q (.str (repS i 1)) H := q
      rw [e] at q'
      exact ⟨.str i, H, I, ⟨_, rfl⟩, q'⟩
    rw [if_neg (by
      simp only [Bool.or_eq_true, beq_iff_eq]
      omega)]
    exact ⟨PySem.fits_reps htl, .str (repS i j.toNat), H, I.tok _, ⟨_, rfl⟩, q⟩
/-- add: a list comes out settled; cat: it may be changed later -/
def opD : Op → O2
  | .add, .int i, .int j, M, Q => Q (.int (i + j)) M
  | .add, .str s, .str t, M, Q => s.length + t.length ≤ sizeLine ∧ Q (.str (s ++ t)) M
  | .add, .tup a, .tup b, M, Q => a.length + b.length ≤ sizeLine ∧ Q (.tup (a ++ b)) M
  | .add, x, y, M, Q => match lstOf x M, lstOf y M with
    | some a, some b => a.length + b.length ≤ sizeLine ∧ Q (.lst (a ++ b)) M
    | _, _ => False
  | .cat, x, y, M, Q => match lstOf x M, lstOf y M with
    | some a, some b => a.length + b.length ≤ sizeLine ∧ Q (.ref M.length) (M ++ [.lst (a ++ b)])
    | _, _ => False
  | .sub, .int i, .int j, M, Q => Q (.int (i - j)) M
  | .mul, .int i, .int j, M, Q => CMul i j ∧ Q (.int (i * j)) M
  | .mul, .str s, .int j, M, Q => 0 ≤ j ∧ 1 ≤ s.length ∧ s.length * j.toNat ≤ sizeLine ∧ Q (.str (repS s j.toNat)) M
  | .fdiv, .int i, .int j, M, Q => CDiv i j ∧ Q (.int (i / j)) M
  | .fdivW, .int i, .int j, M, Q => CDivW i j ∧ Q (.int (i / j)) M
  | .mod, .int i, .int j, M, Q => 0 < j ∧ Q (.int (i % j)) M
  | .pow, .int i, .int j, M, Q => CPow i j ∧ Q (.int (i ^ j.toNat)) M
  | .band, .int i, .int j, M, Q => Q (.int (Builtin.bitAnd i j)) M
  | _, _, _, _, _ => False
theorem op_sound {X : Cx} {P : Pm} (hK : P.K = X.K) (o : Op) : OpR X (binaryOp (opO o)) (liO2 P (opD o)) := by
  intro pins st σ H x y v u Q I rx ry q
  obtain ⟨w, M, dx, dy, Qd, R, hx, hy, l, q⟩ := q
  have lists : ∀ {k : List D → Prop}, (match lstOf dx M, lstOf dy M with
      | some a, some b => a.length + b.length ≤ sizeLine ∧ k (a ++ b)
      | _, _ => False) → (∀ {p : Addr} {ds : List D} {vs : List V}, k ds → RelDs P w ds vs → H p = none → Q (.ref p) (upd H p (.lst vs))) →
      wpAny (model X.prog X.w) X.A (binaryOp .Add v u) (EP X pins σ Q) X.xe st := fun {k} h f => by
    split at h
    · rename_i a b ha hb
      obtain ⟨p1, v1, e1, h1, r1⟩ := lstOf_at R hx ha
      obtain ⟨p2, v2, e2, h2, r2⟩ := lstOf_at R hy hb
      subst e1; subst e2
      exact op_cat pins st σ H _ _ v u Q I rx ry ⟨p1, p2, v1, v2, rfl, rfl, h1, h2, by rw [r1.length, r2.length]; exact h.1, fun p hp => f h.2 (r1.append r2) hp⟩
    · exact h.elim
  have i2 : ∀ {i j : Int} {g : Int}, dx = .int i → dy = .int j → Qd (.int g) M → x = .int i ∧ y = .int j ∧ Q (.int g) H := fun {i j g} e1 e2 q2 => by
    subst e1; subst e2
    exact ⟨hx, hy, l.same R (d := .int g) (v := .int g) rfl q2⟩
  cases o with
  | add =>
    cases dx with
    | int i =>
      cases dy with
      | int j => obtain ⟨a, b, c⟩ := i2 rfl rfl q; exact op_add pins st σ H x y v u Q I rx ry ⟨i, j, a, b, c⟩
      | _ => exact lists (k := fun ds => Qd (.lst ds) M) q fun k r h => l.lst R r h k
    | str i =>
      cases dy with
      | str j =>
        have hx : x = .str i := hx
        have hy : y = .str j := hy
        subst hx; subst hy
        exact op_add_str pins st σ H _ _ v u Q I rx ry ⟨i, j, rfl, rfl, q.1, l.same R (d := .str _) rfl q.2⟩
      | _ => exact lists (k := fun ds => Qd (.lst ds) M) q fun k r h => l.lst R r h k
    | tup i =>
      cases dy with
      | tup j =>
        obtain ⟨p1, v1, e1, h1, r1⟩ := hx
        obtain ⟨p2, v2, e2, h2, r2⟩ := hy
        subst e1; subst e2
        rw [hK] at h1 h2
        have hh : ∀ p, RelD P w (.tup (i ++ j)) (.ref p) → Q (.ref p) H := fun p r => l.same R r q.2
        refine op_catA pins st σ H _ _ v u Q I rx ry ⟨p1, p2, v1, v2, rfl, rfl, sqT_mono R.sub h1, sqT_mono R.sub h2, by rw [r1.length, r2.length]; exact q.1, fun e => ?_, fun _ e => ?_, fun _ _ p hp => ?_⟩
        · have e' : i = [] := by have := r1.length; rw [e] at this; exact List.length_eq_zero_iff.mp this.symm
          refine hh p2 ⟨p2, v2, rfl, by rw [hK]; exact h2, by rw [e']; exact r2⟩
        · have e' : j = [] := by have := r2.length; rw [e] at this; exact List.length_eq_zero_iff.mp this.symm
          refine hh p1 ⟨p1, v1, rfl, by rw [hK]; exact h1, by rw [e', List.append_nil]; exact r1⟩
        · exact l.tup R (r1.append r2) hp q.2
      | _ => exact lists (k := fun ds => Qd (.lst ds) M) q fun k r h => l.lst R r h k
    | _ => cases dy <;> exact lists (k := fun ds => Qd (.lst ds) M) q fun k r h => l.lst R r h k
  | cat => exact lists (k := fun ds => Qd (.ref M.length) (M ++ [.lst ds])) (by cases dx <;> exact q) fun k r h => l.cell R r h k
  | sub =>
    cases dx <;> cases dy <;> first | exact False.elim q | skip
    obtain ⟨a, b, c⟩ := i2 rfl rfl q
    exact op_sub pins st σ H x y v u Q I rx ry ⟨_, _, a, b, c⟩
  | mul =>
    cases dx <;> cases dy <;> first | exact False.elim q | skip
    · obtain ⟨a, b, c⟩ := i2 rfl rfl q.2
      exact op_mul pins st σ H x y v u Q I rx ry ⟨_, _, a, b, q.1, c⟩
    · rename_i s j
      have hx : x = .str s := hx
      have hy : y = .int j := hy
      subst hx; subst hy
      exact op_mul_str pins st σ H _ _ v u Q I rx ry ⟨s, j, rfl, rfl, q.1, q.2.1, q.2.2.1, l.same R (d := .str _) rfl q.2.2.2⟩
  | fdiv =>
    cases dx <;> cases dy <;> first | exact False.elim q | skip
    obtain ⟨a, b, c⟩ := i2 rfl rfl q.2
    exact op_fdiv pins st σ H x y v u Q I rx ry ⟨_, _, a, b, q.1, c⟩
  | fdivW =>
    cases dx <;> cases dy <;> first | exact False.elim q | skip
    obtain ⟨a, b, c⟩ := i2 rfl rfl q.2
    exact op_fdivW pins st σ H x y v u Q I rx ry ⟨_, _, a, b, q.1, c⟩
  | mod =>
    cases dx <;> cases dy <;> first | exact False.elim q | skip
    obtain ⟨a, b, c⟩ := i2 rfl rfl q.2
    exact op_mod pins st σ H x y v u Q I rx ry ⟨_, _, a, b, q.1, c⟩
  | pow =>
    cases dx <;> cases dy <;> first | exact False.elim q | skip
    obtain ⟨a, b, c⟩ := i2 rfl rfl q.2
    exact op_pow pins st σ H x y v u Q I rx ry ⟨_, _, a, b, q.1, c⟩
  | band =>
    cases dx <;> cases dy <;> first | exact False.elim q | skip
    obtain ⟨a, b, c⟩ := i2 rfl rfl q
    exact op_and pins st σ H x y v u Q I rx ry ⟨_, _, a, b, c⟩
end DL
namespace DL
open PySem L2
mutual
def pyD : D → Option PyData
  | .non => some .none
  | .bl b => some (.bool b)
  | .int i => some (.int i)
  | .str s => some (.str s)
  | .tup ds => (pyDs ds).map .tuple
  | .lst ds => (pyDs ds).map .list
  | .scr ns => some (.list (ns.map .int))
  | .ref _ => none
  | .obj _ _ _ => none
  | .exc _ _ _ _ _ => none
def pyDs : List D → Option (List PyData)
  | [] => some []
  | d :: ds => match pyD d, pyDs ds with
    | some x, some xs => some (x :: xs)
    | _, _ => none
end
section
variable {P : Pm} {w : Wd} {M : Md} {H : Hp}
mutual
theorem pyD_at (R : RepM P w M H) : ∀ {d : D} {v : V} {y : PyData}, RelD P w d v → pyD d = some y → Dp P.K H v y
  | .non, v, y, r, e => by
    have r : v = .non := r
    cases e; subst r; exact .non
  | .bl b, v, y, r, e => by
    have r : v = .bl b := r
    cases e; subst r; exact .bl b
  | .int b, v, y, r, e => by
    have r : v = .int b := r
    cases e; subst r; exact .int b
  | .str b, v, y, r, e => by
    have r : v = .str b := r
    cases e; subst r; exact .str b
  | .tup ds, v, y, ⟨p, vs, ev, hp, hs⟩, e => by
    have e : (pyDs ds).map PyData.tuple = some y := e
    obtain ⟨ys, h1, h2⟩ := Option.map_eq_some_iff.mp e
    subst h2; subst ev
    exact .tup (sqT_mono R.sub hp) (pyDs_at R hs h1)
  | .lst ds, v, y, ⟨p, vs, ev, hp, hs⟩, e => by
    have e : (pyDs ds).map PyData.list = some y := e
    obtain ⟨ys, h1, h2⟩ := Option.map_eq_some_iff.mp e
    subst h2; subst ev
    exact .lst (SqL.of (R.sub _ _ hp)) (pyDs_at R hs h1)
  | .scr ns, v, y, ⟨p, ev, hp⟩, e => by
    cases e; subst ev
    refine .lst (sqL_mono R.sub hp) ?_
    clear hp
    induction ns with
    | nil => exact .nil
    | cons n ns ih => exact .cons (.int n) ih
  | .ref _, _, _, _, e => by cases e
  | .obj _ _ _, _, _, _, e => by cases e
  | .exc _ _ _ _ _, _, _, _, e => by cases e
theorem pyDs_at (R : RepM P w M H) : ∀ {ds : List D} {vs : List V} {ys : List PyData}, RelDs P w ds vs → pyDs ds = some ys → DpAll P.K H vs ys
  | [], vs, ys, r, e => by
    have r : vs = [] := r
    cases e; subst r; exact .nil
  | d :: ds, vs, ys, ⟨v, us, ev, h1, h2⟩, e => by
    have e : (match pyD d, pyDs ds with
      | some x, some xs => some (x :: xs)
      | _, _ => none) = some ys := e
    split at e
    · rename_i x xs hx hxs
      cases e; subst ev
      exact .cons (pyD_at R h1 hx) (pyDs_at R h2 hxs)
    · cases e
end
end
/-- a changing list as what it holds -/
def rsD (d : D) (M : Md) : D := match d with
  | .ref k => match M[k]? with
    | some (.lst ds) => .lst ds
    | _ => .ref k
  | d => d
theorem rsD_at {P : Pm} {w : Wd} {M : Md} {H : Hp} (R : RepM P w M H) {d : D} {v : V} {y : PyData} (r : RelD P w d v) (e : pyD (rsD d M) = some y) : Dp P.K H v y := by
  cases d with
  | ref k =>
    obtain ⟨p, ev, hp⟩ := r
    have e : pyD (match M[k]? with
      | some (.lst ds) => .lst ds
      | _ => .ref k) = some y := e
    split at e
    · rename_i ds hm
      obtain ⟨_, vs, e2, hs⟩ := R.cell k _ p hm hp
      have e : (pyDs ds).map PyData.list = some y := e
      obtain ⟨ys, h1, h2⟩ := Option.map_eq_some_iff.mp e
      subst h2; subst ev
      exact .lst (SqL.of e2) (pyDs_at R hs h1)
    · cases e
  | non => exact pyD_at R r e
  | bl _ => exact pyD_at R r e
  | int _ => exact pyD_at R r e
  | str _ => exact pyD_at R r e
  | tup _ => exact pyD_at R r e
  | lst _ => exact pyD_at R r e
  | scr _ => exact pyD_at R r e
  | obj _ _ _ => exact pyD_at R r e
  | exc _ _ _ _ _ => exact pyD_at R r e
/-- of scalars -/
def eqS : D → D → Option Bool
  | .non, .non => some true
  | .non, .int _ => some false
  | .int _, .non => some false
  | .non, .bl _ => some false
  | .bl _, .non => some false
  | .non, .str _ => some false
  | .str _, .non => some false
  | .int i, .int j => some (decide (i = j))
  | .bl i, .bl j => some (decide (i = j))
  | .str i, .str j => some (decide (i = j))
  | .int _, .str _ => some false
  | .str _, .int _ => some false
  | .bl _, .str _ => some false
  | .str _, .bl _ => some false
  | _, _ => none
def flatD : D → Bool
  | .non => true | .bl _ => true | .int _ => true | .str _ => true | _ => false
def eqF : D → D → Bool
  | .non, .non => true
  | .bl a, .bl b => a == b
  | .bl a, .int b => (if a then 1 else 0) == b
  | .int a, .bl b => a == (if b then 1 else 0)
  | .int a, .int b => a == b
  | .str a, .str b => a == b
  | _, _ => false
inductive Cp where
  | eq | ne | lt | le | gt | ge | isN | notN | isB | notB | inn | nin
  deriving DecidableEq
def cpO : Cp → CmpOp
  | .eq => .Eq | .ne => .NotEq | .lt => .Lt | .le => .LtE | .gt => .Gt | .ge => .GtE | .isN => .Is | .notN => .IsNot | .isB => .Is | .notB => .IsNot | .inn => .In | .nin => .NotIn
/-- keys -/
def keyD : D → Option (Option Key)
  | .non => some none
  | .int i => some (some (.inl i))
  | .str s => some (some (.inr s))
  | _ => none
def tKey (d : D) : Option NestedKey := match d with
  | .tup ds => match keyN (.tup ds) with
    | some k => if k.depth ≤ 8 then some k else none
    | none => none
  | _ => none
def dctVal {κ : Type} [DecidableEq κ] (kvs : List (κ × D)) (k : κ) : Option D := (kvs.find? fun kv => decide (kv.1 = k)).map (·.2)
def dctPut {κ : Type} [DecidableEq κ] (kvs : List (κ × D)) (k : κ) (v : D) : List (κ × D) :=
  if (kvs.any fun kv => decide (kv.1 = k)) = true then kvs.map (fun kv => if kv.1 = k then (kv.1, v) else kv) else kvs ++ [(k, v)]
def dctValT (kvs : List (D × D)) (k : NestedKey) : Option D := (kvs.find? fun kv => decide (keyN kv.1 = some k)).map (·.2)
def dctPutT (kvs : List (D × D)) (kd : D) (k : NestedKey) (v : D) : List (D × D) :=
  if (kvs.any fun kv => decide (keyN kv.1 = some k)) = true then kvs.map (fun kv => if keyN kv.1 = some k then (kv.1, v) else kv) else kvs ++ [(kd, v)]
/-- what the dict d holds at k (none: no dict, or no key of its kind) -/
def dGet (d k : D) (M : Md) : Option (Option D) := match d with
  | .ref i => match M[i]? with
    | some (.dct kvs) => (keyD k).map (dctVal kvs)
    | some (.dctT kvs) => (tKey k).map (dctValT kvs)
    | _ => none
  | _ => none
def inD (x y : D) (M : Md) (Q : Bool → Prop) : Prop := match x, y with
  | .str s, .str t => Q (!(Builtin.Str.occurrences t s 0 t.length 1).isEmpty)
  | x, y => match dGet y x M with
    | some r => Q r.isSome
    | none => match seqOf y M with
      | some ds => if flatD x && ds.all flatD then Q (ds.any fun d => eqF d x) else
          match pyD x, pyDs ds with
          | some px, some ps => SeqAt.shaped px = true ∧ SeqAt.shaped (.list ps) = true ∧ Q (ps.any fun z => PyData.eqv z px)
          | _, _ => False
      | none => False
def eqQ (x y : D) (M : Md) (Q : Bool → Prop) : Prop := match eqS x y with
  | some b => Q b
  | none => match pyD (rsD x M), pyD (rsD y M) with
    | some a, some b => SeqAt.shaped a = true ∧ SeqAt.shaped b = true ∧ Q (PyData.eqv a b)
    | _, _ => False
def cpI (f : Int → Int → Bool) (x y : D) (Q : Bool → Prop) : Prop := match x, y with
  | .int i, .int j => Q (f i j)
  | _, _ => False
def isNon : D → Bool
  | .non => true
  | _ => false
/-- of two truth values -/
def isB2 (x y : D) (Q : Bool → Prop) : Prop := match x, y with
  | .bl a, .bl b => Q (decide (a = b))
  | _, _ => False
def cpD (c : Cp) (x y : D) (M : Md) (Q : Bool → Prop) : Prop := match c with
  | .eq => eqQ x y M Q
  | .ne => eqQ x y M fun b => Q (!b)
  | .lt => cpI (fun i j => decide (i < j)) x y Q
  | .le => cpI (fun i j => decide (i ≤ j)) x y Q
  | .gt => cpI (fun i j => decide (j < i)) x y Q
  | .ge => cpI (fun i j => decide (j ≤ i)) x y Q
  | .isN => isNon y = true ∧ Q (isNon x)
  | .notN => isNon y = true ∧ Q (!isNon x)
  | .isB => isB2 x y Q
  | .notB => isB2 x y fun b => Q (!b)
  | .inn => inD x y M Q
  | .nin => inD x y M fun b => Q (!b)
abbrev cpR (c : Cp) : O2 := fun x y M Q => cpD c x y M fun b => Q (.bl b) M
section
variable {P : Pm} {w : Wd} {M : Md} {H : Hp}
theorem op_inDT {X : Cx} (hu : X.A.units + 65 < cLine) : OpR X (compareOp .In) (fun x y H Q => ∃ d ds, Dp X.K H x d ∧ (Dp X.K H y (.list ds) ∨ Dp X.K H y (.tuple ds)) ∧ SeqAt.shaped d = true ∧ SeqAt.shaped (.list ds) = true ∧ Q (.bl (ds.any fun z => PyData.eqv z d)) H) := by
  intro pins s σ H x y v u Q I rx ry h
  obtain ⟨d, ds, hd, he, sd, se, q⟩ := h
  rcases he with he | he
  · exact op_inD hu pins s σ H x y v u Q I rx ry ⟨d, ds, hd, he, sd, se, q⟩
  · obtain ⟨as, r1⟩ := Dp.reads I d x v hd rx
    obtain ⟨bs, r2⟩ := Dp.reads I (.tuple ds) y u he ry
    exact SeqAt.in_tuple_reads r2 r1 (SeqAt.canLay_of_shaped se) (SeqAt.canLay_of_shaped sd) (PyProof.Rows.room_in_shaped sd hu) ⟨.bl _, H, I, rfl, q⟩
theorem op_notInDT {X : Cx} (hu : X.A.units + 65 < cLine) : OpR X (compareOp .NotIn) (fun x y H Q => ∃ d ds, Dp X.K H x d ∧ (Dp X.K H y (.list ds) ∨ Dp X.K H y (.tuple ds)) ∧ SeqAt.shaped d = true ∧ SeqAt.shaped (.list ds) = true ∧ Q (.bl (!ds.any fun z => PyData.eqv z d)) H) := by
  intro pins s σ H x y v u Q I rx ry h
  obtain ⟨d, ds, hd, he, sd, se, q⟩ := h
  rcases he with he | he
  · exact op_notInD hu pins s σ H x y v u Q I rx ry ⟨d, ds, hd, he, sd, se, q⟩
  · obtain ⟨as, r1⟩ := Dp.reads I d x v hd rx
    obtain ⟨bs, r2⟩ := Dp.reads I (.tuple ds) y u he ry
    exact SeqAt.notIn_tuple_reads r2 r1 (SeqAt.canLay_of_shaped se) (SeqAt.canLay_of_shaped sd) (PyProof.Rows.room_in_shaped sd hu) ⟨.bl _, H, I, rfl, q⟩
theorem op_isB {X : Cx} : OpR X (compareOp .Is) (fun x y H Q => ∃ a b, x = .bl a ∧ y = .bl b ∧ Q (.bl (decide (a = b))) H) := by
  intro pins s σ H x y v u Q I rx ry h
  obtain ⟨a, b, rfl, rfl, q⟩ := h
  cases rx; cases ry
  show wpAny _ _ ((isSame (Value.bool a) (Value.bool b)) >>= fun z => pure (Value.bool z)) _ _ s
  refine wpAny_bind (wpAny_isSame_plain rfl (wpAny_pure (fin_bl I q ?_)))
  cases a <;> cases b <;> rfl
theorem op_notB {X : Cx} : OpR X (compareOp .IsNot) (fun x y H Q => ∃ a b, x = .bl a ∧ y = .bl b ∧ Q (.bl (!decide (a = b))) H) := by
  intro pins s σ H x y v u Q I rx ry h
  obtain ⟨a, b, rfl, rfl, q⟩ := h
  cases rx; cases ry
  show wpAny _ _ ((isSame (Value.bool a) (Value.bool b)) >>= fun z => pure (Value.bool (!z))) _ _ s
  refine wpAny_bind (wpAny_isSame_plain rfl (wpAny_pure (fin_bl I q ?_)))
  cases a <;> cases b <;> rfl
theorem relD_non {d : D} {v : V} (r : RelD P w d v) : decide (v = .non) = isNon d := by
  cases d with
  | non => have r : v = .non := r; subst r; rfl
  | bl b => have r : v = .bl b := r; subst r; rfl
  | int b => have r : v = .int b := r; subst r; rfl
  | str b => have r : v = .str b := r; subst r; rfl
  | tup ds => obtain ⟨p, vs, e, _⟩ := r; subst e; rfl
  | lst ds => obtain ⟨p, vs, e, _⟩ := r; subst e; rfl
  | scr ds => obtain ⟨p, e, _⟩ := r; subst e; rfl
  | ref ds => obtain ⟨p, e, _⟩ := r; subst e; rfl
  | obj _ _ _ => obtain ⟨p, dx, vs, e, _⟩ := r; subst e; rfl
  | exc _ _ _ _ _ => obtain ⟨vs, e, _⟩ := r; subst e; rfl
theorem eqS_at {x y : D} {u v : V} {b : Bool} (r1 : RelD P w x u) (r2 : RelD P w y v) (e : eqS x y = some b) : scal u v = true ∧ decide (u = v) = b := by
  cases x <;> cases y <;> first
    | (exfalso; simp [eqS] at e; done)
    | (have r1 : u = _ := r1
       have r2 : v = _ := r2
       subst r1; subst r2
       cases e
       exact ⟨rfl, by simp⟩)
theorem flat_at {x : D} {u : V} (r : RelD P w x u) (h : flatD x = true) : flatV u = true := by
  cases x <;> first
    | (exfalso; simp [flatD] at h; done)
    | (have r : u = _ := r
       subst r
       rfl)
theorem eqF_at {x y : D} {u v : V} (r1 : RelD P w x u) (r2 : RelD P w y v) (h1 : flatD x = true) (h2 : flatD y = true) : eqV u v = eqF x y := by
  cases x <;> cases y <;> first
    | (exfalso; simp [flatD] at h1; done)
    | (exfalso; simp [flatD] at h2; done)
    | (have r1 : u = _ := r1
       have r2 : v = _ := r2
       subst r1; subst r2
       rfl)
theorem flats_at : ∀ {ds : List D} {vs : List V}, RelDs P w ds vs → ds.all flatD = true → vs.all flatV = true
  | [], vs, r, _ => by
    have r : vs = [] := r
    subst r; rfl
  | d :: ds, _, ⟨v, us, e, h1, h2⟩, h => by
    subst e
    rw [List.all_cons, Bool.and_eq_true] at h ⊢
    exact ⟨flat_at h1 h.1, flats_at h2 h.2⟩
theorem any_at {x : D} {u : V} (r : RelD P w x u) (hx : flatD x = true) : ∀ {ds : List D} {vs : List V}, RelDs P w ds vs → ds.all flatD = true → inV u vs = ds.any fun d => eqF d x
  | [], vs, r, _ => by
    have r : vs = [] := r
    subst r; rfl
  | d :: ds, _, ⟨v, us, e, h1, h2⟩, h => by
    subst e
    rw [List.all_cons, Bool.and_eq_true] at h
    show (eqV v u || inV u us) = _
    rw [List.any_cons, eqF_at h1 r h.1 hx, any_at r hx h2 h.2]
theorem keyD_at {d : D} {v : V} {k : Option Key} (r : RelD P w d v) (e : keyD d = some k) : v = kVo k := by
  cases d <;> first
    | (exfalso; simp [keyD] at e; done)
    | (have r : v = _ := r
       subst r
       cases e
       rfl)
theorem tKey_at {d : D} {k : NestedKey} (e : tKey d = some k) : (∃ ds, d = .tup ds) ∧ keyN d = some k ∧ k.depth ≤ 8 := by
  unfold tKey at e
  split at e
  · split at e
    · next h =>
      split at e
      · next h2 => cases e; exact ⟨⟨_, rfl⟩, h, h2⟩
      · cases e
    · cases e
  · cases e
theorem relKs_val {κ : Type} [DecidableEq κ] {k : κ} : ∀ {kvs : List (κ × D)} {us : List (κ × V)}, RelKs P w kvs us → (dctVal kvs k = none ∧ valV us k = none) ∨ ∃ d v, dctVal kvs k = some d ∧ valV us k = some v ∧ RelD P w d v
  | [], us, r => by
    have r : us = [] := r
    subst r; exact .inl ⟨rfl, rfl⟩
  | (j, d) :: kvs, us, ⟨v, us', e, h1, h2⟩ => by
    subst e
    by_cases h : j = k
    · exact .inr ⟨d, v, by simp [dctVal, h], by simp [valV, h], h1⟩
    · have := relKs_val (k := k) h2
      simpa [dctVal, valV, h] using this
theorem relTs_val {k : NestedKey} : ∀ {kvs : List (D × D)} {es : List (NestedKey × Addr × V)}, RelTs P w kvs es → (dctValT kvs k = none ∧ tVal es k = none) ∨ ∃ d v, dctValT kvs k = some d ∧ tVal es k = some v ∧ RelD P w d v
  | [], es, r => by
    have r : es = [] := r
    subst r; exact .inl ⟨rfl, rfl⟩
  | (kd, d) :: kvs, es, ⟨j, b, v, es', e, h1, h2, h3, h4, h5⟩ => by
    subst e
    by_cases h : j = k
    · exact .inr ⟨d, v, by simp [dctValT, h1, h], by simp [tVal, h], h4⟩
    · have := relTs_val (k := k) h5
      have h' : ¬ keyN kd = some k := by rw [h1]; intro z; exact h (Option.some.inj z)
      simpa [dctValT, tVal, h, h'] using this
section
variable {X : Cx} {pins : List (Addr × Obj)} {σ : L2.St} {s : Shared}
mutual
theorem nest_of (hK : P.K = X.K) (I : Inv X pins σ H s) (R : RepM P w M H) : ∀ {d : D} {v : V} {u : Value} {k : NestedKey}, RelD P w d v → RelV v u → keyN d = some k → NestedIs s.heap k u
  | .non, v, u, k, r, rv, e => by
    have r : v = .non := r
    subst r
    have rv : u = Value.none := rv
    subst rv
    cases e; exact .none
  | .bl b, v, u, k, r, rv, e => by
    have r : v = .bl b := r
    subst r
    have rv : u = Value.bool b := rv
    subst rv
    cases e; exact .bool rfl
  | .int i, v, u, k, r, rv, e => by
    have r : v = .int i := r
    subst r
    obtain ⟨t, rv⟩ : ∃ t, u = Value.int i t := rv
    subst rv
    cases e; exact .int i t
  | .str x, v, u, k, r, rv, e => by
    have r : v = .str x := r
    subst r
    obtain ⟨t, rv⟩ : ∃ t, u = Value.str x t := rv
    subst rv
    cases e; exact .text x t
  | .tup ds, v, u, k, ⟨p, vs, ev, hp, hs⟩, rv, e => by
    have e : (keyNs ds).map NestedKey.tup = some k := e
    obtain ⟨ks, h1, h2⟩ := Option.map_eq_some_iff.mp e
    subst h2; subst ev
    have rv : u = Value.ref p := rv
    subst rv
    obtain ⟨its, r, ⟨o, g, c, n, dt⟩, _⟩ := I.tuple (hK ▸ sqT_mono R.sub hp)
    exact .tup g c dt (nests_of hK I R hs r h1)
  | .lst _, _, _, _, _, _, e => by cases e
  | .scr _, _, _, _, _, _, e => by cases e
  | .ref _, _, _, _, _, _, e => by cases e
  | .obj _ _ _, _, _, _, _, _, e => by cases e
  | .exc _ _ _ _ _, _, _, _, _, _, e => by cases e
theorem nests_of (hK : P.K = X.K) (I : Inv X pins σ H s) (R : RepM P w M H) : ∀ {ds : List D} {vs : List V} {us : List Value} {ks : List NestedKey}, RelDs P w ds vs → Vals vs us → keyNs ds = some ks → NestedAll s.heap ks us
  | [], vs, us, ks, r, rv, e => by
    have r : vs = [] := r
    subst r
    cases rv; cases e; exact .nil
  | d :: ds, vs, us, ks, ⟨v, r, ev, h1, h2⟩, rv, e => by
    have e : (match keyN d, keyNs ds with
      | some k, some ks => some (k :: ks)
      | _, _ => none) = some ks := e
    subst ev
    cases rv with
    | cons a b =>
      split at e
      · next x xs hx hxs =>
        cases e
        exact .cons (nest_of hK I R h1 a hx) (nests_of hK I R h2 b hxs)
      · cases e
end
theorem keysAt_of (hK : P.K = X.K) (I : Inv X pins σ H s) (R : RepM P w M H) : ∀ {kvs : List (D × D)} {es : List (NestedKey × Addr × V)}, RelTs P w kvs es → KeysAt X.prog X.w s.heap es
  | [], es, r => by
    have r : es = [] := r
    subst r; intro x hx; cases hx
  | (kd, d) :: kvs, es, ⟨j, b, v, es', e, h1, h2, h3, h4, h5⟩ => by
    subst e
    intro x hx
    rcases List.mem_cons.mp hx with z | z
    · subst z
      exact ⟨nest_of hK I R h3 (show RelV (.ref b) (Value.ref b) from rfl) h1, h2⟩
    · exact keysAt_of hK I R h5 x z
/-- what a dict holds, below -/
theorem dGet_at (hK : P.K = X.K) (hp : P.pg = X.prog) (hw : P.wl = X.w) (I : Inv X pins σ H s) (R : RepM P w M H) {d k : D} {u v : V} {r : Option D} {vk : Value} (r1 : RelD P w d u) (r2 : RelD P w k v) (rk : RelV v vk) (e : dGet d k M = some r) :
    ∃ a, u = .ref a ∧ s.TypeIs (.ref a) "dict" ∧
      (∀ {A : Around} {E : Value → Shared → Prop} {Q : Value → Shared → Prop}, A.units + 10 < cLine → (∀ s', Inv X pins σ H s' → Q (.bool r.isSome) s') → wpAny (model X.prog X.w) A (compareOp .In vk (.ref a)) Q E s) ∧
      (∀ {A : Around} {E : Value → Shared → Prop} {Q : Value → Shared → Prop}, A.units + 10 < cLine → (∀ s', Inv X pins σ H s' → Q (.bool (!r.isSome)) s') → wpAny (model X.prog X.w) A (compareOp .NotIn vk (.ref a)) Q E s) ∧
      (∀ {A : Around} {E : Value → Shared → Prop} {Q : Value → Shared → Prop} {x : D}, r = some x → A.units + 10 < cLine → (∀ y w' s', Inv X pins σ H s' → RelD P w x y → RelV y w' → Q w' s') → wpAny (model X.prog X.w) A (getItem (.ref a) vk) Q E s) := by
  cases d with
  | ref i =>
    obtain ⟨p, eu, hpp⟩ := r1
    have e : (match M[i]? with
      | some (.dct kvs) => (keyD k).map (dctVal kvs)
      | some (.dctT kvs) => (tKey k).map (dctValT kvs)
      | _ => none) = some r := e
    split at e
    · rename_i kvs hm
      obtain ⟨_, us, e2, hs⟩ := R.cell i _ p hm hpp
      rw [hp, hw] at e2
      obtain ⟨ky, hk, er⟩ := Option.map_eq_some_iff.mp e
      have hv := keyD_at r2 hk
      subst hv; subst eu
      obtain ⟨_, _, vs, _, dd⟩ := fd_of I e2
      have hsome : (valV us ky).isSome = r.isSome := by
        rcases relKs_val (k := ky) hs with ⟨q1, q2⟩ | ⟨x, y, q1, q2, _⟩ <;> rw [← er, q1, q2] <;> rfl
      refine ⟨p, rfl, dd.typeIs, fun _ h => fd_in I e2 rk fun s' I' => by rw [hsome]; exact h s' I', fun _ h => fd_notIn I e2 rk fun s' I' => by rw [hsome]; exact h s' I', fun {A E Q x} hr _ h => ?_⟩
      rcases relKs_val (k := ky) hs with ⟨q1, q2⟩ | ⟨x', y, q1, q2, q3⟩
      · rw [← er, q1] at hr; cases hr
      · rw [← er, q1] at hr; cases hr
        exact fd_getItem I e2 q2 rk fun w' s' I' rw' => h y w' s' I' q3 rw'
    · rename_i kvs hm
      obtain ⟨_, es, e2, hs⟩ := R.cell i _ p hm hpp
      rw [hp, hw] at e2
      obtain ⟨ky, hk, er⟩ := Option.map_eq_some_iff.mp e
      obtain ⟨⟨ds, hd⟩, k1, k2⟩ := tKey_at hk
      subst hd; subst eu
      have hn := nest_of hK I R r2 rk k1
      obtain ⟨b, vs, ev, _, _⟩ := id r2
      subst ev
      have rk : vk = Value.ref b := rk
      subst rk
      have ka := keysAt_of hK I R hs
      have kb : (nestedKind X.prog X.w).is s.heap ky b := ⟨hn, k2⟩
      obtain ⟨_, _, vs, _, dd⟩ := td_of I e2 ka
      have hsome : (tVal es ky).isSome = r.isSome := by
        rcases relTs_val (k := ky) hs with ⟨q1, q2⟩ | ⟨x, y, q1, q2, _⟩ <;> rw [← er, q1, q2] <;> rfl
      refine ⟨p, rfl, dd.typeIs, fun hu h => td_in hu I e2 ka kb fun s' I' => by rw [hsome]; exact h s' I', fun hu h => td_notIn hu I e2 ka kb fun s' I' => by rw [hsome]; exact h s' I', fun {A E Q x} hr hu h => ?_⟩
      rcases relTs_val (k := ky) hs with ⟨q1, q2⟩ | ⟨x', y, q1, q2, q3⟩
      · rw [← er, q1] at hr; cases hr
      · rw [← er, q1] at hr; cases hr
        exact td_getItem hu I e2 ka kb q2 fun w' s' I' rw' => h y w' s' I' q3 rw'
    · cases e
  | _ => cases e
end
end
theorem cp_sound {X : Cx} {P : Pm} (hK : P.K = X.K) (hp : P.pg = X.prog) (hw : P.wl = X.w) (hu : X.A.units + 65 < cLine) (c : Cp) : OpR X (compareOp (cpO c)) (liO2 P (cpR c)) := by
  intro pins st σ H x y v u Q I rx ry q
  obtain ⟨w, M, dx, dy, Qd, R, hx, hy, l, q⟩ := q
  have bl : ∀ {b : Bool}, Qd (.bl b) M → Q (.bl b) H := fun {b} q => l.same R (d := .bl b) rfl q
  have intsH : ∀ {f : Int → Int → Bool}, cpI f dx dy (fun b => Qd (.bl b) M) → ∃ i j, x = .int i ∧ y = .int j ∧ Q (.bl (f i j)) H := fun {f} q => by
    cases dx <;> cases dy <;> first | exact False.elim q | skip
    exact ⟨_, _, hx, hy, bl q⟩
  have eqsH : ∀ {k : Bool → Bool}, eqQ dx dy M (fun b => Qd (.bl (k b)) M) → (scal x y = true ∧ Q (.bl (k (decide (x = y)))) H) ∨ ∃ a b, Dp X.K H x a ∧ Dp X.K H y b ∧ SeqAt.shaped a = true ∧ SeqAt.shaped b = true ∧ Q (.bl (k (PyData.eqv a b))) H := fun {k} q => by
    unfold eqQ at q
    split at q
    · rename_i b e
      obtain ⟨a1, a2⟩ := eqS_at hx hy e
      exact .inl ⟨a1, by rw [a2]; exact bl q⟩
    · split at q
      · rename_i a b ea eb
        exact .inr ⟨a, b, hK ▸ rsD_at R hx ea, hK ▸ rsD_at R hy eb, q.1, q.2.1, bl q.2.2⟩
      · exact q.elim
  have insH : ∀ {k : Bool → Bool}, inD dx dy M (fun b => Qd (.bl (k b)) M) →
      (∃ i j, x = .str i ∧ y = .str j ∧ Q (.bl (k (!(Builtin.Str.occurrences j i 0 j.length 1).isEmpty))) H) ∨
      (∃ r, dGet dy dx M = some r ∧ Q (.bl (k r.isSome)) H) ∨
      (∃ p xs, y = .ref p ∧ (SqL X.K H p xs ∨ SqT X.K H p xs) ∧ flatV x = true ∧ xs.all flatV = true ∧ Q (.bl (k (inV x xs))) H) ∨
      (∃ d ds, Dp X.K H x d ∧ (Dp X.K H y (.list ds) ∨ Dp X.K H y (.tuple ds)) ∧ SeqAt.shaped d = true ∧ SeqAt.shaped (.list ds) = true ∧ Q (.bl (k (ds.any fun z => PyData.eqv z d))) H) := fun {k} q => by
    unfold inD at q
    split at q
    · rename_i s t
      exact .inl ⟨_, _, hx, hy, bl q⟩
    · split at q
      · rename_i r er
        exact .inr (.inl ⟨r, er, bl q⟩)
      · split at q
        · rename_i ds hs
          split at q
          · rename_i hf
            rw [Bool.and_eq_true] at hf
            obtain ⟨p, vs, e1, e2, e3⟩ := seqOf_at R hy hs
            refine .inr (.inr (.inl ⟨p, vs, e1, hK ▸ e2, flat_at hx hf.1, flats_at e3 hf.2, ?_⟩))
            rw [any_at hx hf.1 e3 hf.2]; exact bl q
          · split at q
            · rename_i px ps ex es
              obtain ⟨q2, q3, q4⟩ := q
              refine .inr (.inr (.inr ⟨px, ps, hK ▸ pyD_at R hx ex, ?_, q2, q3, bl q4⟩))
              by_cases ht : ∃ fs, dy = .tup fs
              · obtain ⟨fs, rfl⟩ := ht
                cases hs
                exact .inr (hK ▸ rsD_at R hy (by show (pyDs ds).map _ = _; rw [es]; rfl))
              refine .inl (hK ▸ rsD_at R hy ?_)
              cases dy with
              | tup fs => exact absurd ⟨fs, rfl⟩ ht
              | lst fs => cases hs; show (pyDs ds).map _ = _; rw [es]; rfl
              | scr ns =>
                cases hs
                show some (PyData.list (ns.map .int)) = _
                have : ∀ ms : List Int, pyDs (ms.map D.int) = some (ms.map .int) := fun ms => by
                  induction ms with
                  | nil => rfl
                  | cons m ms ih => show (match pyD (.int m), pyDs (ms.map D.int) with
                      | some x, some xs => some (x :: xs)
                      | _, _ => none) = _
                                    rw [ih]; rfl
                rw [this] at es
                cases es; rfl
              | ref i =>
                have hs' : (match M[i]? with
                  | some (.lst ds) => some ds
                  | _ => none) = some ds := hs
                show pyD (match M[i]? with
                  | some (.lst ds) => .lst ds
                  | _ => .ref i) = _
                split at hs'
                · cases hs'; show (pyDs ds).map _ = _; rw [es]; rfl
                · cases hs'
              | _ => cases hs
            · exact q.elim
        · exact q.elim
  cases c with
  | eq =>
    rcases eqsH (k := id) q with ⟨a, b⟩ | ⟨d, e, h⟩
    · exact op_eq pins st σ H x y v u Q I rx ry ⟨a, b⟩
    · exact op_eqD (by omega) pins st σ H x y v u Q I rx ry ⟨d, e, h⟩
  | ne =>
    rcases eqsH (k := not) q with ⟨a, b⟩ | ⟨d, e, h⟩
    · exact op_ne pins st σ H x y v u Q I rx ry ⟨a, b⟩
    · exact op_neD (by omega) pins st σ H x y v u Q I rx ry ⟨d, e, h⟩
  | lt => exact op_lt pins st σ H x y v u Q I rx ry (intsH q)
  | le => exact op_le pins st σ H x y v u Q I rx ry (intsH q)
  | gt => exact op_gt pins st σ H x y v u Q I rx ry (intsH q)
  | ge => exact op_ge pins st σ H x y v u Q I rx ry (intsH q)
  | isN =>
    have hy' : y = .non := by
      cases dy <;> first | exact hy | exact absurd q.1 (by simp [isNon])
    exact op_isN pins st σ H x y v u Q I rx ry ⟨hy', by rw [relD_non hx]; exact bl q.2⟩
  | notN =>
    have hy' : y = .non := by
      cases dy <;> first | exact hy | exact absurd q.1 (by simp [isNon])
    exact op_notN pins st σ H x y v u Q I rx ry ⟨hy', by rw [relD_non hx]; exact bl q.2⟩
  | isB =>
    cases dx <;> cases dy <;> first | exact q.elim | exact op_isB pins st σ H x y v u Q I rx ry ⟨_, _, hx, hy, bl q⟩
  | notB =>
    cases dx <;> cases dy <;> first | exact q.elim | exact op_notB pins st σ H x y v u Q I rx ry ⟨_, _, hx, hy, bl q⟩
  | inn =>
    rcases insH (k := id) q with h | ⟨r, er, q⟩ | ⟨p, xs, e, h, f1, f2, q⟩ | h
    · exact op_in_str pins st σ H x y v u Q I rx ry h
    · obtain ⟨a, e, _, f, _, _⟩ := dGet_at hK hp hw I R hy hx rx er
      subst e
      cases ry
      exact f (by omega) fun s' I' => ⟨.bl r.isSome, H, I', rfl, q⟩
    · exact op_in_seq pins st σ H x y v u Q I rx ry ⟨p, xs, e, h, f1, f2, q⟩
    · exact op_inDT (by omega) pins st σ H x y v u Q I rx ry h
  | nin =>
    rcases insH (k := not) q with h | ⟨r, er, q⟩ | ⟨p, xs, e, h, f1, f2, q⟩ | h
    · exact op_notin_str pins st σ H x y v u Q I rx ry h
    · obtain ⟨a, e, _, _, f, _⟩ := dGet_at hK hp hw I R hy hx rx er
      subst e
      cases ry
      exact f (by omega) fun s' I' => ⟨.bl (!r.isSome), H, I', rfl, q⟩
    · exact op_notIn_seq pins st σ H x y v u Q I rx ry ⟨p, xs, e, h, f1, f2, q⟩
    · exact op_notInDT (by omega) pins st σ H x y v u Q I rx ry h
end DL
namespace DL
open PySem L2
def ixD : O2 := fun x y M Q => match x, y with
  | .str s, .int i => s.length ≤ sizeLine ∧ match atI s.cps.toList i with
    | some c => Q (.str ⟨#[c]⟩) M
    | none => False
  | x, y => match dGet x y M with
    | some (some d) => Q d M
    | some none => False
    | none => match seqOf x M, y with
      | some ds, .int i => match atI ds i with
        | some d => Q d M
        | none => False
      | _, _ => False
theorem relDs_atI {P : Pm} {w : Wd} {ds : List D} {vs : List V} {i : Int} {d : D} (r : RelDs P w ds vs) (h : atI ds i = some d) : ∃ v, atI vs i = some v ∧ RelD P w d v := by
  unfold atI at h ⊢
  rw [r.length]
  cases e : ixN ds.length i with
  | none => rw [e] at h; cases h
  | some j =>
    rw [e] at h
    exact r.get h
theorem ix_sound {X : Cx} {P : Pm} (hK : P.K = X.K) (hp : P.pg = X.prog) (hw : P.wl = X.w) (hu : X.A.units + 65 < cLine) : IxR X (liO2 P ixD) := by
  intro value slice pins st σ H x y v u Q I rx ry q hs
  obtain ⟨w, M, dx, dy, Qd, R, hx, hy, l, q⟩ := q
  unfold ixD at q
  split at q
  · rename_i s i
    obtain ⟨hz, q⟩ := q
    split at q
    · rename_i c hc
      exact ix_str value slice pins st σ H x y v u Q I rx ry ⟨_, _, c, hx, hy, hz, hc, l.same R (d := .str _) rfl q⟩ hs
    · exact q.elim
  · split at q
    · rename_i d e
      obtain ⟨a, e1, ty, _, _, f⟩ := dGet_at hK hp hw I R hx hy ry e
      subst e1
      cases rx
      exact PyProof.Rows.tail_any ty PySem.F.slot_dict_getitem.lookup (f rfl (by omega) fun y' w' s' I' z3 rw' => ⟨y', H, I', rw', l.same R z3 q⟩) hs
    · exact q.elim
    · split at q
      · rename_i ds i hds
        split at q
        · rename_i d hd
          obtain ⟨p, vs, e1, e2, e3⟩ := seqOf_at R hx (by assumption)
          obtain ⟨z, hz, rz⟩ := relDs_atI e3 hd
          rcases e2 with e2 | e2
          · exact ix_list value slice pins st σ H x y v u Q I rx ry ⟨p, vs, _, z, e1, hy, hK ▸ e2, hz, l.same R rz q⟩ hs
          · exact ix_tup value slice pins st σ H x y v u Q I rx ry ⟨p, vs, _, z, e1, hy, hK ▸ e2, hz, l.same R rz q⟩ hs
        · exact q.elim
      · exact q.elim
def cutD {α : Type} (xs : List α) (lo hi : Option Int) : List α := (xs.drop (HT.sIx xs.length 0 lo)).take (HT.sIx xs.length xs.length hi - HT.sIx xs.length 0 lo)
/-- m: the new list may be changed -/
def slD (m : Bool) (x : D) (lo hi : Option Int) (M : Md) (Q : QE) : Prop := match x with
  | .str s => s.length ≤ sizeLine ∧ Q (.str ⟨(cutD s.cps.toList lo hi).toArray⟩) M
  | .tup ds => Q (.tup (cutD ds lo hi)) M
  | x => match seqOf x M with
    | some ds => if m then Q (.ref M.length) (M ++ [.lst (cutD ds lo hi)]) else Q (.lst (cutD ds lo hi)) M
    | none => False
def liSl (P : Pm) (m : Bool) : V → Option Int → Option Int → Hp → VK → Prop := fun x lo hi H Q => ∃ w M dx Qd, RepM P w M H ∧ RelD P w dx x ∧ Lk P w H Qd Q ∧ slD m dx lo hi M Qd
theorem relDs_cut {P : Pm} {w : Wd} {ds : List D} {vs : List V} (r : RelDs P w ds vs) (lo hi : Option Int) : RelDs P w (cutD ds lo hi) (cutV vs lo hi) := by
  unfold cutD cutV
  rw [r.length]
  exact (r.drop _).take _
theorem cut_whole {α : Type} (xs : List α) {lo hi : Option Int} (h : HT.sIx xs.length 0 lo = 0 ∧ HT.sIx xs.length xs.length hi = xs.length) : cutD xs lo hi = xs := by
  unfold cutD
  rw [h.1, h.2]
  simp
/-- a list that is read -/
theorem seqL_at {P : Pm} {w : Wd} {M : Md} {H : Hp} (R : RepM P w M H) {d : D} {v : V} {ds : List D} (r : RelD P w d v) (h : seqOf d M = some ds) (hn : ∀ es, d ≠ .tup es) : ∃ p vs, v = .ref p ∧ SqL P.K H p vs ∧ RelDs P w ds vs := by
  cases d with
  | tup es => exact absurd rfl (hn es)
  | lst es =>
    cases h
    obtain ⟨p, vs, e, hp, hs⟩ := r
    exact ⟨p, vs, e, SqL.of (R.sub _ _ hp), hs⟩
  | scr ns =>
    cases h
    obtain ⟨p, e, hp⟩ := r
    exact ⟨p, _, e, sqL_mono R.sub hp, relDs_ints ns⟩
  | ref k =>
    obtain ⟨p, e, hp⟩ := r
    have h : (match M[k]? with
      | some (.lst ds) => some ds
      | _ => none) = some ds := h
    split at h
    · rename_i ds' hm
      cases h
      obtain ⟨_, vs, e2, hs⟩ := R.cell k _ p hm hp
      exact ⟨p, vs, e, SqL.of e2, hs⟩
    · cases h
  | _ => cases h
theorem sl_sound {X : Cx} {P : Pm} (hK : P.K = X.K) (m : Bool) : SlR X (liSl P m) := by
  intro pins st σ H x v vl vu lo hi sl Q I rx hs pl pu q
  obtain ⟨w, M, dx, Qd, R, hx, l, q⟩ := q
  unfold slD at q
  split at q
  · rename_i s
    have e : cutS s lo hi = ⟨(cutD s.cps.toList lo hi).toArray⟩ := rfl
    exact sl_str pins st σ H x v vl vu lo hi sl Q I rx hs pl pu ⟨s, hx, q.1, by rw [e]; exact l.same R (d := .str _) rfl q.2⟩
  · rename_i ds
    obtain ⟨p, vs, e1, h1, r1⟩ := id hx
    refine sl_tupA pins st σ H x v vl vu lo hi sl Q I rx hs pl pu ⟨p, vs, e1, hK ▸ sqT_mono R.sub h1, fun hw => ?_, fun _ p' hp' => l.tup R (relDs_cut r1 lo hi) hp' q⟩
    rw [r1.length] at hw
    rw [cut_whole ds hw] at q
    exact e1 ▸ l.same R hx q
  · rename_i hn1 hn2
    split at q
    · rename_i ds hds
      obtain ⟨p, vs, e1, e2, e3⟩ := seqL_at R hx hds fun es e => hn2 es e
      refine sl_list pins st σ H x v vl vu lo hi sl Q I rx hs pl pu ⟨p, vs, e1, hK ▸ e2, fun p' hp => ?_⟩
      cases m with
      | true => exact l.cell R (relDs_cut e3 lo hi) hp q
      | false => exact l.lst R (relDs_cut e3 lo hi) hp q
    · exact q.elim
inductive Bt where
  | len | list | listM | tuple | max2 | min2 | int | sorted | sortedM | sortedD | sum | ord | str | any | all | isi (T : String)
def tyOf : D → Md → Option String
  | .non, _ => some "NoneType"
  | .bl _, _ => some "bool"
  | .int _, _ => some "int"
  | .str _, _ => some "str"
  | .tup _, _ => some "tuple"
  | .lst _, _ => some "list"
  | .scr _, _ => some "list"
  | .obj _ _ _, _ => none
  | .exc _ _ _ _ _, _ => none
  | .ref k, M => match M[k]? with
    | some (.lst _) => some "list"
    | _ => none
def intsOf : List D → Option (List Int)
  | [] => some []
  | .int i :: ds => (intsOf ds).map (i :: ·)
  | _ :: _ => none
def blsOf : List D → Option (List Bool)
  | [] => some []
  | .bl i :: ds => (blsOf ds).map (i :: ·)
  | _ :: _ => none
def strsOf : List D → Option (List Str)
  | [] => some []
  | .str i :: ds => (strsOf ds).map (i :: ·)
  | _ :: _ => none
def pyG (d : D) : PyData := (pyD d).getD .none
/-- what may be sorted -/
structure SortOk (ds : List D) : Prop where
  py : ∀ d ∈ ds, (pyD d).isSome = true
  al : PySem.W.AllAlike (ds.map pyG)
  so : PySem.W.Sortable (ds.map pyG)
  dp : ∀ d ∈ ds, (pyG d).depth ≤ 50
def sortD (ds : List D) : List D := ds.mergeSort (PySem.W.dataLe false pyG)
def btD : Bt → OA
  | .len, [.str s], M, Q => s.length ≤ sizeLine ∧ Q (.int s.length) M
  | .len, [d], M, Q => match seqOf d M with
    | some ds => Q (.int ds.length) M
    | none => False
  | .list, [d], M, Q => match seqOf d M with
    | some ds => Q (.lst ds) M
    | none => False
  | .listM, [d], M, Q => match seqOf d M with
    | some ds => Q (.ref M.length) (M ++ [.lst ds])
    | none => False
  | .tuple, [d], M, Q => match seqOf d M with
    | some ds => Q (.tup ds) M
    | none => False
  | .max2, [.int i, .int j], M, Q => Q (.int (if j > i then j else i)) M
  | .min2, [.int i, .int j], M, Q => Q (.int (if j < i then j else i)) M
  | .int, [.int i], M, Q => Q (.int i) M
  | .int, [.bl b], M, Q => Q (.int (if b then 1 else 0)) M
  | .int, [.str s], M, Q => ∃ n, PySem.intText? s = some n ∧ s.length ≤ 640 ∧ Q (.int n) M
  | .sorted, [d], M, Q => (∀ es, d ≠ .tup es) ∧ match seqOf d M with
    | some ds => SortOk ds ∧ Q (.lst (sortD ds)) M
    | none => False
  | .sortedM, [d], M, Q => (∀ es, d ≠ .tup es) ∧ match seqOf d M with
    | some ds => SortOk ds ∧ Q (.ref M.length) (M ++ [.lst (sortD ds)])
    | none => False
  | .sortedD, [.ref k], M, Q => match M[k]? with
    | some (.dct kvs) => ∃ ns : List Int, kvs.map (·.1) = ns.map (fun n => some (.inl n)) ∧ Q (.lst (sortD (ns.map D.int))) M
    | _ => False
  | .sum, [d], M, Q => (∀ es, d ≠ .tup es) ∧ match (seqOf d M).bind intsOf with
    | some ns => Q (.int ns.sum) M
    | none => False
  | .ord, [.str s], M, Q => s.length = 1 ∧ Q (.int (s.cps.getD 0 0 : Nat)) M
  | .str, [.int i], M, Q => i.natAbs.log2 < 1920 ∧ Q (.str (toString i)) M
  | .any, [d], M, Q => (∀ es, d ≠ .tup es) ∧ match (seqOf d M).bind blsOf with
    | some bs => Q (.bl (bs.any id)) M
    | none => False
  | .all, [d], M, Q => (∀ es, d ≠ .tup es) ∧ match (seqOf d M).bind blsOf with
    | some bs => Q (.bl (bs.all id)) M
    | none => False
  | .isi T, [d], M, Q => match tyOf d M with
    | some t => match kitB t T with
      | some b => Q (.bl b) M
      | none => False
    | none => False
  | _, _, _, _ => False
end DL
namespace DL
open PySem L2
section
variable {P : Pm} {w : Wd} {M : Md} {H : Hp}
theorem rel1 {d : D} {xs : List V} (r : RelDs P w [d] xs) : ∃ x, xs = [x] ∧ RelD P w d x := by
  obtain ⟨v, us, e, h, t⟩ := r
  have t : us = [] := t
  exact ⟨v, by rw [e, t], h⟩
theorem rel2 {d e : D} {xs : List V} (r : RelDs P w [d, e] xs) : ∃ x y, xs = [x, y] ∧ RelD P w d x ∧ RelD P w e y := by
  obtain ⟨v, us, e, h, t⟩ := r
  obtain ⟨y, e2, h2⟩ := rel1 t
  exact ⟨v, y, by rw [e, e2], h, h2⟩
theorem intsOf_at : ∀ {ds : List D} {vs : List V} {ns : List Int}, RelDs P w ds vs → intsOf ds = some ns → vs = ns.map V.int
  | [], vs, ns, r, e => by
    have r : vs = [] := r
    cases e; subst r; rfl
  | d :: ds, vs, ns, ⟨v, us, ev, h1, h2⟩, e => by
    cases d with
    | int i =>
      have e : (intsOf ds).map (i :: ·) = some ns := e
      obtain ⟨ms, hm, en⟩ := Option.map_eq_some_iff.mp e
      have h1 : v = .int i := h1
      subst ev; subst h1; subst en
      rw [intsOf_at h2 hm]; rfl
    | _ => cases e
theorem blsOf_at : ∀ {ds : List D} {vs : List V} {ns : List Bool}, RelDs P w ds vs → blsOf ds = some ns → vs = ns.map V.bl
  | [], vs, ns, r, e => by
    have r : vs = [] := r
    cases e; subst r; rfl
  | d :: ds, vs, ns, ⟨v, us, ev, h1, h2⟩, e => by
    cases d with
    | bl i =>
      have e : (blsOf ds).map (i :: ·) = some ns := e
      obtain ⟨ms, hm, en⟩ := Option.map_eq_some_iff.mp e
      have h1 : v = .bl i := h1
      subst ev; subst h1; subst en
      rw [blsOf_at h2 hm]; rfl
    | _ => cases e
theorem strsOf_at : ∀ {ds : List D} {vs : List V} {ns : List Str}, RelDs P w ds vs → strsOf ds = some ns → vs = ns.map V.str
  | [], vs, ns, r, e => by
    have r : vs = [] := r
    cases e; subst r; rfl
  | d :: ds, vs, ns, ⟨v, us, ev, h1, h2⟩, e => by
    cases d with
    | str i =>
      have e : (strsOf ds).map (i :: ·) = some ns := e
      obtain ⟨ms, hm, en⟩ := Option.map_eq_some_iff.mp e
      have h1 : v = .str i := h1
      subst ev; subst h1; subst en
      rw [strsOf_at h2 hm]; rfl
    | _ => cases e
theorem tyOf_at (R : RepM P w M H) {d : D} {v : V} {t : String} (r : RelD P w d v) (e : tyOf d M = some t) : TyX P.K H v (.type t) := by
  cases d with
  | non => have r : v = .non := r; subst r; cases e; exact .base .non
  | bl b => have r : v = .bl b := r; subst r; cases e; exact .base (.bl b)
  | int b => have r : v = .int b := r; subst r; cases e; exact .base (.int b)
  | str b => have r : v = .str b := r; subst r; cases e; exact .base (.str b)
  | tup ds =>
    obtain ⟨p, vs, ev, hp, _⟩ := r
    subst ev
    cases e
    rcases sqT_mono R.sub hp with (h | ⟨o, h⟩) | ⟨o, its, n, hk, hc, _⟩
    · exact .base (.tup h)
    · exact .fTuple h
    · exact .kTuple hk hc
  | lst ds =>
    obtain ⟨p, vs, ev, hp, _⟩ := r
    subst ev
    cases e
    exact .base (.lst (R.sub _ _ hp))
  | scr ns =>
    obtain ⟨p, ev, hp⟩ := r
    subst ev
    cases e
    rcases sqL_mono R.sub hp with (h | ⟨o, h⟩) | ⟨o, its, n, hk, hc, _⟩
    · exact .base (.lst h)
    · exact .base (.frz h)
    · exact .kList hk hc
  | obj _ _ _ => cases e
  | exc _ _ _ _ _ => cases e
  | ref k =>
    obtain ⟨p, ev, hp⟩ := r
    subst ev
    have e : (match M[k]? with
      | some (.lst _) => some "list"
      | _ => none) = some t := e
    split at e
    · rename_i ds hm
      cases e
      obtain ⟨_, vs, e2, _⟩ := R.cell k _ p hm hp
      exact .base (.lst e2)
    · cases e
end
section
variable {X : Cx} {P : Pm}
theorem bt_len (hK : P.K = X.K) : CallR X (.builtin "len") (liOA P (btD .len)) := by
  intro pins st σ H xs us Q I rv q
  obtain ⟨w, M, ds, Qd, R, hx, l, q⟩ := q
  match ds, q with
  | [], q => exact q.elim
  | _ :: _ :: _, q => exact absurd q (by simp [btD])
  | [d], q =>
    obtain ⟨x, e, r⟩ := rel1 hx
    subst e
    have h : (∃ s, d = .str s ∧ s.length ≤ sizeLine ∧ Qd (.int s.length) M) ∨ (match seqOf d M with
        | some ds => Qd (.int ds.length) M
        | none => False) := by
      cases d <;> first | exact .inl ⟨_, rfl, q⟩ | exact .inr q
    rcases h with ⟨s, e, q1, q2⟩ | q
    · subst e
      have r : x = .str s := r
      subst r
      exact call_len pins st σ H _ us Q I rv ⟨_, _, rfl, ⟨q1, rfl⟩, l.same R (d := .int _) rfl q2⟩
    · split at q
      · rename_i ds hds
        obtain ⟨p, vs, e1, e2, e3⟩ := seqOf_at R r hds
        exact call_len_seq pins st σ H _ us Q I rv ⟨p, vs, by rw [e1], hK ▸ e2, by rw [e3.length]; exact l.same R (d := .int _) rfl q⟩
      · exact q.elim
theorem bt_list (hK : P.K = X.K) (m : Bool) : CallR X (.type "list") (liOA P (btD (if m then .listM else .list))) := by
  intro pins st σ H xs us Q I rv q
  obtain ⟨w, M, ds, Qd, R, hx, l, q⟩ := q
  match ds, q with
  | [], q => cases m <;> exact q.elim
  | _ :: _ :: _, q => cases m <;> exact absurd q (by simp [btD])
  | [d], q =>
    obtain ⟨x, e, r⟩ := rel1 hx
    subst e
    cases m with
    | true =>
      have q : (match seqOf d M with
        | some ds => Qd (.ref M.length) (M ++ [.lst ds])
        | none => False) := q
      split at q
      · rename_i ds hds
        obtain ⟨p, vs, e1, e2, e3⟩ := seqOf_at R r hds
        exact call_list_of pins st σ H _ us Q I rv ⟨p, vs, by rw [e1], hK ▸ e2, fun p' hp => l.cell R e3 hp q⟩
      · exact q.elim
    | false =>
      have q : (match seqOf d M with
        | some ds => Qd (.lst ds) M
        | none => False) := q
      split at q
      · rename_i ds hds
        obtain ⟨p, vs, e1, e2, e3⟩ := seqOf_at R r hds
        exact call_list_of pins st σ H _ us Q I rv ⟨p, vs, by rw [e1], hK ▸ e2, fun p' hp => l.lst R e3 hp q⟩
      · exact q.elim
theorem bt_tuple (hK : P.K = X.K) : CallR X (.type "tuple") (liOA P (btD .tuple)) := by
  intro pins st σ H xs us Q I rv q
  obtain ⟨w, M, ds, Qd, R, hx, l, q⟩ := q
  match ds, q with
  | [], q => exact q.elim
  | _ :: _ :: _, q => exact absurd q (by simp [btD])
  | [d], q =>
    obtain ⟨x, e, r⟩ := rel1 hx
    subst e
    have q : (match seqOf d M with
      | some ds => Qd (.tup ds) M
      | none => False) := q
    split at q
    · rename_i ds hds
      by_cases ht : ∃ es, d = .tup es
      · obtain ⟨es, et⟩ := ht
        subst et
        cases hds
        obtain ⟨p, vs, e1, h1, r1⟩ := id r
        exact call_tuple_of pins st σ H _ us Q I rv ⟨p, vs, by rw [e1], .inr ⟨hK ▸ sqT_mono R.sub h1, e1 ▸ l.same R r q⟩⟩
      · obtain ⟨p, vs, e1, e2, e3⟩ := seqL_at R r hds fun es e => ht ⟨es, e⟩
        exact call_tuple_of pins st σ H _ us Q I rv ⟨p, vs, by rw [e1], .inl ⟨hK ▸ e2, fun p' hp => l.tup R e3 hp q⟩⟩
    · exact q.elim
theorem bt_int : CallR X (.type "int") (liOA P (btD .int)) := by
  intro pins st σ H xs us Q I rv q
  obtain ⟨w, M, ds, Qd, R, hx, l, q⟩ := q
  match ds, q with
  | [], q => exact q.elim
  | _ :: _ :: _, q => exact absurd q (by simp [btD])
  | [d], q =>
    obtain ⟨x, e, r⟩ := rel1 hx
    subst e
    cases d with
    | int i =>
      have r : x = .int i := r
      subst r
      exact call_int1 pins st σ H _ us Q I rv (.inl ⟨i, rfl, l.same R (d := .int _) rfl q⟩)
    | bl i =>
      have r : x = .bl i := r
      subst r
      exact call_int1 pins st σ H _ us Q I rv (.inr ⟨i, rfl, l.same R (d := .int _) rfl q⟩)
    | str s =>
      have r : x = .str s := r
      subst r
      obtain ⟨n, h1, h2, q⟩ := q
      exact call_int_str pins st σ H _ us Q I rv ⟨s, n, rfl, h1, h2, l.same R (d := .int _) rfl q⟩
    | _ => exact q.elim
theorem bt_ord : CallR X (.builtin "ord") (liOA P (btD .ord)) := by
  intro pins st σ H xs us Q I rv q
  obtain ⟨w, M, ds, Qd, R, hx, l, q⟩ := q
  match ds, q with
  | [], q => exact q.elim
  | _ :: _ :: _, q => exact absurd q (by simp [btD])
  | [d], q =>
    obtain ⟨x, e, r⟩ := rel1 hx
    subst e
    cases d with
    | str i =>
      have r : x = .str i := r
      subst r
      exact call_ord pins st σ H _ us Q I rv ⟨i, rfl, q.1, l.same R (d := .int _) rfl q.2⟩
    | _ => exact q.elim
theorem bt_str : CallR X (.type "str") (liOA P (btD .str)) := by
  intro pins st σ H xs us Q I rv q
  obtain ⟨w, M, ds, Qd, R, hx, l, q⟩ := q
  match ds, q with
  | [], q => exact q.elim
  | _ :: _ :: _, q => exact absurd q (by simp [btD])
  | [d], q =>
    obtain ⟨x, e, r⟩ := rel1 hx
    subst e
    cases d with
    | int i =>
      have r : x = .int i := r
      subst r
      exact call_str_int pins st σ H _ us Q I rv ⟨i, rfl, q.1, l.same R (d := .str _) rfl q.2⟩
    | _ => exact q.elim
theorem bt_mm (hc : X.calm = true) (m : Bool) : CallR X (.builtin (if m then "max" else "min")) (liOA P (btD (if m then .max2 else .min2))) := by
  intro pins st σ H xs us Q I rv q
  obtain ⟨w, M, ds, Qd, R, hx, l, q⟩ := q
  match ds, q with
  | [], q => cases m <;> exact q.elim
  | [_], q => cases m <;> exact absurd q (by simp [btD])
  | _ :: _ :: _ :: _, q => cases m <;> exact absurd q (by simp [btD])
  | [d, e], q =>
    obtain ⟨x, y, e, r1, r2⟩ := rel2 hx
    subst e
    have h : ∃ i j, d = .int i ∧ e = .int j ∧ if m then Qd (.int (if j > i then j else i)) M else Qd (.int (if j < i then j else i)) M := by
      cases m <;> cases d <;> first | exact q.elim | skip
      all_goals (cases e <;> first | exact q.elim | exact ⟨_, _, rfl, rfl, q⟩)
    obtain ⟨i, j, e1, e2, q⟩ := h
    subst e1; subst e2
    have r1 : x = .int i := r1
    have r2 : y = .int j := r2
    subst r1; subst r2
    cases m with
    | true => exact call_max2 hc pins st σ H _ us Q I rv ⟨i, j, rfl, l.same R (d := .int _) rfl q⟩
    | false => exact call_min2 hc pins st σ H _ us Q I rv ⟨i, j, rfl, l.same R (d := .int _) rfl q⟩
theorem bt_sum (hK : P.K = X.K) (hc : X.calm = true) : CallR X (.builtin "sum") (liOA P (btD .sum)) := by
  intro pins st σ H xs us Q I rv q
  obtain ⟨w, M, ds, Qd, R, hx, l, q⟩ := q
  match ds, q with
  | [], q => exact q.elim
  | _ :: _ :: _, q => exact absurd q (by simp [btD])
  | [d], q =>
    obtain ⟨x, e, r⟩ := rel1 hx
    subst e
    obtain ⟨hn, q⟩ := q
    split at q
    · rename_i ns hns
      obtain ⟨ds, hds, hi⟩ := Option.bind_eq_some_iff.mp hns
      obtain ⟨p, vs, e1, e2, e3⟩ := seqL_at R r hds hn
      rw [intsOf_at e3 hi] at e2
      exact cr_sum hc pins st σ H _ us Q I rv ⟨p, ns, by rw [e1], hK ▸ e2, l.same R (d := .int _) rfl q⟩
    · exact q.elim
theorem bt_any (hK : P.K = X.K) (hc : X.calm = true) : CallR X (.builtin "any") (liOA P (btD .any)) := by
  intro pins st σ H xs us Q I rv q
  obtain ⟨w, M, ds, Qd, R, hx, l, q⟩ := q
  match ds, q with
  | [], q => exact q.elim
  | _ :: _ :: _, q => exact absurd q (by simp [btD])
  | [d], q =>
    obtain ⟨x, e, r⟩ := rel1 hx
    subst e
    obtain ⟨hn, q⟩ := q
    split at q
    · rename_i ns hns
      obtain ⟨ds, hds, hi⟩ := Option.bind_eq_some_iff.mp hns
      obtain ⟨p, vs, e1, e2, e3⟩ := seqL_at R r hds hn
      rw [blsOf_at e3 hi] at e2
      exact cr_any hc pins st σ H _ us Q I rv ⟨p, ns, by rw [e1], hK ▸ e2, l.same R (d := .bl _) rfl q⟩
    · exact q.elim
theorem bt_all (hK : P.K = X.K) (hc : X.calm = true) : CallR X (.builtin "all") (liOA P (btD .all)) := by
  intro pins st σ H xs us Q I rv q
  obtain ⟨w, M, ds, Qd, R, hx, l, q⟩ := q
  match ds, q with
  | [], q => exact q.elim
  | _ :: _ :: _, q => exact absurd q (by simp [btD])
  | [d], q =>
    obtain ⟨x, e, r⟩ := rel1 hx
    subst e
    obtain ⟨hn, q⟩ := q
    split at q
    · rename_i ns hns
      obtain ⟨ds, hds, hi⟩ := Option.bind_eq_some_iff.mp hns
      obtain ⟨p, vs, e1, e2, e3⟩ := seqL_at R r hds hn
      rw [blsOf_at e3 hi] at e2
      exact cr_all hc pins st σ H _ us Q I rv ⟨p, ns, by rw [e1], hK ▸ e2, l.same R (d := .bl _) rfl q⟩
    · exact q.elim
/-- isinstance(x, T): the second place the class itself -/
theorem bt_isi (hK : P.K = X.K) {T : String} : CallR X (.builtin "isinstance") (fun xs H Q => ∃ x, xs = [x, .ty T] ∧ liOA P (btD (.isi T)) [x] H Q) := by
  intro pins st σ H xs us Q I rv q
  obtain ⟨x, e, w, M, ds, Qd, R, hx, l, q⟩ := q
  subst e
  match ds, q with
  | [], q => exact q.elim
  | _ :: _ :: _, q => exact absurd q (by simp [btD])
  | [d], q =>
    obtain ⟨x', e, r⟩ := rel1 hx
    cases e
    have q : (match tyOf d M with
      | some t => match kitB t T with
        | some b => Qd (.bl b) M
        | none => False
      | none => False) := q
    split at q
    · rename_i t ht
      split at q
      · rename_i b hb
        exact call_isi pins st σ H _ us Q I rv ⟨_, _, _, _, b, rfl, ClsV.ty T, hK ▸ tyOf_at R r ht, kit_ty hb, l.same R (d := .bl _) rfl q⟩
      · exact q.elim
    · exact q.elim
/-- the items as data -/
theorem each_of {pins : List (Addr × Obj)} {st : Shared} {σ : L2.St} {H : Hp} {w : Wd} {M : Md} (hK : P.K = X.K) (I : Inv X pins σ H st) (R : RepM P w M H) : ∀ {ds : List D} {vs : List V} {us : List Value}, RelDs P w ds vs → Vals vs us → (∀ d ∈ ds, (pyD d).isSome = true) →
    PySem.W.EachIs (fun u d => ∃ x, RelV x u ∧ RelD P w d x) us ds ∧ PySem.W.EachIs (fun u d => ∃ as, Reads st.heap u (pyG d) as) us ds
  | [], vs, us, r, v, _ => by
    have r : vs = [] := r
    subst r; cases v; exact ⟨.nil, .nil⟩
  | d :: ds, _, us, ⟨x, xs, e, h1, h2⟩, v, hp => by
    subst e
    cases v with
    | cons v1 v2 =>
      obtain ⟨a, b⟩ := each_of hK I R h2 v2 fun d hd => hp d (List.mem_cons_of_mem _ hd)
      obtain ⟨y, hy⟩ := Option.isSome_iff_exists.mp (hp d List.mem_cons_self)
      refine ⟨.cons ⟨x, v1, h1⟩ a, .cons ?_ b⟩
      have : pyG d = y := by unfold pyG; rw [hy]; rfl
      rw [this]
      exact Dp.reads I y x _ (hK ▸ pyD_at R h1 hy) v1
theorem each_back {w : Wd} : ∀ {ds : List D} {us : List Value}, PySem.W.EachIs (fun u d => ∃ x, RelV x u ∧ RelD P w d x) us ds → ∃ vs, Vals vs us ∧ RelDs P w ds vs
  | [], _, h => by cases h; exact ⟨[], .nil, rfl⟩
  | d :: ds, _, h => by
    cases h with
    | cons h1 h2 =>
      obtain ⟨x, a, b⟩ := h1
      obtain ⟨vs, c, e⟩ := each_back h2
      exact ⟨x :: vs, .cons a c, .cons b e⟩
theorem bt_sorted (hK : P.K = X.K) (hu : X.A.units + 65 < cLine) (m : Bool) : CallR X (.builtin "sorted") (liOA P (btD (if m then .sortedM else .sorted))) := by
  intro pins st σ H xs us Q I rv q
  obtain ⟨w, M, ds, Qd, R, hx, l, q⟩ := q
  match ds, q with
  | [], q => cases m <;> exact q.elim
  | _ :: _ :: _, q => cases m <;> exact absurd q (by simp [btD])
  | [d], q =>
    obtain ⟨x, e, r⟩ := rel1 hx
    subst e
    have q : (∀ es, d ≠ .tup es) ∧ match seqOf d M with
      | some ds => SortOk ds ∧ (if m then Qd (.ref M.length) (M ++ [.lst (sortD ds)]) else Qd (.lst (sortD ds)) M)
      | none => False := by cases m <;> exact q
    obtain ⟨hn, q⟩ := q
    split at q
    · rename_i ds hds
      obtain ⟨ok, q⟩ := q
      obtain ⟨p, vs, e1, e2, e3⟩ := seqL_at R r hds hn
      subst e1
      obtain ⟨u, rfl, ru⟩ := vals1 rv
      obtain rfl : u = Value.ref p := ru
      obtain ⟨its, r1, pl, hz⟩ := I.list (hK ▸ e2)
      obtain ⟨ea, er⟩ := each_of hK I R e3 r1 ok.py
      refine PySem.W.sorted_data (enc := pyG) pl.isList ea er ok.al ok.so (by rw [← e3.length]; exact hz) (fun b hb => by have := ok.dp b hb; omega) fun out ho eo => ?_
      obtain ⟨ws, r2, r3⟩ := each_back eo
      have hf : H (st.heap.objs.size + 1) = none := I.hok.fresh (Nat.le_succ _)
      obtain ⟨c, hc⟩ := PyProof.Rows.sortedAll_at st.heap its (List.toArray out)
      have J : Inv X pins σ (upd H (st.heap.objs.size + 1) (.lst ws)) { st with heap := PyProof.Rows.sortedAll st.heap its (List.toArray out) } := by
        refine I.laid (t' := st.toks) (fun b o e => PyProof.Rows.sortedAll_old e) (Nat.le_succ _) ⟨?_, out, c, r2, hc⟩
        rw [r3.length, List.length_mergeSort, ← e3.length]; exact hz
      refine ⟨.ref (st.heap.objs.size + 1), _, J, rfl, ?_⟩
      cases m with
      | true => exact l.cell R r3 hf q
      | false => exact l.lst R r3 hf q
    · exact q.elim
/-- numbers, one by one -/
theorem each_int {P : Pm} {w : Wd} {h : Heap} {a : Addr} : ∀ {us : List Value} {ns : List Int}, us.length = ns.length → (∀ (j : Nat) (v : Value), us[j]? = some v → ∃ (n : Int) (t : Tok), ns[j]? = some n ∧ v = .int n t) →
    PySem.W.EachIs (fun u d => ∃ x, RelV x u ∧ RelD P w d x) us (ns.map D.int) ∧ PySem.W.EachIs (fun u d => ∃ as, Reads h u (pyG d) as ∧ a ∉ as) us (ns.map D.int)
  | [], [], _, _ => ⟨.nil, .nil⟩
  | u :: us, n :: ns, hl, hq => by
    obtain ⟨m, t, e1, e2⟩ := hq 0 u rfl
    have e1 : n = m := Option.some.inj e1
    subst e1 e2
    obtain ⟨q1, q2⟩ := each_int (P := P) (w := w) (h := h) (a := a) (us := us) (ns := ns) (by simpa using hl) fun j v e => by
      obtain ⟨m, t, e3, e4⟩ := hq (j + 1) v (by simpa using e)
      exact ⟨m, t, by simpa using e3, e4⟩
    exact ⟨.cons ⟨.int n, ⟨t, rfl⟩, rfl⟩ q1, .cons ⟨[], .int n t, by simp⟩ q2⟩
  | [], _ :: _, hl, _ => by simp at hl
  | _ :: _, [], hl, _ => by simp at hl
theorem relKs_keys {κ : Type} {P : Pm} {w : Wd} : ∀ {kvs : List (κ × D)} {us : List (κ × V)}, RelKs P w kvs us → us.map (·.1) = kvs.map (·.1)
  | [], us, h => by
    have h : us = [] := h
    subst h; rfl
  | (k, d) :: r, us, ⟨v, us', e, _, h⟩ => by
    subst e
    rw [List.map_cons, List.map_cons, relKs_keys h]
theorem bt_sortedD (hK : P.K = X.K) (hpg : P.pg = X.prog) (hwl : P.wl = X.w) (hu : X.A.units + 65 < cLine) (hcalm : X.calm = true) : CallR X (.builtin "sorted") (liOA P (btD .sortedD)) := by
  intro pins st σ H xs us Q I rv q
  obtain ⟨w, M, ds, Qd, R, hx, l, q⟩ := q
  match ds, q with
  | [], q => exact q.elim
  | _ :: _ :: _, q => exact absurd q (by simp [btD])
  | [d], q =>
    obtain ⟨x, e, r⟩ := rel1 hx
    subst e
    cases d with
    | ref k =>
      have q : (match M[k]? with
        | some (.dct kvs) => ∃ ns : List Int, kvs.map (·.1) = ns.map (fun n => some (.inl n)) ∧ Qd (.lst (sortD (ns.map D.int))) M
        | _ => False) := q
      obtain ⟨p, e1, hp⟩ := r
      subst e1
      split at q
      · rename_i kvs hm
        obtain ⟨ns, hns, q⟩ := q
        obtain ⟨hF, vus, eH, hk⟩ := R.cell k _ p hm hp
        rw [hpg, hwl] at eH
        obtain ⟨u, rfl, ru⟩ := vals1 rv
        obtain rfl : u = Value.ref p := ru
        obtain ⟨z, hd, vs, rel, dd⟩ := fd_of I eH
        obtain ⟨ep, hat⟩ := dd.dictAt
        have hkeys : vs.map (·.1) = ns.map fun n => some (.inl n) := by
          rw [← rel.keys, relKs_keys hk, hns]
        have hl : vs.length = ns.length := by
          have e := congrArg List.length hkeys
          rw [List.length_map, List.length_map] at e
          exact e
        have hzl : vs.length ≤ sizeLine := by rw [← rel.length]; exact z
        refine Calls.call_function_entry PyProof.Rows.kind_sorted PyProof.Rows.plain_sorted PyProof.Rows.entry_sorted (PyProof.Rows.args_sorted1 _) ?_
        unfold Builtin.«sorted»
        refine wpAny_bind (m := checkCount "sorted" 1 1 _) (wpAny_pure ?_)
        refine wpAny_bind (PySem.W.kdu_collect (A := X.A.in1) (PySem.W.kdl_dict (knd := noneKind X.prog X.w) (kvs := vs) (ep := ep) hd) (I.ok.hd hcalm) hat hzl fun h' tk acc hkp hacc => ?_)
        have hal : acc.toList.length = ns.length := by rw [Array.length_toList, hacc.1, hl]
        have I1 : Inv X pins σ H { st with heap := h', toks := tk } := I.kept hkp
        refine wpAny_bind (wpAny_newList ?_ (by rw [hal, ← hl]; exact hzl))
        have hoL : (h'.push (PyProof.Rows.seqObj "list" acc.toList.toArray 0)).get? h'.objs.size = some (PyProof.Rows.seqObj "list" acc.toList.toArray 0) := Heap.get?_push_size _ rfl
        show wpAny _ _ _ _ _ { st with heap := h'.push (PyProof.Rows.seqObj "list" acc.toList.toArray 0), toks := tk }
        obtain ⟨E1, E2⟩ := each_int (P := P) (w := w) (h := h'.push (PyProof.Rows.seqObj "list" acc.toList.toArray 0)) (a := h'.objs.size) hal fun j v e => by
          obtain ⟨ky, x, e1, e2⟩ := hacc.2 j v (by rw [← Array.getElem?_toList]; exact e)
          have e3 : (vs.map (·.1))[j]? = some ky := by rw [List.getElem?_map, e1]; rfl
          rw [hkeys, List.getElem?_map] at e3
          cases e4 : ns[j]? with
          | none => rw [e4] at e3; cases e3
          | some y =>
            rw [e4] at e3
            have e5 : some (Sum.inl y) = ky := Option.some.inj e3
            subst e5
            rcases keyIs_shape (show keyIs (Sum.inl y) v = true from e2) with ⟨i, t, ek, ev⟩ | ⟨z, t, ek, ev⟩
            · cases ek
              exact ⟨y, t, rfl, ev⟩
            · cases ek
        have hpy : ∀ b ∈ ns.map D.int, ∃ n, pyG b = .int n := fun b hb => by
          obtain ⟨n, _, rfl⟩ := List.mem_map.mp hb
          exact ⟨n, rfl⟩
        refine wpAny_bind (wpAny_holding (PySem.W.list_sort_data (s := { st with heap := h'.push (PyProof.Rows.seqObj "list" acc.toList.toArray 0), toks := tk }) (enc := pyG) hoL E1 E2 ?_ ?_ (by rw [List.length_map, ← hl]; exact hzl) (fun b hb => ?_) fun out ho eo => ?_))
        · intro a ha b hb
          obtain ⟨a', ha', rfl⟩ := List.mem_map.mp ha
          obtain ⟨b', hb', rfl⟩ := List.mem_map.mp hb
          obtain ⟨n, e1⟩ := hpy _ ha'
          obtain ⟨m, e2⟩ := hpy _ hb'
          rw [e1, e2]
          simp [PySem.W.alike]
        · refine .inr fun a ha => ?_
          obtain ⟨a', ha', rfl⟩ := List.mem_map.mp ha
          obtain ⟨n, e1⟩ := hpy _ ha'
          rw [e1]
          exact ⟨(fun z => by cases z), (fun _ z => by cases z)⟩
        · obtain ⟨n, e1⟩ := hpy _ hb
          rw [e1, PyData.depth, Around.in1_units]
          omega
        · obtain ⟨ws, r2, r3⟩ := each_back eo
          obtain ⟨e', he'⟩ := PyProof.Rows.sortedHeap_at (vs := acc.toList) (out := List.toArray out) hoL
          have hf : H h'.objs.size = none := I1.hok.fresh (Nat.le_refl _)
          have hws : ws.length ≤ sizeLine := by
            rw [r3.length, List.length_mergeSort, List.length_map, ← hl]; exact hzl
          have J : Inv X pins σ (upd H h'.objs.size (.lst ws)) { st with heap := PyProof.Rows.sortedHeap (h'.push (PyProof.Rows.seqObj "list" acc.toList.toArray 0)) h'.objs.size acc.toList (List.toArray out), toks := tk } := by
            refine I1.laid (t' := tk) (fun b o e => ?_) (Nat.le_refl _) ⟨hws, out, e', r2, he'⟩
            have hb : b < h'.objs.size := Heap.lt_size e
            rw [PyProof.Rows.sortedHeap_old (Nat.ne_of_lt hb) (by rw [PyProof.Rows.size_push']; exact Nat.lt_succ_of_lt hb)]
            exact Heap.get?_push_of_some _ e
          exact wpAny_pure ⟨_, rfl, .ref h'.objs.size, _, J, rfl, l.lst R r3 hf q⟩
      · exact q.elim
    | _ => exact q.elim
end
end DL
namespace DL
open PySem L2
open PySem.AutoSeq1 in
theorem extend_tup (l : Addr) (items : Array Value) (n : Nat) (b : Addr) (items2 : Array Value) (n2 : Nat) (dd sl) (hs0 : ¬(!items.isEmpty && Builtin.List.listTooLong (items.size + items2.size)) = true) (hs1 : items.size ≤ sizeLine) (hs2 : items.size + items2.size ≤ sizeLine + 1 := by seq_fits) :
    Meets (Builtin.«list.extend» ⟨[.ref l, .ref b], []⟩) (fun _ R s => s.heap.get? l = some { cls := .type "list", dict := none, data := .seq items n, slots := #[] } ∧ s.heap.get? b = some { cls := .type "tuple", dict := dd, data := .seq items2 n2, slots := sl } ∧ R (.ok (.ret Value.none)) { s with heap := s.heap.update l (Obj.mapSeq fun x => x ++ items2), toks := s.toks }) :=
  .of_wp fun prog w A R s h => by
    obtain ⟨hp, g, d, tk, os⟩ := s; obtain ⟨hl, hb, h⟩ := h; have f1 := idx_int; have f2 := sub_tuple_tuple; have f3 := sub_list_list; have f4 := sub_tuple_list; have f5 := sub_list_tuple;
    have hz' : (items ++ items2).size ≤ sizeLine + 1 := by rw [Array.size_append]; exact hs2
    wp_walk using (wpAny_updateSeq hl rfl (hz := hs1) (_hz' := hz')), wpAny_loadPart' hl, wpAny_loadPart' hb; exact ⟨_, rfl, h⟩
def rExtendT (K : PySem.W.Frag) : V → List V → Hp → VK → Prop := fun x vs H Q => ∃ l b xs zs, x = .ref l ∧ vs = [.ref b] ∧ H l = some (.lst xs) ∧ SqT K H b zs ∧ xs.length + zs.length ≤ sizeLine ∧ Q .non (upd H l (.lst (xs ++ zs)))
theorem mt_extendT {X : Cx} : MtM X "list.extend" (rExtendT X.K) := by
  intro pins s σ H x vs v us Q I rx rv h
  obtain ⟨l, b, xs, zs, rfl, rfl, hH, hB, hz, q⟩ := h
  cases rx
  obtain ⟨u, rfl, ru⟩ := rv.one
  cases ru
  obtain ⟨z, its, n, r, hl, e⟩ := I.lstM hH
  obtain ⟨its2, r2, p2, _⟩ := I.tuple hB
  obtain ⟨⟨cls, dd, data, sl⟩, ho, hc, n2, hd⟩ := id p2
  simp only at hc hd
  subst hc hd
  have hl2 := r2.length
  have hsz : its.toArray.size + its2.toArray.size ≤ sizeLine := by rw [List.size_toArray, List.size_toArray]; omega
  have hlong : ¬ (!its.toArray.isEmpty && Builtin.List.listTooLong (its.toArray.size + its2.toArray.size)) = true := by
    rw [notLongL hsz, Bool.and_false]
    exact Bool.false_ne_true
  refine call_meets F.slot_list_extend ⟨_, e, rfl⟩ F.entry_list_extend (F.args_list_extend_2 _ _)
    (extend_tup l its.toArray n b its2.toArray n2 dd sl hlong (by rw [List.size_toArray]; omega) (by omega)) ⟨e, ho, ?_⟩
  refine ⟨.non, _, I.lset (its' := its ++ its2) hH e (by simp) (r.append r2) ?_, rfl, q⟩
  rw [List.length_append]
  omega
/-- what a list is extended by: a tuple or a list -/
def extOf (d : D) (M : Md) : Option (List D) := match d with
  | .tup ds => some ds
  | d => lstOf d M
inductive Mt where
  | append | extend | pop | popAt | insert | clear | reverse | join | find | lower | upper | split | index | find2
  deriving DecidableEq
def mtT : Mt → String
  | .append | .extend | .pop | .popAt | .insert | .clear | .reverse | .index => "list"
  | _ => "str"
def mtN : Mt → Str
  | .append => "append" | .extend => "extend" | .pop => "pop" | .popAt => "pop" | .insert => "insert" | .clear => "clear" | .reverse => "reverse"
  | .join => "join" | .find => "find" | .lower => "lower" | .upper => "upper" | .split => "split" | .index => "index" | .find2 => "find"
def mtI : Mt → String
  | .append => "list.append" | .extend => "list.extend" | .pop => "list.pop" | .popAt => "list.pop" | .insert => "list.insert" | .clear => "list.clear" | .reverse => "list.reverse"
  | .join => "str.join" | .find => "str.find" | .lower => "str.lower" | .upper => "str.upper" | .split => "str.split" | .index => "list.index" | .find2 => "str.find"
/-- how many arguments -/
def mtA : Mt → Nat
  | .pop | .clear | .reverse | .lower | .upper => 0
  | .insert | .find2 => 2
  | _ => 1
/-- the receiver's kind -/
def mtK (m : Mt) (d : D) (M : Md) : Prop := if mtT m = "list" then (seqOf d M).isSome = true ∧ ∀ es, d ≠ .tup es else ∃ s, d = .str s
/-- a list that may be changed -/
def mutOf (d : D) (M : Md) : Option (Nat × List D) := match d with
  | .ref k => match M[k]? with
    | some (.lst ds) => some (k, ds)
    | _ => none
  | _ => none
/-- the first place of y -/
def idxF (y : D) : List D → Option Nat
  | [] => none
  | d :: ds => if eqF d y = true then some 0 else (idxF y ds).map (· + 1)
theorem idxF_get {y : D} : ∀ {ds : List D} {j : Nat}, idxF y ds = some j → (∃ z, ds[j]? = some z ∧ eqF z y = true) ∧ ∀ m z, m < j → ds[m]? = some z → eqF z y = false
  | [], j, h => by cases h
  | d :: ds, j, h => by
    unfold idxF at h
    split at h
    · next e => cases h; exact ⟨⟨d, rfl, e⟩, fun m z hm => absurd hm (Nat.not_lt_zero m)⟩
    · next e =>
      obtain ⟨i, hi, e2⟩ := Option.map_eq_some_iff.mp h
      subst e2
      obtain ⟨⟨z, hz, e3⟩, h2⟩ := idxF_get hi
      refine ⟨⟨z, by simpa using hz, e3⟩, fun m z hm hz => ?_⟩
      cases m with
      | zero =>
        have hz : d = z := by simpa using hz
        subst hz
        simpa using e
      | succ m => exact h2 m z (by omega) (by simpa using hz)
def mtD (m : Mt) (x : D) (args : List D) (M : Md) (Q : QE) : Prop := match m with
  | .append => match mutOf x M, args with
    | some (k, ds), [d] => ds.length < sizeLine ∧ Q .non (M.set k (.lst (ds ++ [d])))
    | _, _ => False
  | .extend => match mutOf x M, args with
    | some (k, ds), [d] => match extOf d M with
      | some es => ds.length + es.length ≤ sizeLine ∧ Q .non (M.set k (.lst (ds ++ es)))
      | none => False
    | _, _ => False
  | .pop => match mutOf x M, args with
    | some (k, ds), [] => match ds.getLast? with
      | some d => Q d (M.set k (.lst ds.dropLast))
      | none => False
    | _, _ => False
  | .popAt => match mutOf x M, args with
    | some (k, ds), [.int i] => -(2 ^ 63) ≤ i ∧ i < 2 ^ 63 ∧ match ixN ds.length i with
      | some j => match ds[j]? with
        | some d => Q d (M.set k (.lst (ds.eraseIdx j)))
        | none => False
      | none => False
    | _, _ => False
  | .insert => match mutOf x M, args with
    | some (k, ds), [.int i, d] => ds.length < sizeLine ∧ 0 ≤ i ∧ i < 2 ^ 63 ∧ Q .non (M.set k (.lst (ds.take i.toNat ++ [d] ++ ds.drop i.toNat)))
    | _, _ => False
  | .clear => match mutOf x M, args with
    | some (k, ds), [] => Q .non (M.set k (.lst []))
    | _, _ => False
  | .reverse => match mutOf x M, args with
    | some (k, ds), [] => Q .non (M.set k (.lst ds.reverse))
    | _, _ => False
  | .join => match x, args with
    | .str s, [d] => match (seqOf d M).bind strsOf with
      | some ys => (ys.map (·.length)).sum + ys.length * s.length ≤ 16777216 ∧ Q (.str (Txt.join s ys)) M
      | none => False
    | _, _ => False
  | .find => match x, args with
    | .str s, [.str t] => Q (.int (Txt.find s t)) M
    | _, _ => False
  | .find2 => match x, args with
    | .str s, [.str t, .int i] => Q (.int (Txt.find3 s t i)) M
    | _, _ => False
  | .lower => match x, args with
    | .str s, [] => s.length ≤ 5592405 ∧ Q (.str (Txt.lower s)) M
    | _, _ => False
  | .upper => match x, args with
    | .str s, [] => s.length ≤ 5592405 ∧ Q (.str (Txt.upper s)) M
    | _, _ => False
  | .split => match x, args with
    | .str s, [.str t] => (t.length == 0) = false ∧ s.length + 2 ≤ sizeLine ∧ Q (.lst ((Txt.split s t).map D.str)) M
    | _, _ => False
  | .index => match lstOf x M, args with
    | some ds, [y] => flatD y = true ∧ ds.all flatD = true ∧ match idxF y ds with
      | some j => Q (.int j) M
      | none => False
    | _, _ => False
def liM (P : Pm) (m : Mt) : V → List V → Hp → VK → Prop := fun x xs H Q => ∃ w M dx ds Qd, RepM P w M H ∧ RelD P w dx x ∧ RelDs P w ds xs ∧ Lk P w H Qd Q ∧ mtD m dx ds M Qd
theorem mutOf_at {P : Pm} {w : Wd} {M : Md} {H : Hp} (R : RepM P w M H) {d : D} {v : V} {k : Nat} {ds : List D} (r : RelD P w d v) (h : mutOf d M = some (k, ds)) :
    ∃ p vs, v = .ref p ∧ H p = some (.lst vs) ∧ RelDs P w ds vs ∧ w.r[k]? = some p ∧ M[k]? = some (.lst ds) ∧ w.F p = none := by
  cases d with
  | ref j =>
    obtain ⟨p, e, hp⟩ := r
    have h : (match M[j]? with
      | some (.lst ds) => some (j, ds)
      | _ => none) = some (k, ds) := h
    split at h
    · rename_i ds' hm
      cases h
      obtain ⟨hF, vs, e2, hs⟩ := R.cell _ _ p hm hp
      exact ⟨p, vs, e, e2, hs, hp, hm, hF⟩
    · cases h
  | _ => cases h
theorem Lk.put {P : Pm} {w : Wd} {M : Md} {H : Hp} {Qd : QE} {Q : VK} (l : Lk P w H Qd Q) (R : RepM P w M H) {k : Nat} {p : Addr} {ds ds' : List D} {vs' : List V} (hm : M[k]? = some (.lst ds)) (hp : w.r[k]? = some p) (hF : w.F p = none)
    (r' : RelDs P w ds' vs') {d : D} {v : V} (r : RelD P w d v) (q : Qd d (M.set k (.lst ds'))) : Q v (upd H p (.lst vs')) := by
  obtain ⟨R', s⟩ := R.write (o := .lst vs') (m' := .lst ds') hm hF hp .lst ⟨hF, vs', upd_same, r'⟩
  exact l _ _ _ _ _ s R' r q
theorem relDs_strs {P : Pm} {w : Wd} : ∀ ys : List Str, RelDs P w (ys.map D.str) (ys.map V.str)
  | [] => rfl
  | n :: ns => ⟨.str n, _, rfl, rfl, relDs_strs ns⟩
theorem relDs_eraseIdx {P : Pm} {w : Wd} : ∀ {ds : List D} {vs : List V} (i : Nat), RelDs P w ds vs → RelDs P w (ds.eraseIdx i) (vs.eraseIdx i)
  | [], _, _, h => by
    have h : _ = [] := h
    rw [h]; rfl
  | d :: ds, _, 0, ⟨v, r, e, h1, h2⟩ => by rw [e]; exact h2
  | d :: ds, _, i + 1, ⟨v, r, e, h1, h2⟩ => by rw [e]; exact ⟨v, _, rfl, h1, relDs_eraseIdx i h2⟩
theorem ixN_seqIndex {n : Nat} {i : Int} {j : Nat} (h : ixN n i = some j) : seqIndex? i n = some j := (ixN_seq h).1
section
variable {X : Cx} {P : Pm}
theorem mt_sound (hK : P.K = X.K) (m : Mt) : MtR X (mtI m) (liM P m) := by
  intro pins st σ H x xs v us Q I rx rs q
  obtain ⟨w, M, dx, ds, Qd, R, hx, hs, l, q⟩ := q
  cases m with
  | append =>
    simp only [mtD] at q
    split at q
    · rename_i k es d hm
      obtain ⟨p, vs, e1, e2, e3, e4, e5, e6⟩ := mutOf_at R hx hm
      obtain ⟨y, ey, ry⟩ := rel1 hs
      exact mt_append pins st σ H x xs v us Q I rx rs ⟨p, vs, y, e1, ey, e2, by rw [e3.length]; exact q.1, l.put R e5 e4 e6 (e3.append (.cons ry .nil)) (d := .non) rfl q.2⟩
    · exact q.elim
  | extend =>
    simp only [mtD] at q
    split at q
    · rename_i k es d hm
      split at q
      · rename_i fs hl
        obtain ⟨p, vs, e1, e2, e3, e4, e5, e6⟩ := mutOf_at R hx hm
        obtain ⟨y, ey, ry⟩ := rel1 hs
        cases d with
        | tup ts =>
          cases hl
          obtain ⟨p2, vs2, f1, f2, f3⟩ := ry
          subst f1
          rw [hK] at f2
          exact mt_extendT pins st σ H x xs v us Q I rx rs ⟨p, p2, vs, vs2, e1, ey, e2, sqT_mono R.sub f2, by rw [e3.length, f3.length]; exact q.1, l.put R e5 e4 e6 (e3.append f3) (d := .non) rfl q.2⟩
        | _ =>
          obtain ⟨p2, vs2, f1, f2, f3⟩ := lstOf_at R ry hl
          exact mt_extend pins st σ H x xs v us Q I rx rs ⟨p, p2, vs, vs2, e1, by rw [ey, f1], e2, f2, by rw [e3.length, f3.length]; exact q.1, l.put R e5 e4 e6 (e3.append f3) (d := .non) rfl q.2⟩
      · exact q.elim
    · exact q.elim
  | pop =>
    simp only [mtD] at q
    split at q
    · rename_i k es hm
      split at q
      · rename_i d hd
        obtain ⟨p, vs, e1, e2, e3, e4, e5, e6⟩ := mutOf_at R hx hm
        have hs : xs = [] := hs
        rw [List.getLast?_eq_getElem?] at hd
        obtain ⟨y, hy, ry⟩ := e3.get hd
        refine mt_pop pins st σ H x xs v us Q I rx rs ⟨p, vs, y, e1, hs, e2, by rw [e3.length]; exact hy, l.put R e5 e4 e6 ?_ ry q⟩
        rw [List.dropLast_eq_take, List.dropLast_eq_take, e3.length]
        exact e3.take _
      · exact q.elim
    · exact q.elim
  | popAt =>
    simp only [mtD] at q
    split at q
    · rename_i k es i hm
      obtain ⟨q1, q2, q⟩ := q
      split at q
      · rename_i j hj
        split at q
        · rename_i d hd
          obtain ⟨p, vs, e1, e2, e3, e4, e5, e6⟩ := mutOf_at R hx hm
          obtain ⟨z, ez, rz⟩ := rel1 hs
          have rz : z = .int i := rz
          obtain ⟨y, hy, ry⟩ := e3.get hd
          exact mt_popAt pins st σ H x xs v us Q I rx rs ⟨p, vs, i, j, y, e1, by rw [ez, rz], e2, q1, q2, by rw [e3.length]; exact ixN_seqIndex hj, hy, l.put R e5 e4 e6 (relDs_eraseIdx j e3) ry q⟩
        · exact q.elim
      · exact q.elim
    · exact q.elim
  | insert =>
    simp only [mtD] at q
    split at q
    · rename_i k es i d hm
      obtain ⟨q1, q2, q3, q⟩ := q
      obtain ⟨p, vs, e1, e2, e3, e4, e5, e6⟩ := mutOf_at R hx hm
      obtain ⟨z, y, ez, rz, ry⟩ := rel2 hs
      have rz : z = .int i := rz
      exact mt_insert pins st σ H x xs v us Q I rx rs ⟨p, vs, i, y, e1, by rw [ez, rz], e2, by rw [e3.length]; exact q1, q2, q3, l.put R e5 e4 e6 (((e3.take _).append (.cons ry .nil)).append (e3.drop _)) (d := .non) rfl q⟩
    · exact q.elim
  | clear =>
    simp only [mtD] at q
    split at q
    · rename_i k es hm
      obtain ⟨p, vs, e1, e2, e3, e4, e5, e6⟩ := mutOf_at R hx hm
      have hs : xs = [] := hs
      exact mt_clear pins st σ H x xs v us Q I rx rs ⟨p, vs, e1, hs, e2, l.put R e5 e4 e6 .nil (d := .non) rfl q⟩
    · exact q.elim
  | reverse =>
    simp only [mtD] at q
    split at q
    · rename_i k es hm
      obtain ⟨p, vs, e1, e2, e3, e4, e5, e6⟩ := mutOf_at R hx hm
      have hs : xs = [] := hs
      exact mt_reverse pins st σ H x xs v us Q I rx rs ⟨p, vs, e1, hs, e2, l.put R e5 e4 e6 e3.reverse (d := .non) rfl q⟩
    · exact q.elim
  | join =>
    simp only [mtD] at q
    split at q
    · rename_i s d
      split at q
      · rename_i ys hys
        obtain ⟨es, hes, hst⟩ := Option.bind_eq_some_iff.mp hys
        obtain ⟨y, ey, ry⟩ := rel1 hs
        obtain ⟨p, vs, e1, e2, e3⟩ := seqOf_at R ry hes
        rw [strsOf_at e3 hst] at e2
        exact mt_join pins st σ H x xs v us Q I rx rs ⟨s, p, ys, hx, by rw [ey, e1], hK ▸ e2, q.1, l.same R (d := .str _) rfl q.2⟩
      · exact q.elim
    · exact q.elim
  | find =>
    simp only [mtD] at q
    split at q
    · rename_i s t
      obtain ⟨y, ey, ry⟩ := rel1 hs
      have ry : y = .str t := ry
      exact mt_find pins st σ H x xs v us Q I rx rs ⟨s, t, hx, by rw [ey, ry], l.same R (d := .int _) rfl q⟩
    · exact q.elim
  | find2 =>
    simp only [mtD] at q
    split at q
    · rename_i s t i
      obtain ⟨y, y2, ey, ry, ry2⟩ := rel2 hs
      have ry : y = .str t := ry
      have ry2 : y2 = .int i := ry2
      exact mt_find3 pins st σ H x xs v us Q I rx rs ⟨s, t, i, hx, by rw [ey, ry, ry2], l.same R (d := .int _) rfl q⟩
    · exact q.elim
  | lower =>
    simp only [mtD] at q
    split at q
    · rename_i s
      have hs : xs = [] := hs
      exact mt_lower pins st σ H x xs v us Q I rx rs ⟨s, hx, hs, q.1, l.same R (d := .str _) rfl q.2⟩
    · exact q.elim
  | upper =>
    simp only [mtD] at q
    split at q
    · rename_i s
      have hs : xs = [] := hs
      exact mt_upper pins st σ H x xs v us Q I rx rs ⟨s, hx, hs, q.1, l.same R (d := .str _) rfl q.2⟩
    · exact q.elim
  | split =>
    simp only [mtD] at q
    split at q
    · rename_i s t
      obtain ⟨y, ey, ry⟩ := rel1 hs
      have ry : y = .str t := ry
      exact mt_split pins st σ H x xs v us Q I rx rs ⟨s, t, hx, by rw [ey, ry], q.1, q.2.1, fun p hp => l.lst R (relDs_strs _) hp q.2.2⟩
    · exact q.elim
  | index =>
    simp only [mtD] at q
    split at q
    · rename_i ds y hl
      obtain ⟨q1, q2, q⟩ := q
      split at q
      · rename_i j hj
        obtain ⟨p, vs, e1, e2, e3⟩ := lstOf_at R hx hl
        obtain ⟨y', ey, ry⟩ := rel1 hs
        obtain ⟨⟨z, hz, e4⟩, h5⟩ := idxF_get hj
        have fl : ∀ {m : Nat} {d : D}, ds[m]? = some d → flatD d = true := fun h => List.all_eq_true.mp q2 _ (List.mem_of_getElem? h)
        obtain ⟨v', hv, rv⟩ := e3.get hz
        refine mt_index pins st σ H x xs v us Q I rx rs ⟨p, vs, y', j, v', e1, ey, SqL.of e2, flat_at ry q1, flats_at e3 q2, hv, by rw [eqF_at rv ry (fl hz) q1]; exact e4, fun m z' hm hz' => ?_, l.same R (d := .int _) rfl q⟩
        have hm2 : m < ds.length := by
          have := (List.getElem?_eq_some_iff.mp hz').1
          rw [e3.length] at this; exact this
        obtain ⟨v2, hv2, rv2⟩ := e3.get (List.getElem?_eq_getElem hm2)
        rw [hz'] at hv2; cases hv2
        rw [eqF_at rv2 ry (fl (List.getElem?_eq_getElem hm2)) q1]
        exact h5 m _ hm (List.getElem?_eq_getElem hm2)
      · exact q.elim
    · exact q.elim
theorem mt_pa (m : Mt) : PlainAttrs (mtT m) := by cases m <;> first | exact PySem.F.plainAttrs_list | exact PySem.F.plainAttrs_str
theorem mt_slot (m : Mt) : Slot (mtT m) (mtN m) (mtI m) := by
  cases m
  · exact PySem.F.slot_list_append
  · exact PySem.F.slot_list_extend
  · exact PySem.F.slot_list_pop
  · exact PySem.F.slot_list_pop
  · exact PySem.F.slot_list_insert
  · exact PySem.F.slot_list_clear
  · exact PySem.F.slot_list_reverse
  · exact PySem.F.slot_str_join
  · exact PySem.F.slot_str_find
  · exact PySem.F.slot_str_lower
  · exact PySem.F.slot_str_upper
  · exact PySem.F.slot_str_split
  · exact PySem.F.slot_list_index
  · exact PySem.F.slot_str_find
theorem mt_type (m : Mt) : typeOf (.builtin (mtI m)) = pure (.type "method_descriptor") := by
  cases m
  · exact PySem.F.type_list_append
  · exact PySem.F.type_list_extend
  · exact PySem.F.type_list_pop
  · exact PySem.F.type_list_pop
  · exact PySem.F.type_list_insert
  · exact PySem.F.type_list_clear
  · exact PySem.F.type_list_reverse
  · exact PySem.F.type_str_join
  · exact PySem.F.type_str_find
  · exact PySem.F.type_str_lower
  · exact PySem.F.type_str_upper
  · exact PySem.F.type_str_split
  · exact PySem.F.type_list_index
  · exact PySem.F.type_str_find
theorem mtK_at (hK : P.K = X.K) {w : Wd} {M : Md} {H : Hp} (R : RepM P w M H) {m : Mt} {d : D} {v : V} (r : RelD P w d v) (h : mtK m d M) : tyV X.K (mtT m) v H := by
  unfold mtK at h
  split at h
  · rename_i e
    rw [e]
    obtain ⟨h1, h2⟩ := h
    obtain ⟨ds, hds⟩ := Option.isSome_iff_exists.mp h1
    obtain ⟨p, vs, e1, e2, _⟩ := seqL_at R r hds h2
    subst e1
    exact .inl ⟨rfl, vs, hK ▸ e2⟩
  · rename_i e
    obtain ⟨s, e1⟩ := h
    subst e1
    have r : v = .str s := r
    subst r
    show mtT m = "str"
    cases m <;> first | rfl | exact absurd rfl e
end
end DL
namespace DL
open PySem L2
/-- values of defaults -/
inductive Sc where | non | bl (b : Bool) | int (i : Int) | str (s : Str)
  deriving DecidableEq
def Sc.d : Sc → D
  | .non => .non | .bl b => .bl b | .int i => .int i | .str s => .str s
def Sc.v : Sc → V
  | .non => .non | .bl b => .bl b | .int i => .int i | .str s => .str s
inductive Tg where
  | nm (i : Nat) | tp (is : List Nat)
mutual
inductive CE where
  | var (i : Nat) | int (i : Int) | str (s : Str) | bl (b : Bool) | non
  | glob (g : Nat)
  | bin (o : Op) (a b : CE)
  | neg (a : CE) | not (a : CE)
  | and (a b : CE) | or (a b : CE)
  | cmp (c : Cp) (a b : CE)
  | chain (c1 c2 : Cp) (a b d : CE)
  | ife (c a b : CE)
  | tup (es : CEs) | lst (m : Bool) (es : CEs)
  | idx (a b : CE)
  | slc (m : Bool) (a : CE) (lo hi : CO)
  | call (f : Nat) (es : CEs)
  | blt (b : Bt) (es : CEs)
  | mth (m : Mt) (o : CE) (es : CEs)
  | comp (m : Bool) (elt : CE) (t : Tg) (it : CI) (ifs : CO) (own : List Nat)
  | dnew | dnewT
  | dlit (ks : List Str) (es : CEs)
  | dget (o k x : CE)
  | listRg (m : Bool) (a : CE)
  | fld (c : Str) (a : CE) (f : Str)
  | make (m : Bool) (n : Nat) (c : Str) (es : CEs)
  | meth (c m : Str) (n : Nat) (o : CE) (es : CEs)
  | rev (m : Bool) (a : CE)
  | calln (i n : Nat) (js : List Nat) (es : CEs)
  | callK (f j : Nat) (es : CEs) (ks : List Str) (zs : CEs) (df : List Sc)
  | makeK (m : Bool) (n : Nat) (c : Str) (j : Nat) (es : CEs) (ks : List Str) (zs : CEs) (df : List Sc)
  | methK (c m : Str) (n : Nat) (o : CE) (j : Nat) (es : CEs) (ks : List Str) (zs : CEs) (df : List Sc)
  | xis (i : Nat) (T : Str) | xfld (i : Nat) (c f : Str)
  | gin (x : Str) (kv : List (Str × Str)) (a : CE) | gidx (x : Str) (kv : List (Str × Str)) (a : CE)
inductive CEs where
  | nil | cons (e : CE) (es : CEs)
inductive CO where
  | none | some (e : CE)
inductive CI where
  | seq (e : CE) | rng1 (a : CE) | rng2 (a b : CE) | chars (e : CE)
end
mutual
inductive CS where
  | setFld (c : Str) (o : CE) (f : Str) (v : CE)
  | set (i : Nat) (e : CE) | setT (is : List Nat) (e : CE) | setIx (o i v : CE)
  | setP (is : List Nat) (es : CEs) | setTF (cf : List (Str × Str)) (os : CEs) (e : CE) | aug (i : Nat) (e : CE) | augF (c : Str) (o : CE) (f : Str) (e : CE)
  | expr (e : CE) | ret (e : CE) | retN | pass | brk | cont | never
  | raise (c : Str) (e : CE) | raiseI (c : Str) (fs : List Str) (es : CEs)
  | ifs (c : CE) (a b : CSs) | fors (t : Tg) (it : CI) (body : CSs) | enums (t : Tg) (e : CE) (body : CSs) | whil (c : CE) (body : CSs)
inductive CSs where
  | nil | cons (s : CS) (r : CSs)
end
/-- a field of an instance of class c -/
def fldD (c : Str) (f : Str) (d : D) (M : Md) (Q : QE) : Prop := match d with
  | .ref k => match M[k]? with
    | some (.ins c' fs) => c' = c ∧ match fs.lookup f with
      | some x => Q x M
      | none => False
    | _ => False
  | .obj c' ns ds => c' = c ∧ match (ns.zip ds).lookup f with
    | some x => Q x M
    | none => False
  | _ => False
/-- an instance of class c without a field m -/
def objD (c m : Str) (d : D) (M : Md) : Prop := match d with
  | .ref k => match M[k]? with
    | some (.ins c' fs) => c' = c ∧ (fs.map (·.1)).contains m = false
    | _ => False
  | .obj c' ns _ => c' = c ∧ ns.contains m = false
  | _ => False
def putFD (f : Str) (v : D) : List (Str × D) → List (Str × D)
  | [] => [(f, v)]
  | (g, x) :: r => if g = f then (g, v) :: r else (g, x) :: putFD f v r
def setFD (c : Str) (f : Str) (x d : D) (M : Md) (Q : Md → Prop) : Prop := match x with
  | .ref k => match M[k]? with
    | some (.ins c' fs) => c' = c ∧ fs.length < 1000 ∧ Q (M.set k (.ins c (putFD f d fs)))
    | _ => False
  | _ => False
/-- own exceptions: c is one of T -/
def xsub (c T : Str) : Bool := T == ("FirstwayError" : Str) || (T == ("ValueError" : Str) || c == T)
/-- the exception that an except suite holds, by its name -/
def xheld (σ : Std) (i : Nat) (e : D) (Q : Str → List Str → List D → Prop) : Prop := match σ[i]?, e with
  | some (some (.exc a od c ns ds)), .exc a' od' c' _ _ => a = a' ∧ od = od' ∧ c = c' ∧ Q c ns ds
  | _, _ => False
/-- it has fields -/
def xdct : D → Prop
  | .exc _ (some _) _ _ _ => True
  | _ => False
/-- a dict of the module, of texts: a key in it; its value -/
def ginD (kv : List (Str × Str)) (d : D) (Q : Bool → Prop) : Prop := match d with
  | .str s => Q (kv.lookup s).isSome
  | _ => False
def gidxD (kv : List (Str × Str)) (d : D) (Q : D → Prop) : Prop := match d with
  | .str s => match kv.lookup s with
    | some t => Q (.str t)
    | none => False
  | _ => False
abbrev RE := EX → Std → Md → QE → Prop
abbrev RT := EX → Std → Md → (Bool → Md → Prop) → Prop
abbrev RA := EX → Std → Md → (List D → Md → Prop) → Prop
abbrev RO := EX → Std → Md → (Option Int → Md → Prop) → Prop
/-- what is walked: its items; the changing list that must stay as it is -/
abbrev RI := EX → Std → Md → (List D → Option Nat → Md → Prop) → Prop
/-- a function made here stands at k: the nested def n -/
def isFn (M : Md) (k n : Nat) : Prop := match M[k]? with
  | some (.fn _ m _ _) => m = n
  | _ => False
/-- what the captured names hold -/
def capsD (σ : Std) : List Nat → Option (List D)
  | [] => some []
  | j :: js => match σ[j]?, capsD σ js with
    | some (some d), some ds => some (d :: ds)
    | _, _ => none
abbrev SpD := List D → Md → QE → EX → Prop
structure EndsD where
  nx : Std → Md → Prop
  rt : QE
  bk : Std → Md → Prop
  ct : Std → Md → Prop
abbrev EXS := XD → Std → Md → Prop
abbrev RS := EXS → EndsD → Std → Md → Prop
def lkOk (lk : Option Nat) (all : List D) (M : Md) : Prop := match lk with
  | none => True
  | some k => M[k]? = some (.lst all)
/-- the changing list that is walked -/
def lkOf : D → Option Nat
  | .ref k => some k
  | _ => none
def setAll : Std → List Nat → List D → Std
  | σ, i :: is, d :: ds => setAll (σ.set i (some d)) is ds
  | σ, _, _ => σ
def asgT (t : Tg) (d : D) (σ : Std) (M : Md) (Q : Std → Md → Prop) : Prop := match t with
  | .nm i => Q (σ.set i (some d)) M
  | .tp is => match d with
    | .tup ds => ds.length = is.length ∧ Q (setAll σ is ds) M
    | _ => False
def wipeD (σ : Std) : List Nat → Std
  | [] => σ
  | v :: vs => (wipeD σ vs).set v none
/-- a dict's value at a key, or another -/
def dgetD (d y z : D) (M : Md) (Q : QE) : Prop := match d with
  | .ref k => match M[k]? with
    | some (.dct kvs) => match keyD y with
      | some ky => Q ((dctVal kvs ky).getD z) M
      | none => False
    | _ => False
  | _ => False
def isDct (d : D) (M : Md) : Prop := ∃ k kvs, d = .ref k ∧ M[k]? = some (.dct kvs)
/-- texts as keys, one behind another -/
def dlitP : List Str → List D → List (Option Key × D) → List (Option Key × D)
  | k :: ks, d :: ds, acc => dlitP ks ds (dctPut acc (some (.inr k)) d)
  | _, _, acc => acc
def valT (v : RE) : RE × RT := (v, fun E σ M Q => v E σ M fun d M1 => truD d M1 fun k => Q k M1)
def tstT (t : RT) : RE × RT := (fun E σ M Q => t E σ M fun k M1 => Q (.bl k) M1, t)
/-- [elt for t in xs if ..] -/
def compD (lk : Option Nat) (all : List D) (asg : D → (Std → Md → Prop) → Md → Prop) (tst : Std → Md → (Bool → Md → Prop) → Prop) (elt : Std → Md → QE → Prop) (Q : List D → Md → Prop) : List D → List D → Md → Prop
  | [], acc, M => lkOk lk all M ∧ Q acc M
  | d :: ds, acc, M => lkOk lk all M ∧ asg d (fun σ1 M1 => tst σ1 M1 fun k M2 => if k = true then elt σ1 M2 fun y M3 => acc.length < sizeLine ∧ compD lk all asg tst elt Q ds (acc ++ [y]) M3 else compD lk all asg tst elt Q ds acc M2) M
/-- a text's characters, each a text -/
def charsD (s : Str) : List D := s.cps.toList.map fun c => D.str ⟨#[c]⟩
/-- items with their places -/
def enumD (ds : List D) : List D := ds.zipIdx.map fun p => D.tup [.int (p.2 : Nat), p.1]
/-- a tuple, walked with places -/
def enumQ (d : D) (M : Md) (QI : List D → Option Nat → Md → Prop) : Prop := match d with
  | .tup ds => QI (enumD ds) none M
  | _ => False
def rngD (a b : Int) : List D := (List.range (b - a).toNat).map fun i => D.int (a + (i : Nat))
section
variable (Φ : Nat → SpD) (κ : Nat → D)
mutual
def rd : CE → RE × RT
  | .var i => valT fun _ σ M Q => match σ[i]? with
    | some (some d) => Q d M
    | _ => False
  | .int i => valT fun _ _ M Q => Q (.int i) M
  | .str s => valT fun _ _ M Q => Q (.str s) M
  | .bl b => valT fun _ _ M Q => Q (.bl b) M
  | .non => valT fun _ _ M Q => Q .non M
  | .glob g => valT fun _ _ M Q => Q (κ g) M
  | .xis i T => valT fun _ σ M Q => xheld σ i (κ 0) fun c _ _ => Q (.bl (xsub c T)) M
  | .xfld i k f => valT fun _ σ M Q => xdct (κ 0) ∧ xheld σ i (κ 0) fun c ns ds => c = k ∧ match (ns.zip ds).lookup f with
    | some x => Q x M
    | none => False
  | .gin _ kv a => tstT fun E σ M Q => (rd a).1 E σ M fun d M1 => ginD kv d fun b => Q b M1
  | .gidx _ kv a => valT fun E σ M Q => (rd a).1 E σ M fun d M1 => gidxD kv d fun t => Q t M1
  | .bin o a b => valT fun E σ M Q => (rd a).1 E σ M fun x M1 => (rd b).1 E σ M1 fun y M2 => opD o x y M2 Q
  | .neg a => valT fun E σ M Q => (rd a).1 E σ M fun x M1 => match x with
    | .int i => Q (.int (-i)) M1
    | _ => False
  | .not a => (fun E σ M Q => (rd a).1 E σ M fun x M1 => truD x M1 fun k => Q (.bl (!k)) M1, fun E σ M Q => (rd a).2 E σ M fun k M1 => Q (!k) M1)
  | .and a b => (fun E σ M Q => (rd a).1 E σ M fun x M1 => truD x M1 fun k => if k = true then (rd b).1 E σ M1 Q else Q x M1, fun E σ M Q => (rd a).2 E σ M fun k M1 => if k = true then (rd b).2 E σ M1 Q else Q false M1)
  | .or a b => (fun E σ M Q => (rd a).1 E σ M fun x M1 => truD x M1 fun k => if k = true then Q x M1 else (rd b).1 E σ M1 Q, fun E σ M Q => (rd a).2 E σ M fun k M1 => if k = true then Q true M1 else (rd b).2 E σ M1 Q)
  | .cmp c a b => tstT fun E σ M Q => (rd a).1 E σ M fun x M1 => (rd b).1 E σ M1 fun y M2 => cpD c x y M2 fun k => Q k M2
  | .chain c1 c2 a b d => tstT fun E σ M Q => (rd a).1 E σ M fun x M1 => (rd b).1 E σ M1 fun y M2 => cpD c1 x y M2 fun k => if k = true then (rd d).1 E σ M2 fun z M3 => cpD c2 y z M3 fun k => Q k M3 else Q false M2
  | .ife c a b => (fun E σ M Q => (rd c).2 E σ M fun k M1 => if k = true then (rd a).1 E σ M1 Q else (rd b).1 E σ M1 Q, fun _ _ _ _ => False)
  | .tup es => valT fun E σ M Q => rds es E σ M fun ds M1 => ds.length ≤ sizeLine ∧ Q (.tup ds) M1
  | .lst m es => valT fun E σ M Q => rds es E σ M fun ds M1 => ds.length ≤ sizeLine ∧ if m = true then Q (.ref M1.length) (M1 ++ [.lst ds]) else Q (.lst ds) M1
  | .idx a b => valT fun E σ M Q => (rd a).1 E σ M fun x M1 => (rd b).1 E σ M1 fun y M2 => ixD x y M2 Q
  | .slc m a lo hi => valT fun E σ M Q => (rd a).1 E σ M fun x M1 => rdo lo E σ M1 fun l M2 => rdo hi E σ M2 fun h M3 => slD m x l h M3 Q
  | .call f es => valT fun E σ M Q => rds es E σ M fun ds M1 => Φ f ds M1 Q E
  | .blt b es => valT fun E σ M Q => rds es E σ M fun ds M1 => btD b ds M1 Q
  | .mth m o es => valT fun E σ M Q => (rd o).1 E σ M fun x M1 => mtK m x M1 ∧ rds es E σ M1 fun ds M2 => mtD m x ds M2 Q
  | .comp m elt t it ifs own => valT fun E σ M Q => rdi it E σ M fun ds lk M1 =>
      compD lk ds (fun d k M => asgT t d (wipeD σ own) M k) (fun σ M Q => rdt ifs (fun _ _ => False) σ M Q) (fun σ M Q => (rd elt).1 (fun _ _ => False) σ M Q) (fun acc M => if m = true then Q (.ref M.length) (M ++ [.lst acc]) else Q (.lst acc) M) ds [] M1
  | .dnew => valT fun _ _ M Q => Q (.ref M.length) (M ++ [.dct []])
  | .dnewT => valT fun _ _ M Q => Q (.ref M.length) (M ++ [.dctT []])
  | .dget o k x => valT fun E σ M Q => (rd o).1 E σ M fun d M1 => isDct d M1 ∧ (rd k).1 E σ M1 fun y M2 => (rd x).1 E σ M2 fun z M3 => dgetD d y z M3 Q
  | .dlit ks es => valT fun E σ M Q => rds es E σ (M ++ [.dct []]) fun ds M1 => M1[M.length]? = some (.dct []) ∧ Q (.ref M.length) (M1.set M.length (.dct (dlitP ks ds [])))
  | .listRg m a => valT fun E σ M Q => (rd a).1 E σ M fun d M1 => match d with
    | .int j => -(2 ^ 62) ≤ j ∧ j ≤ 16777216 ∧ if m = true then Q (.ref M1.length) (M1 ++ [.lst (rngD 0 j)]) else Q (.lst (rngD 0 j)) M1
    | _ => False
  | .fld c a f => valT fun E σ M Q => (rd a).1 E σ M fun d M1 => fldD c f d M1 Q
  | .make m n c es => valT fun E σ M Q => rds es E σ M fun ds M1 => Φ n (.ref M1.length :: ds) (M1 ++ [.ins c []]) (fun d M2 => d = .non ∧ if m = true then Q (.ref M1.length) M2 else ∃ fs, M2 = M1 ++ [.ins c fs] ∧ RLtM M1.length (.ins c fs) ∧ Q (.obj c (fs.map (·.1)) (fs.map (·.2))) M1) E
  | .rev m a => valT fun E σ M Q => (rd a).1 E σ M fun x M1 => match lstOf x M1 with
    | some ds => if m = true then Q (.ref M1.length) (M1 ++ [.lst ds.reverse]) else Q (.lst ds.reverse) M1
    | none => False
  | .calln i n js es => valT fun E σ M Q => match σ[i]?, capsD σ js with
    | some (some (.ref k)), some cs => isFn M k n ∧ rds es E σ M fun ds M1 => isFn M1 k n ∧ Φ n (.ref k :: (cs ++ ds)) M1 Q E
    | _, _ => False
  | .meth c m n o es => valT fun E σ M Q => (rd o).1 E σ M fun x M1 => objD c m x M1 ∧ rds es E σ M1 fun ds M2 => Φ n (x :: ds) M2 Q E
  | .callK f j es ks zs df => valT fun E σ M Q => rds es E σ M fun ds M1 => ds.length = j ∧ rds zs E σ M1 fun us M2 => us.length = ks.length ∧ Φ f (ds ++ (us ++ df.map Sc.d)) M2 Q E
  | .makeK m n c j es ks zs df => valT fun E σ M Q => rds es E σ M fun ds M0 => ds.length = j ∧ rds zs E σ M0 fun us M1 => us.length = ks.length ∧ Φ n (.ref M1.length :: (ds ++ (us ++ df.map Sc.d))) (M1 ++ [.ins c []]) (fun d M2 => d = .non ∧ if m = true then Q (.ref M1.length) M2 else ∃ fs, M2 = M1 ++ [.ins c fs] ∧ RLtM M1.length (.ins c fs) ∧ Q (.obj c (fs.map (·.1)) (fs.map (·.2))) M1) E
  | .methK c m n o j es ks zs df => valT fun E σ M Q => (rd o).1 E σ M fun x M1 => objD c m x M1 ∧ rds es E σ M1 fun ds M2 => ds.length = j ∧ rds zs E σ M2 fun us M3 => us.length = ks.length ∧ Φ n (x :: (ds ++ (us ++ df.map Sc.d))) M3 Q E
def rds : CEs → RA
  | .nil => fun _ _ M Q => Q [] M
  | .cons e es => fun E σ M Q => (rd e).1 E σ M fun d M1 => rds es E σ M1 fun ds M2 => Q (d :: ds) M2
def rdo : CO → RO
  | .none => fun _ _ M Q => Q none M
  | .some e => fun E σ M Q => (rd e).1 E σ M fun d M1 => match d with
    | .int i => Q (some i) M1
    | _ => False
/-- a comprehension's test -/
def rdt : CO → RT
  | .none => fun _ _ M Q => Q true M
  | .some e => (rd e).2
def rdi : CI → RI
  | .seq e => fun E σ M Q => (rd e).1 E σ M fun d M1 => match seqOf d M1 with
    | some ds => Q ds (lkOf d) M1
    | none => False
  | .chars e => fun E σ M Q => (rd e).1 E σ M fun d M1 => match d with
    | .str s => Q (charsD s) none M1
    | _ => False
  | .rng1 a => fun E σ M Q => (rd a).1 E σ M fun d M1 => match d with
    | .int j => -(2 ^ 62) ≤ j ∧ j < 2 ^ 62 ∧ Q (rngD 0 j) none M1
    | _ => False
  | .rng2 a b => fun E σ M Q => (rd a).1 E σ M fun d M1 => (rd b).1 E σ M1 fun e M2 => match d, e with
    | .int i, .int j => -(2 ^ 62) ≤ i ∧ i < 2 ^ 62 ∧ -(2 ^ 62) ≤ j ∧ j < 2 ^ 62 ∧ Q (rngD i j) none M2
    | _, _ => False
end
abbrev rE (c : CE) : RE := (rd Φ κ c).1
abbrev rT (c : CE) : RT := (rd Φ κ c).2
/-- fields set one behind another -/
def setTFd (E : EX) (σ : Std) : List (Str × Str) → CEs → List D → Md → (Md → Prop) → Prop
  | [], .nil, [], M, Q => Q M
  | (c, f) :: r, .cons o os, d :: ds, M, Q => rE Φ κ o E σ M fun x M1 => setFD c f x d M1 fun M2 => setTFd E σ r os ds M2 Q
  | _, _, _, _, _ => False
def isRef : D → Prop
  | .ref _ => True
  | _ => False
def addI (x y : D) (Q : D → Prop) : Prop := match x, y with
  | .int a, .int b => Q (.int (a + b))
  | _, _ => False
/-- a for's turns -/
def loopD (lk : Option Nat) (all : List D) (asg : D → Std → Md → (Std → Md → Prop) → Prop) (body : EndsD → Std → Md → Prop) (K : EndsD) : List D → Std → Md → Prop
  | [], σ, M => lkOk lk all M ∧ K.nx σ M
  | d :: ds, σ, M => lkOk lk all M ∧ asg d σ M fun σ1 M1 => body { nx := loopD lk all asg body K ds, rt := K.rt, bk := K.nx, ct := loopD lk all asg body K ds } σ1 M1
/-- a while, n turns at most -/
def whilD (tst : Std → Md → (Bool → Md → Prop) → Prop) (body : EndsD → Std → Md → Prop) (K : EndsD) : Nat → Std → Md → Prop
  | 0, _, _ => False
  | n + 1, σ, M => tst σ M fun k M1 => if k = true then body { nx := whilD tst body K n, rt := K.rt, bk := K.nx, ct := whilD tst body K n } σ M1 else K.nx σ M1
mutual
def rS : CS → RS
  | .setFld c o f v => fun E K σ M => rE Φ κ v (fun x => E x σ) σ M fun d M1 => rE Φ κ o (fun x => E x σ) σ M1 fun x M2 => setFD c f x d M2 fun M' => K.nx σ M'
  | .set i e => fun E K σ M => rE Φ κ e (fun x => E x σ) σ M fun d M1 => K.nx (σ.set i (some d)) M1
  | .setT is e => fun E K σ M => rE Φ κ e (fun x => E x σ) σ M fun d M1 => asgT (.tp is) d σ M1 K.nx
  | .setP is es => fun E K σ M => rds Φ κ es (fun x => E x σ) σ M fun ds M1 => ds.length = is.length ∧ K.nx (setAll σ is ds) M1
  | .setTF cf os e => fun E K σ M => rE Φ κ e (fun x => E x σ) σ M fun d M1 => match d with
    | .tup ds => ds.length = cf.length ∧ setTFd Φ κ (fun x => E x σ) σ cf os ds M1 fun M2 => K.nx σ M2
    | _ => False
  | .aug i e => fun E K σ M => match σ[i]? with
    | some (some x) => rE Φ κ e (fun x => E x σ) σ M fun y M1 => addI x y fun z => K.nx (σ.set i (some z)) M1
    | _ => False
  | .augF c o f e => fun E K σ M => rE Φ κ o (fun x => E x σ) σ M fun x M1 => isRef x ∧ fldD c f x M1 fun v M2 => rE Φ κ e (fun x => E x σ) σ M2 fun y M3 => addI v y fun z => setFD c f x z M3 fun M' => K.nx σ M'
  | .setIx o i v => fun E K σ M => rE Φ κ v (fun x => E x σ) σ M fun d M1 => rE Φ κ o (fun x => E x σ) σ M1 fun x M2 => rE Φ κ i (fun x => E x σ) σ M2 fun y M3 => match x with
    | .ref k => match M3[k]?, y with
      | some (.lst ds), .int j => match ixN ds.length j with
        | some j => K.nx σ (M3.set k (.lst (ds.set j d)))
        | none => False
      | some (.dct kvs), y => match keyD y with
        | some ky => kvs.length < sizeLine ∧ K.nx σ (M3.set k (.dct (dctPut kvs ky d)))
        | none => False
      | some (.dctT kvs), y => match tKey y with
        | some ky => kvs.length < sizeLine ∧ K.nx σ (M3.set k (.dctT (dctPutT kvs y ky d)))
        | none => False
      | _, _ => False
    | _ => False
  | .expr e => fun E K σ M => rE Φ κ e (fun x => E x σ) σ M fun _ M1 => K.nx σ M1
  | .ret e => fun E K σ M => rE Φ κ e (fun x => E x σ) σ M K.rt
  | .retN => fun _ K _ M => K.rt .non M
  | .pass => fun _ K σ M => K.nx σ M
  | .never => fun _ _ _ _ => False
  | .raise c e => fun E _ σ M => rE Φ κ e (fun x => E x σ) σ M fun _ M1 => E ⟨c, none⟩ σ M1
  | .raiseI c fs es => fun E _ σ M => rds Φ κ es (fun x => E x σ) σ M fun ds M1 => ds.length = fs.length ∧ E ⟨c, some (fs.zip ds).reverse⟩ σ M1
  | .brk => fun _ K σ M => K.bk σ M
  | .cont => fun _ K σ M => K.ct σ M
  | .ifs c a b => fun E K σ M => rT Φ κ c (fun x => E x σ) σ M fun k M1 => if k = true then rSs a E K σ M1 else rSs b E K σ M1
  | .fors t it body => fun E K σ M => rdi Φ κ it (fun x => E x σ) σ M fun ds lk M1 => loopD lk ds (asgT t) (rSs body E) K ds σ M1
  | .enums t e body => fun E K σ M => rE Φ κ e (fun x => E x σ) σ M fun d M1 => enumQ d M1 fun ds lk M2 => loopD lk ds (asgT t) (rSs body E) K ds σ M2
  | .whil c body => fun E K σ M => ∃ n, whilD (fun σ M Q => rT Φ κ c (fun x => E x σ) σ M Q) (rSs body E) K n σ M
def rSs : CSs → RS
  | .nil => fun _ K σ M => K.nx σ M
  | .cons s r => fun E K σ M => rS s E { K with nx := rSs r E K } σ M
end
end
def tgIdx : Tg → List Nat
  | .nm i => [i]
  | .tp is => is
inductive GD where
  | fn (f : Nat) | cst (g : Nat)
/-- what a law's own exceptions are -/
structure XCtx where
  hot : Bool := false
  xs : List Str := []
  xr : List Str := []
  xi : List (Str × List Str) := []
  xf : List (Str × Str) := []
  kd : List (Str × List (Str × Str)) := []
structure Ctx where
  N : List Str
  sc : Scope
  fn : Str → Bool
  G : List (Str × GD)
  B : List Str
  FL : List (Str × Str) := []
  MK : List (Str × Nat × Str) := []
  MT : List (Str × Str × Nat) := []
  KF : List (Str × Nat × Nat × List Str × List Sc) := []
  KM : List (Str × (Nat × Str) × Nat × List Str × List Sc) := []
  KT : List ((Str × Str) × Nat × Nat × List Str × List Sc) := []
  NS : List (Nat × List Nat) := []
  X : XCtx := {}
def Ctx.blk (C : Ctx) (scope : Scope) : Ctx := { C with NS := [], sc := relS scope C.sc, fn := fun x => scope.names.lookup x == some .cell }
def nodbg (x : Str) : Bool := !(x == ("__debug__" : Str)) && !(x == ("__classdict__" : Str))
def okVar (C : Ctx) (i : Nat) (x : Str) : Bool := (C.N[i]? == some x) && nodbg x && (match C.sc.names.lookup x with
  | some .local => true
  | some .cell => true
  | some .free => true
  | _ => false)
def okTgt (C : Ctx) (i : Nat) (x : Str) : Bool := (C.N[i]? == some x) && (match C.sc.names.lookup x with
  | some .local => true
  | some .cell => C.fn x
  | _ => false)
def okGlob (C : Ctx) (x : Str) : Bool := nodbg x && (C.sc.names.lookup x == some .globalImplicit)
def okBlt (C : Ctx) (n x : Str) : Bool := (x == n) && okGlob C x && C.B.contains x && !(x == ("__name__" : Str))
def okTg (C : Ctx) : Tg → Expr → Bool
  | .nm i, .Name x _ => okTgt C i x
  | .tp is, .Tuple es _ _ => !C.X.hot && go is es
  | _, _ => false
where go : List Nat → List Expr → Bool
  | [], [] => true
  | i :: is, .Name x _ :: es => okTgt C i x && go is es
  | _, _ => false
def btN : Bt → Str
  | .len => "len" | .list => "list" | .listM => "list" | .tuple => "tuple" | .max2 => "max" | .min2 => "min" | .int => "int" | .sorted => "sorted" | .sortedM => "sorted" | .sortedD => "sorted"
  | .sum => "sum" | .ord => "ord" | .str => "str" | .any => "any" | .all => "all" | .isi _ => "isinstance"
/-- what an except suite may call -/
def coolB : Bt → Bool
  | .sortedD => false | .max2 => false | .min2 => false | .sum => false | .any => false | .all => false
  | _ => true
def okBltH (C : Ctx) (b : Bt) (x : Str) : Bool := okBlt C (btN b) x && (coolB b || !C.X.hot)
def plainE : Expr → Bool
  | .Starred .. => false
  | .Slice .. => false
  | .Set .. => false
  | _ => true
def notComp : Expr → Bool
  | .ListComp .. => false
  | .SetComp .. => false
  | .DictComp .. => false
  | _ => true
def notTuple : Expr → Bool
  | .Tuple .. => false
  | _ => true
def notCallName : Expr → Bool
  | .Call (.Name _ _) [] [] _ => false
  | _ => true
mutual
def chkE (C : Ctx) : CE → Expr → Bool
  | .var i, e => match e with
    | .Name x _ => okVar C i x
    | _ => false
  | .int i, e => match e with
    | .Constant (.int j) _ _ => i == j
    | _ => false
  | .str s, e => match e with
    | .Constant (.str t) _ _ => s == t
    | _ => false
  | .bl b, e => match e with
    | .Constant (.bool c) _ _ => b == c
    | _ => false
  | .non, e => match e with
    | .Constant .none _ _ => true
    | _ => false
  | .glob g, e => match e with
    | .Name x _ => okGlob C x && (match C.G.lookup x with
      | some (.cst h) => g == h
      | _ => false)
    | _ => false
  | .bin o a b, e => match e with
    | .BinOp l p r _ => (p == opO o) && chkE C a l && chkE C b r
    | _ => false
  | .neg a, e => match e with
    | .UnaryOp .USub x _ => chkE C a x
    | _ => false
  | .not a, e => match e with
    | .UnaryOp .Not x _ => chkE C a x
    | _ => false
  | .and a b, e => match e with
    | .BoolOp .And (x :: y :: rest) pos => chkE C a x && (match rest with
      | [] => chkE C b y
      | z :: rest => chkE C b (.BoolOp .And (y :: z :: rest) pos))
    | _ => false
  | .or a b, e => match e with
    | .BoolOp .Or (x :: y :: rest) pos => chkE C a x && (match rest with
      | [] => chkE C b y
      | z :: rest => chkE C b (.BoolOp .Or (y :: z :: rest) pos))
    | _ => false
  | .cmp c a b, e => match e with
    | .Compare l [op] [r] _ => (op == cpO c) && plainE r && chkE C a l && chkE C b r
    | _ => false
  | .chain c1 c2 a b d, e => match e with
    | .Compare l [op, op2] [r, r2] _ => (op == cpO c1) && (op2 == cpO c2) && plainE r && plainE r2 && chkE C a l && chkE C b r && chkE C d r2
    | _ => false
  | .ife c a b, e => match e with
    | .IfExp x y z _ => chkE C c x && chkE C a y && chkE C b z
    | _ => false
  | .tup es, e => match e with
    | .Tuple xs _ _ => chkEs C es xs
    | _ => false
  | .lst _ es, e => match e with
    | .List xs _ => chkEs C es xs
    | _ => false
  | .idx a b, e => match e with
    | .Subscript x y _ => plainE y && chkE C a x && chkE C b y
    | _ => false
  | .slc _ a lo hi, e => match e with
    | .Subscript x (.Slice l h none _) _ => chkE C a x && chkO C lo l && chkO C hi h
    | _ => false
  | .call f es, e => match e with
    | .Call (.Name x _) ys [] _ => okGlob C x && (match C.G.lookup x with
      | some (.fn g) => f == g
      | _ => false) && chkEs C es ys
    | _ => false
  | .xis i T, e => match e with
    | .Call (.Name x _) [.Name y _, .Name z _] [] _ => C.X.hot && okBlt C "isinstance" x && okVar C i y && (z == T) && (if T == ("ValueError" : Str) then okBlt C "ValueError" z else okGlob C z && C.X.xs.contains T)
    | _ => false
  | .xfld i c f, e => match e with
    | .Attribute (.Name y _) g _ => C.X.hot && (f == g) && okVar C i y && C.X.xf.contains (c, f)
    | _ => false
  | .gin x kv a, e => match e with
    | .Compare l [.In] [.Name y _] _ => (y == x) && okGlob C y && C.X.kd.contains (x, kv) && chkE C a l
    | _ => false
  | .gidx x kv a, e => match e with
    | .Subscript (.Name y _) z _ => (y == x) && okGlob C y && C.X.kd.contains (x, kv) && plainE z && chkE C a z
    | _ => false
  | .blt (.isi T) es, e => match e with
    | .Call (.Name x _) [y, .Name z _] [] _ => okBlt C "isinstance" x && okBlt C (Str.ofString T) z && (bootBuiltins z == some (.type T)) && (match es with
      | .cons e .nil => plainE y && chkE C e y
      | _ => false)
    | _ => false
  | .blt b es, e => match e with
    | .Call (.Name x _) (y :: ys) [] _ => okBltH C b x && chkEs C es (y :: ys)
    | _ => false
  | .mth m o es, e => match e with
    | .Call (.Attribute x n ap) ys [] p => (n == mtN m) && notCallName x && (ap.endLine == p.line) && (ys.length == mtA m) && chkE C o x && chkEs C es ys
    | _ => false
  | .comp _ elt t it ifs own, e => match e with
    | .ListComp x [⟨tg, iter, fs, 0⟩] scope _ => (!C.X.hot && blkC C.N C.sc scope (own.filterMap fun i => (C.N[i]?).map fun n => (n, i))) && (own.all fun i => decide (i < C.N.length)) && (tgIdx t).all (fun i => own.contains i) && plainE iter && okTg (C.blk scope) t tg && chkI C it iter && chkE (C.blk scope) elt x && chkF (C.blk scope) ifs fs
    | _ => false
  | .dnew, e => match e with
    | .Dict [] [] _ => true
    | _ => false
  | .dnewT, e => match e with
    | .Dict [] [] _ => true
    | _ => false
  | .dget o k x, e => match e with
    | .Call (.Attribute y n ap) [a, b] [] p => (n == "get") && notCallName y && (ap.endLine == p.line) && plainE a && plainE b && chkE C o y && chkE C k a && chkE C x b
    | _ => false
  | .dlit ks es, e => match e with
    | .Dict keys vs _ => !ks.isEmpty && decide (ks.length ≤ 15) && chkDs C ks es keys vs
    | _ => false
  | .fld c a f, e => match e with
    | .Attribute x g _ => (f == g) && C.FL.contains (c, f) && notCallName x && chkE C a x
    | _ => false
  | .make _ n c es, e => match e with
    | .Call (.Name x _) ys [] _ => okGlob C x && C.MK.contains (x, n, c) && chkEs C es ys
    | _ => false
  | .rev _ a, e => match e with
    | .Subscript x (.Slice none none (some (.UnaryOp .USub (.Constant (.int 1) _ _) _)) _) _ => chkE C a x
    | _ => false
  | .meth c m n o es, e => match e with
    | .Call (.Attribute x g ap) ys [] p => (g == m) && notCallName x && (ap.endLine == p.line) && decide (ys.length < 30) && C.MT.contains (c, m, n) && chkE C o x && chkEs C es ys
    | _ => false
  | .callK f j es ks zs df, e => match e with
    | .Call (.Name x _) (y :: ys) kws _ => okGlob C x && (j == ys.length + 1) && C.KF.contains (x, f, j, ks, df) && chkEs C es (y :: ys) && chkKs C ks zs kws
    | _ => false
  | .makeK _ n c j es ks zs df, e => match e with
    | .Call (.Name x _) (y :: ys) kws _ => okGlob C x && (j == ys.length + 1) && C.KM.contains (x, (n, c), j, ks, df) && chkEs C es (y :: ys) && chkKs C ks zs kws
    | _ => false
  | .methK c m n o j es ks zs df, e => match e with
    | .Call (.Attribute x g ap) (y :: ys) kws p => (g == m) && notCallName x && (ap.endLine == p.line) && decide (ys.length + kws.length < 20) && (j == ys.length + 1) && C.KT.contains ((c, m), n, j, ks, df) && chkE C o x && chkEs C es (y :: ys) && chkKs C ks zs kws
    | _ => false
  | .calln i n js es, e => match e with
    | .Call (.Name x _) (y :: ys) [] _ => okVar C i x && C.NS.contains (n, js) && chkEs C es (y :: ys)
    | _ => false
  | .listRg _ a, e => match e with
    | .Call (.Name x _) [.Call (.Name y _) [z] [] _] [] _ => okBlt C "list" x && okBlt C "range" y && (plainE z && !C.X.hot) && chkE C a z
    | _ => false
def chkEs (C : Ctx) : CEs → List Expr → Bool
  | .nil, es => match es with
    | [] => true
    | _ => false
  | .cons c cs, es => match es with
    | e :: es => plainE e && chkE C c e && chkEs C cs es
    | _ => false
/-- keywords by name -/
def chkKs (C : Ctx) (ks : List Str) : CEs → List Keyword → Bool
  | .nil, kws => match ks, kws with
    | [], [] => true
    | _, _ => false
  | .cons z zs, kws => match ks, kws with
    | k :: ks, ⟨some k', e, _⟩ :: r => (k == k') && chkE C z e && chkKs C ks zs r
    | _, _ => false
/-- a display's pairs -/
def chkDs (C : Ctx) (ks : List Str) : CEs → List (Option Expr) → List Expr → Bool
  | .nil, keys, vs => match ks, keys, vs with
    | [], [], [] => true
    | _, _, _ => false
  | .cons z zs, keys, vs => match ks, keys, vs with
    | k :: ks, some (.Constant (.str t) _ _) :: keys, v :: vs => (k == t) && chkE C z v && chkDs C ks zs keys vs
    | _, _, _ => false
def chkO (C : Ctx) : CO → Option Expr → Bool
  | .none, e => match e with
    | none => true
    | _ => false
  | .some c, e => match e with
    | some e => chkE C c e
    | _ => false
def chkF (C : Ctx) : CO → List Expr → Bool
  | .none, e => match e with
    | [] => true
    | _ => false
  | .some c, e => match e with
    | [e] => chkE C c e
    | _ => false
def chkI (C : Ctx) : CI → Expr → Bool
  | .seq c, e => plainE e && chkE C c e
  | .chars c, e => plainE e && chkE C c e
  | .rng1 c, e => match e with
    | .Call (.Name x _) [a] [] _ => okBlt C "range" x && plainE a && chkE C c a
    | _ => false
  | .rng2 c d, e => match e with
    | .Call (.Name x _) [a, b] [] _ => okBlt C "range" x && plainE a && plainE b && chkE C c a && chkE C d b
    | _ => false
end
def okLoc (C : Ctx) (i : Nat) (x : Str) : Bool := (C.N[i]? == some x) && (C.sc.names.lookup x == some .local) && !C.X.hot
def parOk (vs : List Expr) : Bool := vs.all plainE && !(vs.all (foldedForSure 8)) && !(vs.all (constantsAlone 8))
def manyTuple : Expr → Bool
  | .Tuple es _ _ => decide (3 < es.length)
  | _ => true
/-- several fields -/
def chkTF (C : Ctx) : List (Str × Str) → CEs → List Expr → Bool
  | [], .nil, [] => true
  | (c, f) :: r, .cons o os, .Attribute a g _ :: es => (f == g) && C.FL.contains (c, f) && chkE C o a && chkTF C r os es
  | _, _, _ => false
/-- name = [..], stored by the comprehension's own end -/
def lcSwap (C : Ctx) (x : Str) (px : Pos) (e : Expr) : Bool := match e with
  | .ListComp _ _ scope pos => (C.sc.names.lookup x == some .local) && (px.line == pos.line) && !(scope.names.any fun (n, k) => n == x && (k == .local || k == .cell))
  | _ => false
mutual
def chkS (C : Ctx) : CS → Stmt → Bool
  | .setFld c o f v, s => match s with
    | .Assign [.Attribute a g _] e _ => (f == g) && C.FL.contains (c, f) && chkE C o a && chkE C v e
    | _ => false
  | .set i c, s => match s with
    | .Assign [.Name x px] e pos => okTgt C i x && chkE C c e && (notComp e || lcSwap C x px e || (C.sc.names.lookup x == some .cell))
    | _ => false
  | .setT is c, s => match s with
    | .Assign [tg] e _ => okTg C (.tp is) tg && chkE C c e && manyTuple e
    | _ => false
  | .setP is es, s => match s with
    | .Assign [.Tuple [.Name x px, .Name y py] _ _] (.Tuple [a, b] _ _) _ => (match is with
      | [i, j] => okLoc C i x && okLoc C j y && decide (i ≠ j) && !(x == y) && (py.line == px.line) && parOk [a, b] && chkEs C es [a, b]
      | _ => false)
    | .Assign [.Tuple [.Name x px, .Name y py, .Name z pz] _ _] (.Tuple [a, b, c] _ _) _ => (match is with
      | [i, j, k] => okLoc C i x && okLoc C j y && okLoc C k z && decide (i ≠ j) && decide (i ≠ k) && decide (j ≠ k) && !(x == y) && !(x == z) && !(y == z) && (py.line == px.line) && (pz.line == px.line) && parOk [a, b, c] && chkEs C es [a, b, c]
      | _ => false)
    | _ => false
  | .setTF cf os e, s => match s with
    | .Assign [.Tuple ts _ _] v _ => chkTF C cf os ts && chkE C e v && (notTuple v && !C.X.hot)
    | _ => false
  | .aug i e, s => match s with
    | .AugAssign (.Name x _) .Add v _ => okTgt C i x && chkE C e v
    | _ => false
  | .augF c o f e, s => match s with
    | .AugAssign (.Attribute a g _) .Add v _ => (f == g) && C.FL.contains (c, f) && chkE C o a && chkE C e v
    | _ => false
  | .setIx o i v, s => match s with
    | .Assign [.Subscript a b _] e _ => plainE b && chkE C o a && chkE C i b && chkE C v e
    | _ => false
  | .expr c, s => match s with
    | .Expr e _ => notComp e && chkE C c e
    | _ => false
  | .ret c, s => match s with
    | .Return (some e) _ => chkE C c e
    | _ => false
  | .retN, s => match s with
    | .Return none _ => true
    | _ => false
  | .pass, s => match s with
    | .Pass _ => true
    | _ => false
  | .never, _ => true
  | .raise c e, s => match s with
    | .Raise (some (.Call (.Name x _) [y] [] _)) none _ => !C.X.hot && (x == c) && okGlob C x && C.X.xr.contains c && plainE y && chkE C e y
    | _ => false
  | .raiseI c fs es, s => match s with
    | .Raise (some (.Call (.Name x _) (y :: ys) [] _)) none _ => !C.X.hot && (x == c) && okGlob C x && (C.X.xi.contains (c, fs) && decide (fs.length ≤ 100)) && chkEs C es (y :: ys)
    | _ => false
  | .brk, s => match s with
    | .Break _ => true
    | _ => false
  | .cont, s => match s with
    | .Continue _ => true
    | _ => false
  | .ifs c a b, s => match s with
    | .If e x y _ => chkE C c e && chkSs C a x && chkSs C b y
    | _ => false
  | .fors t it body, s => match s with
    | .For tg iter x [] _ => okTg C t tg && (plainE iter && !C.X.hot) && chkI C it iter && chkSs C body x
    | _ => false
  | .enums t c body, s => match s with
    | .For (.Tuple es k p2) (.Call (.Name x p) [a] [] pos) y [] _ => okTg C t (.Tuple es k p2) && plainE (.Call (.Name x p) [a] [] pos) && okBlt C "enumerate" x && (plainE a && !C.X.hot) && chkE C c a && chkSs C body y
    | _ => false
  | .whil c body, s => match s with
    | .While e x [] _ => chkE C c e && chkSs C body x
    | _ => false
def chkSs (C : Ctx) : CSs → List Stmt → Bool
  | .nil, s => match s with
    | [] => true
    | _ => false
  | .cons c cs, s => match s with
    | s :: ss => chkS C c s && chkSs C cs ss
    | _ => false
end
end DL
namespace DL
open PySem L2
abbrev Vals := L2.Vals
section
variable {X : Cx}
theorem peI {e : Expr} {t t' : TE} (h : PE X e t) (i : ∀ σ H Q, t' σ H Q → t σ H Q) : PE X e t' := ⟨fun pins s σ H Q I q => h.run pins s σ H Q I (i σ H Q q)⟩
theorem ptI {e : Expr} {t t' : TT} (h : PT X e t) (i : ∀ σ H Q, t' σ H Q → t σ H Q) : PT X e t' := ⟨fun pins s σ H Q I q => h.run pins s σ H Q I (i σ H Q q)⟩
theorem pwI {e : Expr} {t t' : TT} (h : PW X e t) (i : ∀ σ H Q, t' σ H Q → t σ H Q) : PW X e t' := ⟨fun wh pins s σ H Q I q => h.run wh pins s σ H Q I (i σ H Q q)⟩
theorem paI {e : List Expr} {t t' : TA} (h : PA X e t) (i : ∀ σ H Q, t' σ H Q → t σ H Q) : PA X e t' := ⟨fun pos pins s σ H Q I q => h.run pos pins s σ H Q I (i σ H Q q)⟩
theorem psI {e : Stmt} {t t' : TS} (h : PS X e t) (i : ∀ K σ H, t' K σ H → t K σ H) : PS X e t' := ⟨fun pins s σ H K I q => h.run pins s σ H K I (i K σ H q)⟩
theorem pssI {e : List Stmt} {t t' : TS} (h : PSs X e t) (i : ∀ K σ H, t' K σ H → t K σ H) : PSs X e t' := ⟨fun pins s σ H K I q => h.run pins s σ H K I (i K σ H q)⟩
theorem pgI {e : Expr} {t t' : TG} (h : PG X e t) (i : ∀ v σ H Q, t' v σ H Q → t v σ H Q) : PG X e t' := ⟨fun pins s σ H v u Q I r q => h.run pins s σ H v u Q I r (i v σ H Q q)⟩
theorem piI {tg e : Expr} {t t' : TI} (h : PI X tg e t) (i : ∀ σ H Q, t' σ H Q → t σ H Q) : PI X tg e t' := ⟨fun pins s σ H Q I q => h.run pins s σ H Q I (i σ H Q q)⟩
theorem poI {e : Option Expr} {t t' : TO} (h : PO X e t) (i : ∀ σ H Q, t' σ H Q → t σ H Q) : PO X e t' := ⟨fun pins s σ H Q I q => h.run pins s σ H Q I (i σ H Q q)⟩
end
def RelX (P : Pm) (w : Wd) (x : XD) (cls : Value) (dd : Option Addr) (H : Hp) : Prop :=
  cls = .ref (P.cls x.cls) ∧ ((x.fs = none ∧ dd = none) ∨ ∃ fs a us, x.fs = some fs ∧ dd = some a ∧ w.F a = some (.xd us) ∧ RelKs P w fs us)
def LkX (P : Pm) (w : Wd) (H : Hp) (Ed : EX) (E : XK) : Prop := ∀ w' M' H' x cls dd, Step w H w' H' → RepM P w' M' H' → RelX P w' x cls dd H' → Ed x M' → E cls dd H'
theorem LkX.on {P : Pm} {w w' : Wd} {H H' : Hp} {Ed : EX} {E : XK} (l : LkX P w H Ed E) (s : Step w H w' H') : LkX P w' H' Ed E := fun w2 M2 H2 x cls dd s2 R r q => l w2 M2 H2 x cls dd (s.trans s2) R r q
theorem Lk.on {P : Pm} {w w' : Wd} {H H' : Hp} {Qd : QE} {Q : VK} (l : Lk P w H Qd Q) (s : Step w H w' H') : Lk P w' H' Qd Q := fun w2 M2 H2 d v s2 R r q => l w2 M2 H2 d v (s.trans s2) R r q
def liE (P : Pm) (W : WX) (t : RE) : TE := fun σ H Q => ∃ w M sd Qd Ed, RepM P w M H ∧ RelSt P w sd σ ∧ Lk P w H Qd Q ∧ LkX P w H Ed (WE W σ) ∧ t Ed sd M Qd
def LkT (P : Pm) (w : Wd) (H : Hp) (Qd : Bool → Md → Prop) (Q : Bool → Hp → Prop) : Prop := ∀ w' M' H' b, Step w H w' H' → RepM P w' M' H' → Qd b M' → Q b H'
def liT (P : Pm) (W : WX) (t : RT) : TT := fun σ H Q => ∃ w M sd Qd Ed, RepM P w M H ∧ RelSt P w sd σ ∧ LkT P w H Qd Q ∧ LkX P w H Ed (WE W σ) ∧ t Ed sd M Qd
def LkA (P : Pm) (w : Wd) (H : Hp) (Qd : List D → Md → Prop) (Q : List V → Hp → Prop) : Prop := ∀ w' M' H' ds vs, Step w H w' H' → RepM P w' M' H' → RelDs P w' ds vs → Qd ds M' → Q vs H'
def liA (P : Pm) (W : WX) (t : RA) : TA := fun σ H Q => ∃ w M sd Qd Ed, RepM P w M H ∧ RelSt P w sd σ ∧ LkA P w H Qd Q ∧ LkX P w H Ed (WE W σ) ∧ t Ed sd M Qd
def LkO (P : Pm) (w : Wd) (H : Hp) (Qd : Option Int → Md → Prop) (Q : Option Int → Hp → Prop) : Prop := ∀ w' M' H' o, Step w H w' H' → RepM P w' M' H' → Qd o M' → Q o H'
def liO (P : Pm) (W : WX) (t : RO) : TO := fun σ H Q => ∃ w M sd Qd Ed, RepM P w M H ∧ RelSt P w sd σ ∧ LkO P w H Qd Q ∧ LkX P w H Ed (WE W σ) ∧ t Ed sd M Qd
def LkSt (P : Pm) (w : Wd) (H : Hp) (Qd : Std → Md → Prop) (Q : L2.St → Hp → Prop) : Prop := ∀ w' M' H' sd σ, Step w H w' H' → RepM P w' M' H' → RelSt P w' sd σ → Qd sd M' → Q σ H'
theorem LkSt.on {P : Pm} {w w' : Wd} {H H' : Hp} {Qd : Std → Md → Prop} {Q : L2.St → Hp → Prop} (l : LkSt P w H Qd Q) (s : Step w H w' H') : LkSt P w' H' Qd Q := fun w2 M2 H2 sd σ s2 R r q => l w2 M2 H2 sd σ (s.trans s2) R r q
def LkXS (P : Pm) (w : Wd) (H : Hp) (Ed : EXS) (W : WX) : Prop := ∀ w' M' H' sd σ x cls dd, Step w H w' H' → RepM P w' M' H' → RelSt P w' sd σ → RelX P w' x cls dd H' → Ed x sd M' → W cls dd σ H'
theorem LkXS.on {P : Pm} {w w' : Wd} {H H' : Hp} {Ed : EXS} {W : WX} (l : LkXS P w H Ed W) (s : Step w H w' H') : LkXS P w' H' Ed W := fun w2 M2 H2 sd σ x cls dd s2 R rs r q => l w2 M2 H2 sd σ x cls dd (s.trans s2) R rs r q
theorem LkXS.at {P : Pm} {w : Wd} {H : Hp} {Ed : EXS} {W : WX} (l : LkXS P w H Ed W) {sd : Std} {σ : L2.St} (rs : RelSt P w sd σ) : LkX P w H (fun x => Ed x sd) (WE W σ) := fun w2 M2 H2 x cls dd s2 R r q => l w2 M2 H2 sd σ x cls dd s2 R (rs.mono s2.le) r q
structure LkK (P : Pm) (w : Wd) (H : Hp) (Kd : EndsD) (K : Ends) : Prop where
  nx : LkSt P w H Kd.nx K.nx
  rt : Lk P w H Kd.rt K.rt
  bk : LkSt P w H Kd.bk K.bk
  ct : LkSt P w H Kd.ct K.ct
theorem LkK.on {P : Pm} {w w' : Wd} {H H' : Hp} {Kd : EndsD} {K : Ends} (l : LkK P w H Kd K) (s : Step w H w' H') : LkK P w' H' Kd K := ⟨l.nx.on s, l.rt.on s, l.bk.on s, l.ct.on s⟩
def liS (P : Pm) (W : WX) (t : RS) : TS := fun K σ H => ∃ w M sd Kd Ed, RepM P w M H ∧ RelSt P w sd σ ∧ LkK P w H Kd K ∧ LkXS P w H Ed W ∧ t Ed Kd sd M
def liG (P : Pm) (t : D → Std → Md → (Std → Md → Prop) → Prop) : TG := fun v σ H Q => ∃ w M sd d Qd, RepM P w M H ∧ RelSt P w sd σ ∧ RelD P w d v ∧ LkSt P w H Qd Q ∧ t d sd M Qd
/-- what is walked below: a list or a tuple, or a range -/
inductive ItOk (P : Pm) (K : PySem.W.Frag) (w : Wd) (H : Hp) (ds : List D) (lk : Option Nat) : It → Prop
  | lst {a : Addr} : (∀ w' M' H', Step w H w' H' → RepM P w' M' H' → lkOk lk ds M' → ∃ vs, SqL K H' a vs ∧ RelDs P w' ds vs) → ItOk P K w H ds lk (Itl K a)
  | tup {a : Addr} : (∀ w' M' H', Step w H w' H' → RepM P w' M' H' → lkOk lk ds M' → ∃ vs, SqT K H' a vs ∧ RelDs P w' ds vs) → ItOk P K w H ds lk (Itt K a)
  | chr {s : Str} : ds = charsD s → ItOk P K w H ds lk (Its s)
  | enm {a : Addr} {es : List D} : (∀ w' M' H', Step w H w' H' → RepM P w' M' H' → ∃ vs, SqT K H' a vs ∧ RelDs P w' es vs) → ds = enumD es → ItOk P K w H ds lk (IteT K a)
  | rng {i j : Int} : ds = rngD i j → ItOk P K w H ds lk (Itr i (j - i).toNat)
def LkI (P : Pm) (K : PySem.W.Frag) (w : Wd) (H : Hp) (Qd : List D → Option Nat → Md → Prop) (Q : It → Hp → Prop) : Prop := ∀ w' M' H' ds lk J, Step w H w' H' → RepM P w' M' H' → ItOk P K w' H' ds lk J → Qd ds lk M' → Q J H'
def liI (P : Pm) (K : PySem.W.Frag) (W : WX) (t : RI) : TI := fun σ H Q => ∃ w M sd Qd Ed, RepM P w M H ∧ RelSt P w sd σ ∧ LkI P K w H Qd Q ∧ LkX P w H Ed (WE W σ) ∧ t Ed sd M Qd
/-- a def's promise below -/
def liSp (P : Pm) (s : SpD) : Sp := fun vs H Q E => ∃ w M ds Qd Ed, RepM P w M H ∧ RelDs P w ds vs ∧ Lk P w H Qd Q ∧ LkX P w H Ed E ∧ s ds M Qd Ed
/-- what an own exception class says to isinstance, to its fields' readers -/
structure ExcN (K : PySem.W.Frag) (C : Addr) : Prop where
  cl : (PySem.W.clsIn K C).isSome = true
  ga : PySem.W.findIn K (.ref C) "__getattribute__" = some (some (.builtin "BaseException.__getattribute__"))
  gt : PySem.W.findIn K (.ref C) "__getattr__" = some none
  sb : PySem.W.subIn K (.ref C) (.type "BaseException") = some true
  ca : PySem.W.findIn K (.ref C) "__class__" = some (some (.builtin "object.__class__"))
  gs : PySem.W.specialIn K (.builtin "object.__class__") "__get__" = some (some (.builtin "getset_descriptor.__get__"))
  tk : PySem.W.takesIn K (.builtin "object.__class__") = some true
  mr : PySem.W.mroIn K C (.type "object") = some true
  hd : PySem.W.hasDictIn K C = true
/-- what it says to raise, no __init__ of its own -/
structure RaisN (K : PySem.W.Frag) (C : Addr) : Prop where
  ex : PySem.W.excIn K C He.veBase "ValueError.__new__" = true
  kp : PySem.W.keepIn K (.ref C) = true
  sb : PySem.W.subIn K (.ref C) (.type "BaseException") = some true
  ty : PySem.W.typeIn K (.ref C) = some (.type "type")
/-- an __init__ that stores its arguments as fields, one behind another -/
def initSp (C : Addr) (fs : List Str) : L2.Sp := fun vs H Q _ => ∃ a ws, vs = .ref a :: ws ∧ ws.length = fs.length ∧ H a = some (exo a C none) ∧
  ∀ d H', H d = none → d ≠ a → H' a = some (exo a C (some d)) → H' d = some (exd d (fs.zip ws).reverse) → (∀ b, b ≠ a → b ≠ d → H' b = H b) → Q .non H'
/-- what a dict of the module holds: texts by texts -/
def TabV (K : PySem.W.Frag) (a : Addr) (kv : List (Str × Str)) : Prop := ∀ z, match kv.lookup z with
  | some t => ∃ u, PySem.W.nsIn K a z = some (some u) ∧ RelV (.str t) u
  | none => PySem.W.nsIn K a z = some none
structure EnvOk (X : Cx) (P : Pm) (C : Ctx) (Φ : Nat → SpD) (κ : Nat → D) : Prop where
  K : P.K = X.K
  pg : P.pg = X.prog
  wl : P.wl = X.w
  calm : C.X.hot = false → X.calm = true
  N : X.N = C.N
  nd : C.N.Nodup
  sc : X.env.scope = C.sc
  fn : ∀ x, C.fn x = true → X.fn x = true
  hu : X.A.units + 65 < cLine
  fun_ : ∀ x f, C.G.lookup x = some (.fn f) → ∃ k a fd ps, X.mg x = some (.ref a) ∧ PySem.W.keepIn X.K (.ref a) = true ∧ FnOk X.prog X.w X.K X.mg X.base (L2.CX X.prog X.w) k a fd ps (liSp P (Φ f)) ∧ Room k X.A ∧ Binds X.K fd ps []
  cst : ∀ x g, C.G.lookup x = some (.cst g) → ∃ u v, X.mg x = some u ∧ RelV v u ∧ ∀ w, RelD P w (κ g) v
  blt : ∀ x ∈ C.B, X.mg x = none
  fl : ∀ q ∈ C.FL, Cls X.K (P.cls q.1) ∧ NoAttr X.K (P.cls q.1) q.2
  mkr : ∀ q ∈ C.MK, ∃ k f fd ps, X.mg q.1 = some (.ref (P.cls q.2.2)) ∧ Mk X.K (P.cls q.2.2) f ∧ FnOk X.prog X.w X.K X.mg X.base (L2.CX X.prog X.w) k f fd ps (liSp P (Φ q.2.1)) ∧ Room (k + 1) X.A ∧ Binds X.K fd ps []
  mt : ∀ q ∈ C.MT, ∃ k f fd ps, Cls X.K (P.cls q.1) ∧ Meth X.K (P.cls q.1) q.2.1 f ∧ FnOk X.prog X.w X.K X.mg X.base (L2.CX X.prog X.w) k f fd ps (liSp P (Φ q.2.2)) ∧ Room k X.A ∧ Binds X.K fd ps []
  kf : ∀ q ∈ C.KF, ∃ k a fd ps g, X.mg q.1 = some (.ref a) ∧ PySem.W.keepIn X.K (.ref a) = true ∧ FnOk X.prog X.w X.K X.mg X.base (L2.CX X.prog X.w) k a fd ps (liSp P (Φ q.2.1)) ∧ Room k X.A ∧ KBn X.K fd ps q.2.2.1 q.2.2.2.1 g (fun vs zs => vs ++ (zs ++ q.2.2.2.2.map Sc.v))
  km : ∀ q ∈ C.KM, ∃ k f fd ps g, X.mg q.1 = some (.ref (P.cls q.2.1.2)) ∧ Mk X.K (P.cls q.2.1.2) f ∧ FnOk X.prog X.w X.K X.mg X.base (L2.CX X.prog X.w) k f fd ps (liSp P (Φ q.2.1.1)) ∧ Room (k + 1) X.A ∧ KBn X.K fd ps (q.2.2.1 + 1) q.2.2.2.1 g (fun vs zs => vs ++ (zs ++ q.2.2.2.2.map Sc.v))
  kt : ∀ q ∈ C.KT, ∃ k f fd ps g, Cls X.K (P.cls q.1.1) ∧ Meth X.K (P.cls q.1.1) q.1.2 f ∧ FnOk X.prog X.w X.K X.mg X.base (L2.CX X.prog X.w) k f fd ps (liSp P (Φ q.2.1)) ∧ Room k X.A ∧ KBn X.K fd ps (q.2.2.1 + 1) q.2.2.2.1 g (fun vs zs => vs ++ (zs ++ q.2.2.2.2.map Sc.v))
  xs : ∀ T ∈ C.X.xs, X.mg T = some (.ref (P.cls T)) ∧ ExcN X.K (P.cls T) ∧ PySem.W.kitOne X.K (.ref (P.cls T)) (.type "ValueError") = some true ∧ ∀ c ∈ C.X.xs, PySem.W.kitOne X.K (.ref (P.cls c)) (.ref (P.cls T)) = some (xsub c T) ∧ PySem.W.exmOne X.K (.ref (P.cls c)) (.ref (P.cls T)) = some (xsub c T)
  xr : ∀ c ∈ C.X.xr, X.mg c = some (.ref (P.cls c)) ∧ RaisN X.K (P.cls c)
  xi : ∀ q ∈ C.X.xi, X.mg q.1 = some (.ref (P.cls q.1)) ∧ OexC X.K (P.cls q.1) ∧ ∃ k f fd, PySem.W.findIn X.K (.ref (P.cls q.1)) "__init__" = some (some (.ref f)) ∧ PySem.W.typeIn X.K (.ref f) = some (.type "function") ∧ FnOk X.prog X.w X.K X.mg X.base (L2.CX X.prog X.w) k f fd ("self" :: q.2) (initSp (P.cls q.1) q.2) ∧ Room (k + 1) X.A ∧ Binds X.K fd ("self" :: q.2) []
  xf : ∀ q ∈ C.X.xf, q.1 ∈ C.X.xs ∧ PySem.W.findIn X.K (.ref (P.cls q.1)) q.2 = some none
  kd : ∀ q ∈ C.X.kd, ∃ a es n, X.mg q.1 = some (.ref a) ∧ KDict X.K X.w a es n ∧ TabV X.K a q.2
  hx : C.X.hot = true → ∃ a od c ns ds oe, κ 0 = .exc a od c ns ds ∧ c ∈ C.X.xs ∧ (a, oe) ∈ X.pn ∧ Zc (.ref (P.cls c)) od oe ∧ ∃ vs, oe.data = .fields vs
  nst : ∀ n ∈ C.NS, ∀ (cvs : List V) (E : XK) (pins : List (Addr × Obj)) (σ : L2.St) (H : Hp) (s : Shared) (us : List Value) (vs : List V) (p : Addr) (Q : VK), PassesAt (L2.CX X.prog X.w) X σ E → Inv X pins σ H s → L2.Vals vs us → n.2.map (NdefX.slotAt σ) = cvs.map some → liSp P (Φ n.1) (.ref p :: (cvs ++ vs)) H Q E → wpAny (model X.prog X.w) X.A (call (.ref p) us) (EP X pins σ Q) X.xe s
section
variable {X : Cx} {P : Pm} {C : Ctx} {Φ : Nat → SpD} {κ : Nat → D} {W : WX}
/-- an expression's value as a test -/
theorem pt_of {e : Expr} {t : RE} (O : EnvOk X P C Φ κ) (h : PE X e (liE P W t)) (he : ∀ whole, isTrue e X.env whole = (do let v ← whole; standAt e.pos; holding [v] (truthy v))) : PT X e (liT P W (valT t).2) := by
  refine ptI (pt_truth h he) fun σ H Q q => ?_
  obtain ⟨w, M, sd, Qd, Ed, R, rs, l, lx, q⟩ := q
  refine ⟨w, M, sd, _, Ed, R, rs, fun w' M' H' d v s R' r q => ?_, lx, q⟩
  obtain ⟨k, h1, h2⟩ := truD_at R' r q
  exact ⟨k, O.K ▸ h1, l w' M' H' k s R' h2⟩
theorem liE_bind {a : RE} {f : D → Md → QE → Prop} {r : V → Hp → VK → Prop} (hf : ∀ {w M H d v Qd Q}, RepM P w M H → RelD P w d v → Lk P w H Qd Q → f d M Qd → r v H Q) :
    ∀ σ H Q, liE P W (fun E σ M Q => a E σ M fun d M1 => f d M1 Q) σ H Q → liE P W a σ H fun x H1 => r x H1 Q := fun σ H Q q => by
  obtain ⟨w, M, sd, Qd, Ed, R, rs, l, lx, q⟩ := q
  exact ⟨w, M, sd, _, Ed, R, rs, fun w' M' H' d v s R' r q => hf R' r (l.on s) q, lx, q⟩
/-- two expressions, then an operation -/
theorem liE_op {a b : RE} {o : O2} : ∀ σ H Q, liE P W (fun E σ M Q => a E σ M fun x M1 => b E σ M1 fun y M2 => o x y M2 Q) σ H Q → tOp (liO2 P o) (liE P W a) (liE P W b) σ H Q := fun σ H Q q => by
  obtain ⟨w, M, sd, Qd, Ed, R, rs, l, lx, q⟩ := q
  refine ⟨w, M, sd, _, Ed, R, rs, fun w1 M1 H1 d v s R1 r q => ?_, lx, q⟩
  refine ⟨w1, M1, sd, _, Ed, R1, rs.mono s.le, fun w2 M2 H2 d2 v2 s2 R2 r2 q => ?_, lx.on s, q⟩
  exact ⟨w2, M2, d, d2, Qd, R2, r.mono s2.le, r2, (l.on s).on s2, q⟩
theorem liT_op {a b : RE} {c : Cp} : ∀ σ H Q, liT P W (fun E σ M Q => a E σ M fun x M1 => b E σ M1 fun y M2 => cpD c x y M2 fun k => Q k M2) σ H Q → tTest (tOp (liO2 P (cpR c)) (liE P W a) (liE P W b)) σ H Q := fun σ H Q q => by
  obtain ⟨w, M, sd, Qd, Ed, R, rs, l, lx, q⟩ := q
  refine ⟨w, M, sd, _, Ed, R, rs, fun w1 M1 H1 d v s R1 r q => ?_, lx, q⟩
  refine ⟨w1, M1, sd, _, Ed, R1, rs.mono s.le, fun w2 M2 H2 d2 v2 s2 R2 r2 q => ?_, lx.on s, q⟩
  refine ⟨w2, M2, d, d2, fun x M => ∃ k, x = .bl k ∧ Qd k M, R2, r.mono s2.le, r2, fun w3 M3 H3 d3 v3 s3 R3 r3 q => ?_, ?_⟩
  · obtain ⟨k, e, q⟩ := q
    subst e
    have r3 : v3 = .bl k := r3
    exact ⟨k, r3, l w3 M3 H3 k ((s.trans s2).trans s3) R3 q⟩
  · show cpD c d d2 M2 fun b => ∃ k, D.bl b = .bl k ∧ Qd k M2
    have e : (fun b => ∃ k, D.bl b = .bl k ∧ Qd k M2) = fun k => Qd k M2 := by
      funext b
      refine propext ⟨fun ⟨k, e, q⟩ => ?_, fun q => ⟨b, rfl, q⟩⟩
      cases e
      exact q
    rw [e]; exact q
theorem vis_of {i : Nat} {x : Str} (O : EnvOk X P C Φ κ) (h : okVar C i x = true) : X.N[i]? = some x ∧ Vis X.env.scope x ∧ (x == ("__debug__" : Str)) = false ∧ (x == ("__classdict__" : Str)) = false := by
  unfold okVar nodbg at h
  simp only [Bool.and_eq_true, Bool.not_eq_true', beq_iff_eq] at h
  obtain ⟨⟨h1, h2, h3⟩, h4⟩ := h
  refine ⟨by rw [O.N]; exact h1, ?_, h2, h3⟩
  unfold Vis
  rw [O.sc]
  split at h4
  · rename_i e; exact .inl e
  · rename_i e; exact .inr (.inl e)
  · rename_i e; exact .inr (.inr e)
  · cases h4
theorem glob_of {x : Str} (O : EnvOk X P C Φ κ) (h : okGlob C x = true) : Gl X x ∧ (x == ("__debug__" : Str)) = false := by
  unfold okGlob nodbg at h
  simp only [Bool.and_eq_true, Bool.not_eq_true', beq_iff_eq] at h
  refine ⟨?_, h.1.1⟩
  show X.env.scope.names.lookup x = _
  rw [O.sc]
  exact h.2
theorem blt_of {n x : Str} (O : EnvOk X P C Φ κ) (h : okBlt C n x = true) : x = n ∧ Gl X x ∧ (x == ("__debug__" : Str)) = false ∧ X.mg x = none ∧ x ≠ "__name__" := by
  unfold okBlt at h
  simp only [Bool.and_eq_true, beq_iff_eq, Bool.not_eq_true'] at h
  obtain ⟨⟨⟨h1, h2⟩, h3⟩, h4⟩ := h
  obtain ⟨g1, g2⟩ := glob_of O h2
  exact ⟨h1, g1, g2, O.blt x (List.elem_iff.mp h3), fun z => by rw [beq_eq_false_iff_ne] at h4; exact h4 z⟩
theorem star_of {e : Expr} {es : List Expr} {env : Env} (h : plainE e = true) : starEach (e :: es) env = (false, eval e env) :: starEach es env := by
  cases e <;> first | rfl | (exfalso; simp [plainE] at h; done)
theorem mark_of {e : Expr} {op : CmpOp} (h : plainE e = true) : behindInMarks op e = false := by
  cases e <;> first | rfl | (exfalso; simp [plainE] at h; done)
theorem plain_ix {e : Expr} (h : plainE e = true) : PlainIx e := by
  cases e <;> first | (intro o i; rfl) | (exfalso; simp [plainE] at h; done)
theorem swaps_of {e : Expr} {t : Option Expr} {l : Nat} {env : Env} (h : notComp e = true) : swapsWith e t l env = pure false := by
  cases e <;> first | rfl | (exfalso; simp [notComp] at h; done)
theorem base_of {e : Expr} {n : Str} {env : Env} (h : notCallName e = true) : attributeBase e n env (eval e env) = eval e env := by
  cases e with
  | Call f args kws pos =>
    cases f <;> first
      | rfl
      | (cases args <;> first
          | (cases kws <;> first
              | (exfalso; simp [notCallName] at h; done)
              | rfl)
          | rfl)
  | _ => rfl
theorem folded_of {e : Expr} {env : Env} (h : plainE e = true) : ∀ x, foldedSetIterable e env x = pure x := by
  intro x
  cases e <;> first | rfl | (exfalso; simp [plainE] at h; done)
theorem tgt_of {i : Nat} {x : Str} (O : EnvOk X P C Φ κ) (h : okTgt C i x = true) : X.N[i]? = some x ∧ L2.Loc X.env.scope x ∧ (X.fn x = true ∨ X.env.scope.names.lookup x = some .local) := by
  unfold okTgt at h
  simp only [Bool.and_eq_true, beq_iff_eq] at h
  obtain ⟨h1, h2⟩ := h
  refine ⟨by rw [O.N]; exact h1, ?_⟩
  unfold L2.Loc
  rw [O.sc]
  split at h2
  · rename_i e; exact ⟨.inl e, .inr e⟩
  · rename_i e; exact ⟨.inr e, .inl (O.fn x h2)⟩
  · cases h2
theorem relSt_set {w : Wd} {sd : Std} {σ : L2.St} {d : D} {v : V} (r : RelSt P w sd σ) (i : Nat) (h : RelD P w d v) : RelSt P w (sd.set i (some d)) (σ.set i (some v)) := by
  refine ⟨by simp [r.1], fun j e he => ?_⟩
  by_cases hj : j = i
  · subst hj
    by_cases hl : j < sd.length
    · rw [List.getElem?_set_self hl] at he
      cases he
      exact ⟨v, List.getElem?_set_self (by rw [← r.1]; exact hl), h⟩
    · rw [List.getElem?_eq_none (by simpa using hl)] at he
      cases he
  · rw [List.getElem?_set_ne (Ne.symm hj)] at he ⊢
    exact r.2 j e he
theorem pg_nm {i : Nat} {x : Str} {pos : Pos} (O : EnvOk X P C Φ κ) (h : okTgt C i x = true) : PG X (.Name x pos) (liG P (asgT (.nm i))) := by
  obtain ⟨h1, h2, h3⟩ := tgt_of O h
  refine pgI (pg_name (by rw [O.N]; exact O.nd) h1 h2 h3) fun v σ H Q q => ?_
  obtain ⟨w, M, sd, d, Qd, R, rs, r, l, q⟩ := q
  exact l w M H _ _ (.refl _ _) R (relSt_set rs i r) q
theorem assignEach_cons {x : Str} {p : Pos} {es : List Expr} {env : Env} : assignEach (.Name x p :: es) env = (false, assign (.Name x p) env) :: assignEach es env := rfl
/-- several names, one after another -/
theorem pgs_of (O : EnvOk X P C Φ κ) : ∀ {is : List Nat} {es : List Expr}, okTg.go C is es = true → ∃ t, PGs X es t ∧ (assignEach es X.env).length = is.length ∧ (assignEach es X.env).findIdx? (·.1) = none ∧
    ∀ {w M H sd σ ds vs} {Qd : Std → Md → Prop} {Q : L2.St → Hp → Prop}, RepM P w M H → RelSt P w sd σ → RelDs P w ds vs → ds.length = is.length → LkSt P w H Qd Q → Qd (setAll sd is ds) M → t vs σ H Q
  | [], [], _ => ⟨_, pgs_nil, rfl, rfl, fun {w M H sd σ ds vs Qd Q} R rs r hl l q => by
    have e : ds = [] := List.length_eq_zero_iff.mp hl
    subst e
    have r : vs = [] := r
    exact ⟨r, l w M H sd σ (.refl _ _) R rs (show Qd sd M from q)⟩⟩
  | [], _ :: _, h => by simp [okTg.go] at h
  | _ :: _, [], h => by simp [okTg.go] at h
  | i :: is, e :: es, h => by
    cases e with
    | Name x pos =>
      have h : (okTgt C i x && okTg.go C is es) = true := h
      rw [Bool.and_eq_true] at h
      obtain ⟨t, h1, h2, h3, h4⟩ := pgs_of O h.2
      refine ⟨_, pgs_cons (pg_nm O h.1) h1, by rw [assignEach_cons, List.length_cons, List.length_cons, h2], by rw [assignEach_cons, List.findIdx?_cons, h3]; rfl, fun {w M H sd σ ds vs Qd Q} R rs r hl l q => ?_⟩
      cases ds with
      | nil => cases hl
      | cons d ds =>
        obtain ⟨v, us, e, r1, r2⟩ := r
        refine ⟨v, us, e, w, M, sd, d, fun sd' M' => sd' = sd.set i (some d) ∧ M' = M, R, rs, r1, fun w' M' H' sd' σ' s' R' rs' q' => ?_, rfl, rfl⟩
        obtain ⟨q1, q2⟩ := q'
        subst q1; subst q2
        exact h4 R' rs' (r2.mono s'.le) (by simpa using hl) (l.on s') q
    | _ => exact absurd h (by simp [okTg.go])
theorem pg_of {t : Tg} {e : Expr} (O : EnvOk X P C Φ κ) (h : okTg C t e = true) : PG X e (liG P (asgT t)) := by
  cases t with
  | nm i =>
    cases e with
    | Name x pos => exact pg_nm O h
    | _ => exact absurd h (by simp [okTg])
  | tp is =>
    cases e with
    | Tuple es k pos =>
      have h : (!C.X.hot && okTg.go C is es) = true := h
      rw [Bool.and_eq_true, Bool.not_eq_true'] at h
      obtain ⟨t, h1, h2, h3, h4⟩ := pgs_of O h.2
      refine pgI (pg_tup (O.calm h.1) h1 h2 h3) fun v σ H Q q => ?_
      obtain ⟨w, M, sd, d, Qd, R, rs, r, l, q⟩ := q
      cases d with
      | tup ds =>
        obtain ⟨p, vs, e, hp, hs⟩ := r
        exact ⟨p, vs, e, O.K ▸ sqT_mono R.sub hp, by rw [hs.length]; exact q.1, h4 R rs hs q.1 l q.2⟩
      | _ => exact q.elim
    | _ => exact absurd h (by simp [okTg])
end
end DL
namespace DL
open PySem L2
section
variable {P : Pm} {w : Wd} {M : Md} {H : Hp} {p : Addr}
/-- an object that stands and is not tracked here becomes settled -/
theorem RepM.adoptF (R : RepM P w M H) {o : HO} (h : H p = some o) (hnt : ∀ ps, o ≠ .tbl ps) (hF : w.F p = none) (hr : p ∉ w.r) : RepM P { w with F := upd w.F p o } M H ∧ Le w { w with F := upd w.F p o } := by
  have le : Le w { w with F := upd w.F p o } := ⟨fun a u e => by show upd w.F p o a = _; rw [upd_ne (fun z => by rw [z, hF] at e; cases e)]; exact e, fun _ _ e => e⟩
  refine ⟨⟨fun a u e => ?_, R.len, R.nd, R.inH, fun k m q hm hq => ?_, R.tab.on (fun _ _ h1 h2 => ⟨h1, h2⟩) (fun a ps h1 h2 h3 => ⟨h1, ?_, h3⟩) (fun a ps z => ?_) R.tab.nc⟩, le⟩
  · have e' : upd w.F p o a = some u := e
    by_cases ha : a = p
    · subst ha; rw [upd_same] at e'; rw [← e']; exact h
    · rw [upd_ne ha] at e'; exact R.sub _ _ e'
  · have nq : q ≠ p := fun z => hr (z ▸ List.mem_of_getElem? hq)
    exact (R.cell k m q hm hq).mono le (fun z => by show upd w.F p o q = none; rw [upd_ne nq]; exact z) rfl fun _ _ h1 h2 => ⟨h1, h2⟩
  · show upd w.F p o a = none
    rw [upd_ne (fun z => by rw [z, h] at h3; exact hnt ps (Option.some.inj h3))]; exact h2
  · have z : upd w.F p o a = some (.tbl ps) := z
    by_cases ha : a = p
    · subst ha; rw [upd_same] at z; exact absurd (Option.some.inj z) (hnt ps)
    · rw [upd_ne ha] at z; exact z
theorem RepM.adoptC (R : RepM P w M H) {vs : List V} {ds : List D} (h : H p = some (.lst vs)) (hF : w.F p = none) (hr : p ∉ w.r) (hs : RelDs P w ds vs) : RepM P { w with r := w.r ++ [p] } (M ++ [.lst ds]) H ∧ Le w { w with r := w.r ++ [p] } := by
  have le : Le w { w with r := w.r ++ [p] } := ⟨fun _ _ e => e, fun k q e => by
    show (w.r ++ [p])[k]? = some q
    rw [List.getElem?_append_left (List.getElem?_eq_some_iff.mp e).1]; exact e⟩
  have hC : KpC w H { w with r := w.r ++ [p] } H := fun b q h1 h2 => ⟨fun z => by
    rcases List.mem_append.mp z with z | z
    · exact h1 z
    · simp at z; rw [z, h] at h2; exact codeO_lst (Option.some.inj h2).symm, h2⟩
  refine ⟨⟨R.sub, by simp [R.len], ?_, fun q hq => ?_, fun k m' q hm hq => ?_, R.tab.on hC (fun a ps h1 h2 h3 => ⟨fun z => ?_, h2, h3⟩) (fun a ps z => z) fun b hb o' e => ?_⟩, le⟩
  · exact List.nodup_append.mpr ⟨R.nd, by simp, fun a ha b hb => by simp at hb; subst hb; exact fun z => hr (z ▸ ha)⟩
  · rcases List.mem_append.mp hq with z | z
    · exact R.inH q z
    · simp at z; rw [z, h]; simp
  · by_cases hk : k < M.length
    · rw [List.getElem?_append_left hk] at hm
      have hq2 : w.r[k]? = some q := by
        have : (w.r ++ [p])[k]? = some q := hq
        rwa [List.getElem?_append_left (by rw [← R.len]; exact hk)] at this
      exact (R.cell k m' q hm hq2).mono le (fun z => z) rfl hC
    · have hk2 : k = M.length := by
        have := (List.getElem?_eq_some_iff.mp hm).1
        simp at this; omega
      subst hk2
      have e1 : m' = .lst ds := by simpa using hm.symm
      have e2 : q = p := by
        have : (w.r ++ [p])[M.length]? = some q := hq
        rw [R.len] at this
        simpa using this.symm
      subst e1; subst e2
      exact ⟨hF, vs, h, hs.mono le⟩
  · rcases List.mem_append.mp z with z | z
    · exact h1 z
    · simp at z; rw [z, h] at h3; cases h3
  · rcases List.mem_append.mp hb with z | z
    · exact R.tab.nc b z o' e
    · simp at z; rw [z, h] at e; cases e; exact .lst
end
theorem nlt {vs : List V} (ps : Array Value) : HO.lst vs ≠ .tbl ps := fun z => by cases z
theorem wipe_at {σ : L2.St} {j : Nat} : ∀ vs : List Nat, (wipe σ vs)[j]? = if j ∈ vs then (if j < σ.length then some none else none) else σ[j]?
  | [] => by simp [wipe]
  | v :: vs => by
    have ih := wipe_at (σ := σ) (j := j) vs
    unfold wipe
    by_cases h : j = v
    · subst h
      rw [if_pos List.mem_cons_self]
      by_cases hl : j < σ.length
      · rw [List.getElem?_set_self (by rw [wipe_length]; exact hl), if_pos hl]
      · rw [List.getElem?_eq_none (by rw [List.length_set, wipe_length]; omega), if_neg hl]
    · rw [List.getElem?_set_ne (Ne.symm h), ih]
      simp [h]
theorem wipe_back {σ σ' : L2.St} {vs idx : List Nat} (hs : ∀ j ∈ idx, j ∈ vs) (hl : σ'.length = σ.length) (h : ∀ j, j ∉ idx → σ'[j]? = (wipe σ vs)[j]?) : wipe σ' vs = wipe σ vs := by
  apply List.ext_getElem?
  intro j
  rw [wipe_at, wipe_at]
  by_cases hj : j ∈ vs
  · rw [if_pos hj, if_pos hj, hl]
  · rw [if_neg hj, if_neg hj, h j (fun z => hj (hs j z)), wipe_at, if_neg hj]
theorem wipeD_at {σ : Std} {j : Nat} : ∀ vs : List Nat, (wipeD σ vs)[j]? = if j ∈ vs then (if j < σ.length then some none else none) else σ[j]?
  | [] => by simp [wipeD]
  | v :: vs => by
    have ih := wipeD_at (σ := σ) (j := j) vs
    have hlen : ∀ vs : List Nat, (wipeD σ vs).length = σ.length := fun vs => by
      induction vs with
      | nil => rfl
      | cons v vs ih => unfold wipeD; rw [List.length_set, ih]
    unfold wipeD
    by_cases h : j = v
    · subst h
      rw [if_pos List.mem_cons_self]
      by_cases hl : j < σ.length
      · rw [List.getElem?_set_self (by rw [hlen]; exact hl), if_pos hl]
      · rw [List.getElem?_eq_none (by rw [List.length_set, hlen]; omega), if_neg hl]
    · rw [List.getElem?_set_ne (Ne.symm h), ih]
      simp [h]
theorem wipeD_length {σ : Std} : ∀ vs : List Nat, (wipeD σ vs).length = σ.length
  | [] => rfl
  | v :: vs => by unfold wipeD; rw [List.length_set, wipeD_length vs]
theorem relSt_wipe {P : Pm} {w : Wd} {sd : Std} {σ : L2.St} (r : RelSt P w sd σ) (vs : List Nat) : RelSt P w (wipeD sd vs) (wipe σ vs) := by
  refine ⟨by rw [wipeD_length, wipe_length]; exact r.1, fun j d h => ?_⟩
  rw [wipeD_at] at h
  rw [wipe_at]
  by_cases hj : j ∈ vs
  · rw [if_pos hj] at h
    split at h <;> cases h
  · rw [if_neg hj] at h ⊢
    exact r.2 j d h
def liGC (P : Pm) (t : D → Std → Md → (Std → Md → Prop) → Prop) (idx : List Nat) : TG := fun v σ H Q => ∃ w M sd d Qd, RepM P w M H ∧ RelSt P w sd σ ∧ RelD P w d v ∧
  (∀ w' M' H' sd' σ', Step w H w' H' → RepM P w' M' H' → RelSt P w' sd' σ' → σ'.length = σ.length → (∀ j, j ∉ idx → σ'[j]? = σ[j]?) → Qd sd' M' → Q σ' H') ∧ t d sd M Qd
section
variable {X : Cx} {P : Pm} {C : Ctx} {Φ : Nat → SpD} {κ : Nat → D} {W : WX}
theorem pgc_nm {i : Nat} {x : Str} {pos : Pos} (O : EnvOk X P C Φ κ) (h : okTgt C i x = true) : PG X (.Name x pos) (liGC P (asgT (.nm i)) [i]) := by
  obtain ⟨h1, h2, h3⟩ := tgt_of O h
  refine pgI (pg_name (by rw [O.N]; exact O.nd) h1 h2 h3) fun v σ H Q q => ?_
  obtain ⟨w, M, sd, d, Qd, R, rs, r, l, q⟩ := q
  exact l w M H _ _ (.refl _ _) R (relSt_set rs i r) (by simp) (fun j hj => List.getElem?_set_ne (fun z => hj (by simp [z]))) q
theorem pgcs_of (O : EnvOk X P C Φ κ) : ∀ {is : List Nat} {es : List Expr}, okTg.go C is es = true → ∃ t, PGs X es t ∧ (assignEach es X.env).length = is.length ∧ (assignEach es X.env).findIdx? (·.1) = none ∧
    ∀ {w M H sd σ ds vs} {Qd : Std → Md → Prop} {Q : L2.St → Hp → Prop}, RepM P w M H → RelSt P w sd σ → RelDs P w ds vs → ds.length = is.length →
      (∀ w' M' H' sd' σ', Step w H w' H' → RepM P w' M' H' → RelSt P w' sd' σ' → σ'.length = σ.length → (∀ j, j ∉ is → σ'[j]? = σ[j]?) → Qd sd' M' → Q σ' H') → Qd (setAll sd is ds) M → t vs σ H Q
  | [], [], _ => ⟨_, pgs_nil, rfl, rfl, fun {w M H sd σ ds vs Qd Q} R rs r hl l q => by
    have e : ds = [] := List.length_eq_zero_iff.mp hl
    subst e
    have r : vs = [] := r
    exact ⟨r, l w M H sd σ (.refl _ _) R rs rfl (fun _ _ => rfl) (show Qd sd M from q)⟩⟩
  | [], _ :: _, h => by simp [okTg.go] at h
  | _ :: _, [], h => by simp [okTg.go] at h
  | i :: is, e :: es, h => by
    cases e with
    | Name x pos =>
      have h : (okTgt C i x && okTg.go C is es) = true := h
      rw [Bool.and_eq_true] at h
      obtain ⟨t, h1, h2, h3, h4⟩ := pgcs_of O h.2
      refine ⟨_, pgs_cons (pgc_nm O h.1) h1, by rw [assignEach_cons, List.length_cons, List.length_cons, h2], by rw [assignEach_cons, List.findIdx?_cons, h3]; rfl, fun {w M H sd σ ds vs Qd Q} R rs r hl l q => ?_⟩
      cases ds with
      | nil => cases hl
      | cons d ds =>
        obtain ⟨v, us, e, r1, r2⟩ := r
        refine ⟨v, us, e, w, M, sd, d, fun sd' M' => sd' = sd.set i (some d) ∧ M' = M, R, rs, r1, fun w' M' H' sd' σ' s' R' rs' hl' ho' q' => ?_, rfl, rfl⟩
        obtain ⟨q1, q2⟩ := q'
        subst q1; subst q2
        refine h4 R' rs' (r2.mono s'.le) (by simpa using hl) (fun w2 M2 H2 sd2 σ2 s2 R2 rs2 hl2 ho2 q2 => l w2 M2 H2 sd2 σ2 (s'.trans s2) R2 rs2 (hl2.trans hl') (fun j hj => ?_) q2) q
        simp only [List.mem_cons, not_or] at hj
        rw [ho2 j hj.2, ho' j (by simp [hj.1])]
    | _ => exact absurd h (by simp [okTg.go])
theorem pgc_of {t : Tg} {e : Expr} (O : EnvOk X P C Φ κ) (h : okTg C t e = true) : PG X e (liGC P (asgT t) (tgIdx t)) := by
  cases t with
  | nm i =>
    cases e with
    | Name x pos => exact pgc_nm O h
    | _ => exact absurd h (by simp [okTg])
  | tp is =>
    cases e with
    | Tuple es k pos =>
      have h : (!C.X.hot && okTg.go C is es) = true := h
      rw [Bool.and_eq_true, Bool.not_eq_true'] at h
      obtain ⟨t, h1, h2, h3, h4⟩ := pgcs_of O h.2
      refine pgI (pg_tup (O.calm h.1) h1 h2 h3) fun v σ H Q q => ?_
      obtain ⟨w, M, sd, d, Qd, R, rs, r, l, q⟩ := q
      cases d with
      | tup ds =>
        obtain ⟨p, vs, e, hp, hs⟩ := r
        exact ⟨p, vs, e, O.K ▸ sqT_mono R.sub hp, by rw [hs.length]; exact q.1, h4 R rs hs q.1 l q.2⟩
      | _ => exact q.elim
    | _ => exact absurd h (by simp [okTg])
/-- a list or a tuple, walked -/
def iSeq (K : PySem.W.Frag) (tl : TE) : TI := fun σ H R => tl σ H fun x H1 => ∃ a, x = .ref a ∧ (((∃ xs, SqL K H1 a xs) ∧ R (Itl K a) H1) ∨ ((∃ xs, SqT K H1 a xs) ∧ R (Itt K a) H1))
theorem pi_seq {tg l : Expr} {tl : TE} (hl : PE X l tl) : PI X tg l (iSeq X.K tl) := by
  refine ⟨fun pins s σ H R I h => ?_⟩
  refine thn (hl.run pins s σ H _ I h) fun v s1 ⟨x, H1, I1, r1, q1⟩ => ?_
  obtain ⟨a, e, q⟩ := q1
  subst e
  cases r1
  have fp : ∀ b ∈ [s1.heap.objs.size], FpOk X pins H1 b := fun b hb => by
    have e : b = s1.heap.objs.size := by simpa using hb
    subst e
    exact I1.fpOk (Nat.le_refl _) (I1.hok.fresh (Nat.le_refl _))
  rcases q with ⟨⟨xs, hq⟩, q⟩ | ⟨⟨xs, hq⟩, q⟩
  · obtain ⟨its, rv, p, hz⟩ := I1.list hq
    refine wpAny_pyIter_list p.isList ?_
    exact ⟨s1.heap.objs.size, [s1.heap.objs.size], _, _, H1, rfl, I1.kept (t' := s1.toks) fun b o e => Heap.get?_push_of_some _ e, turn_list a _, ⟨_, Heap.get?_push_size _ rfl, rfl, rfl⟩, fp, q⟩
  · obtain ⟨its, rv, p, hz⟩ := I1.tuple hq
    refine wpAny_pyIter_tuple (show s1.heap.IsTuple a its.toArray from p) ?_
    exact ⟨s1.heap.objs.size, [s1.heap.objs.size], _, _, H1, rfl, I1.kept (t' := s1.toks) fun b o e => Heap.get?_push_of_some _ e, turn_tuple a _, ⟨_, Heap.get?_push_size _ rfl, rfl, rfl⟩, fp, q⟩
/-- the value's list, walked: its items -/
theorem itOk_seq {w : Wd} {M : Md} {H : Hp} {K : PySem.W.Frag} (hK : P.K = K) (R : RepM P w M H) {d : D} {v : V} {ds : List D} (r : RelD P w d v) (h : seqOf d M = some ds) :
    ∃ a, v = .ref a ∧ (((∃ xs, SqL K H a xs) ∧ ItOk P K w H ds (lkOf d) (Itl K a)) ∨ ((∃ xs, SqT K H a xs) ∧ ItOk P K w H ds (lkOf d) (Itt K a))) := by
  subst hK
  cases d with
  | tup es =>
    cases h
    obtain ⟨p, vs, e, hp, hs⟩ := r
    exact ⟨p, e, .inr ⟨⟨vs, sqT_mono R.sub hp⟩, .tup fun w' M' H' s R' _ => ⟨vs, sqT_mono R'.sub (sqT_mono s.le.F hp), hs.mono s.le⟩⟩⟩
  | lst es =>
    cases h
    obtain ⟨p, vs, e, hp, hs⟩ := r
    exact ⟨p, e, .inl ⟨⟨vs, SqL.of (R.sub _ _ hp)⟩, .lst fun w' M' H' s R' _ => ⟨vs, SqL.of (R'.sub _ _ (s.le.F _ _ hp)), hs.mono s.le⟩⟩⟩
  | scr ns =>
    cases h
    obtain ⟨p, e, hp⟩ := r
    exact ⟨p, e, .inl ⟨⟨_, sqL_mono R.sub hp⟩, .lst fun w' M' H' s R' _ => ⟨_, sqL_mono R'.sub (sqL_mono s.le.F hp), relDs_ints ns⟩⟩⟩
  | ref k =>
    obtain ⟨p, e, hp⟩ := r
    have h : (match M[k]? with
      | some (.lst ds) => some ds
      | _ => none) = some ds := h
    split at h
    · rename_i ds' hm
      cases h
      obtain ⟨_, vs, e2, hs⟩ := R.cell k _ p hm hp
      refine ⟨p, e, .inl ⟨⟨vs, SqL.of e2⟩, .lst fun w' M' H' s R' lk => ?_⟩⟩
      obtain ⟨_, vs', e3, hs'⟩ := R'.cell k (.lst ds) p lk (s.le.r _ _ hp)
      exact ⟨vs', SqL.of e3, hs'⟩
    · cases h
  | _ => cases h
theorem rngD_at {i j : Int} {k : Nat} (h : k < (j - i).toNat) : (rngD i j)[k]? = some (.int (i + (k : Nat))) := by
  unfold rngD
  rw [List.getElem?_map, List.getElem?_range h]
  rfl
theorem rngD_length (i j : Int) : (rngD i j).length = (j - i).toNat := by unfold rngD; rw [List.length_map, List.length_range]
/-- a turn's item -/
theorem ItOk.turn {K : PySem.W.Frag} {w w' : Wd} {M' : Md} {H H' : Hp} {ds : List D} {lk : Option Nat} {J : It} (T : ItOk P K w H ds lk J) (s : Step w H w' H') (R : RepM P w' M' H') (l : lkOk lk ds M') (i : Nat) :
    (ds.length ≤ i → J.stop i H') ∧ (∀ d, ds[i]? = some d → J.go i H' ∧ ∀ x H2, J.yld i H' x H2 → ∃ w2, Step w' H' w2 H2 ∧ RepM P w2 M' H2 ∧ RelD P w2 d x) := by
  have same : ∀ {H2 : Hp} {d : D} {x : V}, H2 = H' → RelD P w' d x → ∃ w2, Step w' H' w2 H2 ∧ RepM P w2 M' H2 ∧ RelD P w2 d x := fun e r => by subst e; exact ⟨w', .refl _ _, R, r⟩
  cases T with
  | @lst a f =>
    obtain ⟨vs, h1, h2⟩ := f w' M' H' s R l
    refine ⟨fun hi => ⟨vs, h1, by rw [h2.length]; exact hi⟩, fun d hd => ?_⟩
    obtain ⟨v, hv, r⟩ := h2.get hd
    refine ⟨⟨vs, v, h1, hv⟩, fun x H2 hy => ?_⟩
    obtain ⟨e, y⟩ := hy
    have := y vs h1
    rw [hv] at this
    cases this
    exact same e r
  | @tup a f =>
    obtain ⟨vs, h1, h2⟩ := f w' M' H' s R l
    refine ⟨fun hi => ⟨vs, h1, by rw [h2.length]; exact hi⟩, fun d hd => ?_⟩
    obtain ⟨v, hv, r⟩ := h2.get hd
    refine ⟨⟨vs, v, h1, hv⟩, fun x H2 hy => ?_⟩
    obtain ⟨e, y⟩ := hy
    have := y vs h1
    rw [hv] at this
    cases this
    exact same e r
  | @chr z e =>
    subst e
    have hl : (charsD z).length = z.cps.size := by unfold charsD; simp
    refine ⟨fun hi => by rw [hl] at hi; exact hi, fun d hd => ?_⟩
    have hlt : i < z.cps.size := by
      have := (List.getElem?_eq_some_iff.mp hd).1
      rwa [hl] at this
    refine ⟨hlt, fun x H2 hy => ?_⟩
    obtain ⟨e1, c, hc, e2⟩ := hy
    have hd : (z.cps.toList.map fun c => D.str ⟨#[c]⟩)[i]? = some d := hd
    rw [List.getElem?_map, Array.getElem?_toList, hc] at hd
    cases hd
    exact same e1 e2
  | @rng a b e =>
    subst e
    refine ⟨fun hi => by rw [rngD_length] at hi; exact hi, fun d hd => ?_⟩
    have hlt : i < (b - a).toNat := by
      have := (List.getElem?_eq_some_iff.mp hd).1
      rwa [rngD_length] at this
    rw [rngD_at hlt] at hd
    cases hd
    refine ⟨hlt, fun x H2 hy => ?_⟩
    obtain ⟨e1, e2⟩ := hy
    exact same e1 e2
  | @enm a es f e =>
    subst e
    obtain ⟨vs, h1, h2⟩ := f w' M' H' s R
    have hl : (enumD es).length = es.length := by unfold enumD; simp
    refine ⟨fun hi => ⟨vs, h1, by rw [h2.length]; rw [hl] at hi; exact hi⟩, fun d hd => ?_⟩
    have hd2 : ∃ x, es[i]? = some x ∧ d = .tup [.int (i : Nat), x] := by
      unfold enumD at hd
      rw [List.getElem?_map] at hd
      obtain ⟨q, hq, rfl⟩ := Option.map_eq_some_iff.mp hd
      rw [List.getElem?_zipIdx] at hq
      obtain ⟨x, hx, rfl⟩ := Option.map_eq_some_iff.mp hq
      exact ⟨x, hx, by simp⟩
    obtain ⟨x, hx, rfl⟩ := hd2
    obtain ⟨v, hv, r⟩ := h2.get hx
    refine ⟨⟨vs, v, h1, hv⟩, fun y H2 hy => ?_⟩
    obtain ⟨T, z, rfl, hT, rfl, hz⟩ := hy
    have := hz vs h1
    rw [hv] at this
    cases this
    obtain ⟨R2, s2⟩ := R.newF hT (.tup [.int (i : Nat), v]) fun _ z => by cases z
    have rp : RelDs P w' [.int (i : Nat), x] [.int (i : Nat), v] := .cons rfl (.cons r .nil)
    exact ⟨_, s2, R2, ⟨T, _, rfl, .inl (.inl upd_same), rp.mono s2.le⟩⟩
/-- for -/
theorem for_lift {wi : RI} {t : Tg} {tb : RS} {σ : L2.St} {H : Hp} {K : Ends} :
    liS P W (fun E K σ M => wi (fun x => E x σ) σ M fun ds lk M1 => loopD lk ds (asgT t) (tb E) K ds σ M1) K σ H → tFor (liI P X.K W wi) (liG P (asgT t)) (liS P W tb) K σ H := by
  rintro ⟨w, M, sd, Kd, Ed, R, rs, lk, lx, q⟩
  refine ⟨w, M, sd, _, _, R, rs, fun w1 M1 H1 ds l J s R1 T q => ?_, lx.at rs, q⟩
  have lkK := lk.on s
  have lxK := lx.on s
  refine ⟨fun i m σ' H' => m = ds.length - i ∧ i ≤ ds.length ∧ ∃ w' M' sd', Step w1 H1 w' H' ∧ RepM P w' M' H' ∧ RelSt P w' sd' σ' ∧ loopD l ds (asgT t) (tb Ed) Kd (ds.drop i) sd' M', ⟨ds.length, by simp, Nat.zero_le _, w1, M1, sd, .refl _ _, R1, rs.mono s.le, by simpa using q⟩, ?_⟩
  rintro i m σ' H' ⟨rfl, hi, w', M', sd', s', R', rs', q'⟩
  by_cases hlt : i < ds.length
  · rw [List.drop_eq_getElem_cons hlt] at q'
    obtain ⟨l1, q'⟩ := q'
    obtain ⟨g1, g2⟩ := (T.turn s' R' l1 i).2 ds[i] (List.getElem?_eq_getElem hlt)
    refine .inr ⟨g1, fun σ2 H2 => ∃ w2 M2 sd2, Step w1 H1 w2 H2 ∧ RepM P w2 M2 H2 ∧ RelSt P w2 sd2 σ2 ∧ loopD l ds (asgT t) (tb Ed) Kd (ds.drop (i + 1)) sd2 M2, fun σ2 H2 h => ⟨ds.length - (i + 1), by omega, rfl, hlt, h⟩, fun x H2 y => ?_⟩
    obtain ⟨w2, s2, R2, rx⟩ := g2 x H2 y
    refine ⟨w2, M', sd', ds[i], _, R2, rs'.mono s2.le, rx, fun w3 M3 H3 sd3 σ3 s3 R3 rs3 q3 => ?_, q'⟩
    have s13 := (s'.trans s2).trans s3
    refine ⟨w3, M3, sd3, { nx := loopD l ds (asgT t) (tb Ed) Kd (ds.drop (i + 1)), rt := Kd.rt, bk := Kd.nx, ct := loopD l ds (asgT t) (tb Ed) Kd (ds.drop (i + 1)) }, Ed, R3, rs3, ⟨?_, (lkK.on s13).rt, (lkK.on s13).nx, ?_⟩, lxK.on s13, q3⟩
    · exact fun w4 M4 H4 sd4 σ4 s4 R4 rs4 q4 => ⟨w4, M4, sd4, s13.trans s4, R4, rs4, q4⟩
    · exact fun w4 M4 H4 sd4 σ4 s4 R4 rs4 q4 => ⟨w4, M4, sd4, s13.trans s4, R4, rs4, q4⟩
  · have e : i = ds.length := by omega
    subst e
    rw [List.drop_length] at q'
    obtain ⟨l1, q'⟩ := q'
    exact .inl ⟨(T.turn s' R' l1 ds.length).1 (Nat.le_refl _), lkK.nx w' M' H' sd' σ' s' R' rs' q'⟩
/-- while -/
theorem while_lift {tt : RT} {tb : RS} {σ : L2.St} {H : Hp} {K : Ends} :
    liS P W (fun E K σ M => ∃ n, whilD (fun σ M Q => tt (fun x => E x σ) σ M Q) (tb E) K n σ M) K σ H → tWhile (liT P W tt) (liS P W tb) K σ H := by
  rintro ⟨w, M, sd, Kd, Ed, R, rs, lk, lx, n, q⟩
  refine ⟨fun m σ' H' => ∃ w' M' sd', Step w H w' H' ∧ RepM P w' M' H' ∧ RelSt P w' sd' σ' ∧ whilD (fun σ M Q => tt (fun x => Ed x σ) σ M Q) (tb Ed) Kd m sd' M', ⟨n, w, M, sd, .refl _ _, R, rs, q⟩, ?_⟩
  rintro m σ' H' ⟨w', M', sd', s', R', rs', q'⟩
  cases m with
  | zero => exact q'.elim
  | succ m =>
    refine ⟨w', M', sd', _, _, R', rs', fun w1 M1 H1 b s1 R1 q1 => ?_, (lx.on s').at rs', q'⟩
    have s01 := s'.trans s1
    cases b with
    | true =>
      simp only [if_true] at q1 ⊢
      refine ⟨fun σ2 H2 => ∃ w2 M2 sd2, Step w H w2 H2 ∧ RepM P w2 M2 H2 ∧ RelSt P w2 sd2 σ2 ∧ whilD (fun σ M Q => tt (fun x => Ed x σ) σ M Q) (tb Ed) Kd m sd2 M2, fun σ2 H2 h => ⟨m, Nat.lt_succ_self _, h⟩, ?_⟩
      refine ⟨w1, M1, sd', { nx := whilD (fun σ M Q => tt (fun x => Ed x σ) σ M Q) (tb Ed) Kd m, rt := Kd.rt, bk := Kd.nx, ct := whilD (fun σ M Q => tt (fun x => Ed x σ) σ M Q) (tb Ed) Kd m }, Ed, R1, rs'.mono s1.le, ⟨?_, (lk.on s01).rt, (lk.on s01).nx, ?_⟩, lx.on s01, q1⟩
      · exact fun w4 M4 H4 sd4 σ4 s4 R4 rs4 q4 => ⟨w4, M4, sd4, s01.trans s4, R4, rs4, q4⟩
      · exact fun w4 M4 H4 sd4 σ4 s4 R4 rs4 q4 => ⟨w4, M4, sd4, s01.trans s4, R4, rs4, q4⟩
    | false =>
      simp only [Bool.false_eq_true, if_false] at q1 ⊢
      exact lk.nx w1 M1 H1 sd' σ' s01 R1 (rs'.mono s1.le) q1
abbrev W0 : WX := fun _ _ _ _ => False
theorem lkX0 {w : Wd} {H : Hp} {σ : L2.St} : LkX P w H (fun _ _ => False) (WE W0 σ) := fun _ _ _ _ _ _ _ _ _ q => q.elim
/-- a comprehension -/
theorem comp_lift {m : Bool} {wi : RI} {t : Tg} {tt : RT} {te : RE} {own : List Nat} (hs : ∀ j ∈ tgIdx t, j ∈ own) : ∀ σ H Q,
    liE P W (fun E σ M Q => wi E σ M fun ds lk M1 => compD lk ds (fun d k M => asgT t d (wipeD σ own) M k) (fun σ M Q => tt (fun _ _ => False) σ M Q) (fun σ M Q => te (fun _ _ => False) σ M Q)
      (fun acc M => if m = true then Q (.ref M.length) (M ++ [.lst acc]) else Q (.lst acc) M) ds [] M1) σ H Q →
    tLc (liI P X.K W wi) (liGC P (asgT t) (tgIdx t)) (liT P W0 tt) (liE P W0 te) own σ H Q := by
  rintro σ H Q ⟨w, M, sd, Qd, Ed, R, rs, lq, lx, q⟩
  refine ⟨w, M, sd, _, Ed, R, rs, fun w1 M1 H1 ds l J s R1 T q => ?_, lx, q⟩
  intro Da hD
  have rs1 := rs.mono s.le
  have lq1 := lq.on s
  let INV : Nat → Hp → Prop := fun i H' => ∃ w' M' acc vs, Step w1 H1 w' H' ∧ RepM P w' M' H' ∧ w'.F Da = none ∧ Da ∉ w'.r ∧ H' Da = some (.lst vs) ∧ RelDs P w' acc vs ∧
    compD l ds (fun d k M => asgT t d (wipeD sd own) M k) (fun σ M Q => tt (fun _ _ => False) σ M Q) (fun σ M Q => te (fun _ _ => False) σ M Q) (fun acc M => if m = true then Qd (.ref M.length) (M ++ [.lst acc]) else Qd (.lst acc) M) (ds.drop i) acc M'
  have start : INV 0 (upd H1 Da (.lst [])) := by
    have hC0 : KpC w1 H1 w1 (upd H1 Da (.lst [])) := fun b q h1 h2 => ⟨h1, by rw [upd_ne fun z => by rw [z, hD] at h2; cases h2]; exact h2⟩
    refine ⟨w1, M1, [], [], ⟨.refl _, fun a o e _ _ => ?_, fun a e h1 h2 => ⟨h1, h2⟩, fun a e => upd_some e⟩, ⟨fun a o e => ?_, R1.len, R1.nd, fun p hp => ?_, fun k mo p h1 h2 => ?_, R1.tab.on hC0 (fun a ps h1 h2 h3 => ⟨h1, h2, by rw [upd_ne fun z => by rw [z, hD] at h3; cases h3]; exact h3⟩) (fun a ps z => z) fun b hb o' e => R1.tab.nc b hb o' (by rw [upd_ne (fun z => R1.inH b hb (by rw [z]; exact hD))] at e; exact e)⟩, R1.Fnone hD, R1.notin hD, upd_same, rfl, by simpa using q⟩
    · rw [upd_ne (ne_of_none e hD)]; exact e
    · rw [upd_ne (ne_of_none (R1.sub _ _ e) hD)]; exact R1.sub _ _ e
    · rw [upd_ne (fun z => R1.inH p hp (by rw [z]; exact hD))]; exact R1.inH p hp
    · exact (R1.cell k mo p h1 h2).mono (.refl _) (fun z => z) (upd_ne (fun z => R1.inH p (List.mem_of_getElem? h2) (by rw [z]; exact hD))) hC0
  refine ⟨fun i n H' => n = ds.length - i ∧ i ≤ ds.length ∧ INV i H', ⟨ds.length, by simp, Nat.zero_le _, start⟩, ?_⟩
  rintro i n H' ⟨rfl, hi, w', M', acc, vs, s', R', f1, f2, hH, ha, q'⟩
  by_cases hlt : i < ds.length
  · rw [List.drop_eq_getElem_cons hlt] at q'
    obtain ⟨l1, q'⟩ := q'
    obtain ⟨g1, g2⟩ := (T.turn s' R' l1 i).2 ds[i] (List.getElem?_eq_getElem hlt)
    refine .inr ⟨g1, fun H2 => INV (i + 1) H2, fun H2 h => ⟨ds.length - (i + 1), by omega, rfl, hlt, h⟩, fun x H2 y => ?_⟩
    obtain ⟨w2, s2, R2, rx⟩ := g2 x H2 y
    refine ⟨w2, M', wipeD sd own, ds[i], _, R2, relSt_wipe (rs1.mono (s'.trans s2).le) own, rx, fun w3 M3 H3 sd3 σ3 s3 R3 rs3 hl3 ho3 q3 => ⟨wipe_back hs (by rw [hl3, wipe_length]) ho3, ?_⟩, q'⟩
    refine ⟨w3, M3, sd3, _, _, R3, rs3, fun w4 M4 H4 b s4 R4 q4 => ?_, lkX0, q3⟩
    have s34 := s2.trans (s3.trans s4)
    cases b with
    | false =>
      simp only [Bool.false_eq_true, if_false] at q4 ⊢
      obtain ⟨n1, n2⟩ := s34.new Da (by rw [hH]; simp) f1 f2
      exact ⟨w4, M4, acc, vs, s'.trans s34, R4, n1, n2, s34.keep _ _ hH nlt (.inl f2), ha.mono s34.le, q4⟩
    | true =>
      simp only [if_true] at q4 ⊢
      refine ⟨w4, M4, sd3, _, _, R4, rs3.mono s4.le, fun w5 M5 H5 d5 v5 s5 R5 r5 q5 => ?_, lkX0, q4⟩
      have s35 := s34.trans s5
      obtain ⟨n1, n2⟩ := s35.new Da (by rw [hH]; simp) f1 f2
      have h5 := s35.keep _ _ hH nlt (.inl f2)
      refine ⟨vs, h5, by rw [ha.length]; exact q5.1, w5, M5, acc ++ [d5], vs ++ [v5], ?_, ?_, n1, n2, upd_same, (ha.mono s35.le).append (.cons r5 .nil), q5.2⟩
      · have st := s'.trans s35
        refine ⟨st.le, fun a o e ht h => ?_, st.new, fun a e => upd_some (st.stay a e)⟩
        rw [upd_ne (ne_of_none e hD)]
        exact st.keep a o e ht h
      · have hC : KpC w5 H5 w5 (upd H5 Da (.lst (vs ++ [v5]))) := fun b q h1 h2 => ⟨h1, by rw [upd_ne fun z => by rw [z, h5] at h2; exact codeO_lst (Option.some.inj h2).symm]; exact h2⟩
        refine ⟨fun a o e => ?_, R5.len, R5.nd, fun p hp => ?_, fun k mo p h1 h2 => ?_, R5.tab.on hC (fun a ps h1 h2 h3 => ⟨h1, h2, by rw [upd_ne fun z => by rw [z, h5] at h3; cases h3]; exact h3⟩) (fun a ps z => z) fun b hb o' e => R5.tab.nc b hb o' (by rw [upd_ne (fun z => n2 (by rw [← z]; exact hb))] at e; exact e)⟩
        · rw [upd_ne (fun z => by rw [z, n1] at e; cases e)]; exact R5.sub _ _ e
        · rw [upd_ne (fun z => n2 (by rw [← z]; exact hp))]; exact R5.inH p hp
        · exact (R5.cell k mo p h1 h2).mono (.refl _) (fun z => z) (upd_ne (fun z => n2 (by rw [← z]; exact List.mem_of_getElem? h2))) hC
  · have e : i = ds.length := by omega
    subst e
    rw [List.drop_length] at q'
    obtain ⟨l1, q'⟩ := q'
    refine .inl ⟨(T.turn s' R' l1 ds.length).1 (Nat.le_refl _), ?_⟩
    cases m with
    | false =>
      rw [if_neg Bool.false_ne_true] at q'
      obtain ⟨R2, le⟩ := R'.adoptF hH nlt f1 f2
      refine lq1 _ M' H' (.lst acc) _ ⟨s'.le.trans le, s'.keep, fun a e h1 h2 => ?_, s'.stay⟩ R2 ⟨Da, vs, rfl, upd_same, ha.mono le⟩ q'
      obtain ⟨z1, z2⟩ := s'.new a e h1 h2
      exact ⟨by show upd w'.F Da _ a = none; rw [upd_ne (fun z => e (by rw [z]; exact hD))]; exact z1, z2⟩
    | true =>
      rw [if_pos rfl] at q'
      obtain ⟨R2, le⟩ := R'.adoptC hH f1 f2 ha
      refine lq1 _ _ H' (.ref M'.length) _ ⟨s'.le.trans le, s'.keep, fun a e h1 h2 => ?_, s'.stay⟩ R2 ⟨Da, rfl, by show (w'.r ++ [Da])[M'.length]? = some Da; rw [R'.len]; simp⟩ q'
      obtain ⟨z1, z2⟩ := s'.new a e h1 h2
      refine ⟨z1, fun z => ?_⟩
      rcases List.mem_append.mp z with z | z
      · exact z2 z
      · simp at z; exact e (by rw [z]; exact hD)
end
end DL
namespace DL
open PySem L2 PySem.Spec PyProof.Rows
theorem meth_eq {o : Expr} {m : Str} {apos pos : Pos} {args : List Expr} {env : Env} (hbase : attributeBase o m env (eval o env) = eval o env)
    (hform : methodCallForm (args.length + ([] : List Keyword).length) (backTo pos (starEach args env)) (backToKw pos (keywordEach [] env)) = true) (hline : (apos.endLine == pos.line) = true) :
    eval (.Call (.Attribute o m apos) args [] pos) env = (do
      let ov ← eval o env
      standAt apos.atName
      let (f, first) ← holding [ov] (getMethod ov m (plainOf o env))
      callWith pos f first (backTo pos (starEach args env)) (backToKw pos (keywordEach [] env))) := by
  rw [arm_eval_Call, hbase]
  simp only [mcall_line hform hline]
section
variable {X : Cx} {CX : CXT} {k : Nat} {f C : Addr} {fd : FuncData} {ps : List Str} {sp : Sp} {E : L2.St → XK} {x m : Str} {p pos apos : Pos} {e o : Expr} {es : List Expr} {ta : TE} {t : TA}
def tNil' : TA := fun _ H Q => Q [] H
theorem pe_call0S (F : FnOk X.prog X.w X.K X.mg X.base CX k f fd ps sp) (hr : Room k X.A) (hg : Gl X x) (hm : X.mg x = some (.ref f)) (hk : PySem.W.keepIn X.K (.ref f) = true) (hb : Binds X.K fd ps []) (hx : ∀ σ, PassesAt CX X σ (E σ))
    (hdb : (x == ("__debug__" : Str)) = false) : PE X (.Call (.Name x p) [] [] pos) (tCallS sp E tNil') := by
  refine ⟨fun pins s σ H Q I h => ?_⟩
  refine wpAny_Call_Name_kw (ld_glob I hg hm ?_ hdb)
  exact PySem.W.callWith_K0 I.kIn hk (run_fnS (us := []) F hr hb (hx σ) I .nil h)
def tMethO (C : Addr) (m : Str) (sp : Sp) (E : L2.St → XK) (ta : TE) (t : TA) : TE := fun σ H Q => ta σ H fun x H1 => ∃ a dx fs, x = .ref a ∧ H1 a = some (.ins C dx fs) ∧ fs.lookup m = none ∧ t σ H1 fun vs H2 => sp (x :: vs) H2 Q (E σ)
theorem pe_methO {pl : Sem Bool} (he : PE X o ta) (c : Cls X.K C) (hm : Meth X.K C m f) (F : FnOk X.prog X.w X.K X.mg X.base CX k f fd ps sp) (hr : Room k X.A) (hb : Binds X.K fd ps []) (hx : ∀ σ, PassesAt CX X σ (E σ)) (ha : PA X (e :: es) t)
    (hst : starEach (e :: es) X.env = (false, eval e X.env) :: starEach es X.env) (hpl : (backTo pos (starEach es X.env)).any (·.1) = false)
    (ht : eval (.Call (.Attribute o m apos) (e :: es) [] pos) X.env = (do
      let ov ← eval o X.env
      standAt apos.atName
      let (f, first) ← holding [ov] (getMethod ov m pl)
      callWith pos f first (backTo pos (starEach (e :: es) X.env)) (backToKw pos (keywordEach [] X.env)))) :
    PE X (.Call (.Attribute o m apos) (e :: es) [] pos) (tMethO C m sp E ta t) := by
  refine ⟨fun pins s σ H Q I h => ?_⟩
  refine PySem.W.methodCall_KW (pl := pl) (thn (he.run pins s σ H _ I h) fun u s1 ⟨x, H1, I1, rx, a, dx, fs, ex, ea, l, q⟩ => ?_) ht
  subst ex
  obtain rfl : u = Value.ref a := rx
  refine getmeth_ok I1 ea c hm l ?_
  refine PySem.W.callWith_K (first := [.ref a]) (h₀ := X.base) I.ok.mod.kin hm.kp (thn (ha.run pos pins s1 σ H1 _ I1 q) fun us s2 ⟨vs, H2, I2, r, q2⟩ => ⟨I2.kIn, ?_⟩) hst hpl
  exact run_fnS (us := .ref a :: us) (vs := .ref a :: vs) F hr hb (hx σ) I2 (.cons rfl r) q2
theorem pe_methO0 {pl : Sem Bool} (he : PE X o ta) (c : Cls X.K C) (hm : Meth X.K C m f) (F : FnOk X.prog X.w X.K X.mg X.base CX k f fd ps sp) (hr : Room k X.A) (hb : Binds X.K fd ps []) (hx : ∀ σ, PassesAt CX X σ (E σ))
    (ht : eval (.Call (.Attribute o m apos) [] [] pos) X.env = (do
      let ov ← eval o X.env
      standAt apos.atName
      let (f, first) ← holding [ov] (getMethod ov m pl)
      callWith pos f first (backTo pos (starEach [] X.env)) (backToKw pos (keywordEach [] X.env)))) :
    PE X (.Call (.Attribute o m apos) [] [] pos) (tMethO C m sp E ta tNil') := by
  refine ⟨fun pins s σ H Q I h => ?_⟩
  refine PySem.W.methodCall_KW (pl := pl) (thn (he.run pins s σ H _ I h) fun u s1 ⟨x, H1, I1, rx, a, dx, fs, ex, ea, l, q⟩ => ?_) ht
  subst ex
  obtain rfl : u = Value.ref a := rx
  refine getmeth_ok I1 ea c hm l ?_
  exact PySem.W.callWith_K0 (first := [.ref a]) I1.kIn hm.kp (run_fnS (us := [.ref a]) (vs := [.ref a]) F hr hb (hx σ) I1 (.cons rfl .nil) q)
theorem run_makeS {pins : List (Addr × Obj)} {σ : L2.St} {H : Hp} {s : Shared} {Q : VK} {us : List Value} {vs : List V} (M : Mk X.K C f) (F : FnOk X.prog X.w X.K X.mg X.base CX k f fd ps sp) (hr : Room (k + 1) X.A) (hb : Binds X.K fd ps [])
    (hx : PassesAt CX X σ (E σ)) (I : Inv X pins σ H s) (r : L2.Vals vs us)
    (h : ∀ x dx, H x = none → H dx = none → dx ≠ x → sp (.ref x :: vs) (upd (upd H dx (.own x)) x (.ins C dx [])) (fun v H2 => v = .non ∧ Q (.ref x) H2) (E σ)) :
    wpAny (model X.prog X.w) X.A (call (.ref C) us) (EP X pins σ Q) X.xe s := by
  have hq := h (s.heap.objs.size + 1) s.heap.objs.size (I.hok.fresh (Nat.le_succ _)) (I.hok.fresh (Nat.le_refl _)) (Nat.ne_of_lt (Nat.lt_succ_self _))
  have I2 := Inv.made (C := C) I
  have r2 : L2.Vals (V.ref (s.heap.objs.size + 1) :: vs) (Value.ref (s.heap.objs.size + 1) :: us) := .cons rfl r
  have hl : (Value.ref (s.heap.objs.size + 1) :: us).length = ps.length := by
    have e := r2.length
    rw [F.len _ _ _ _ hq] at e
    exact e.symm
  refine wpAny_call (make_map (f := f) I.kIn M.makes M.init (beq_iff_eq.mp M.fn) (codeAny_mono (F.run _ X.stack _ _ ⟨Value.ref (s.heap.objs.size + 1) :: us, []⟩ (Value.ref (s.heap.objs.size + 1) :: us) _ _ (E σ) (hr.make C us [])
    (I2.env0.make C us []) (by have z := hb _ (Value.ref (s.heap.objs.size + 1) :: us) I2.kIn (by rw [List.append_nil]; exact hl); rw [List.append_nil] at z; exact z) r2 hq) fun r s' hq' => ?_))
  cases r with
  | error e => exact hx pins _ _ e s' I2 hq'
  | ok fl =>
    cases fl with
    | ret u =>
      obtain ⟨v, H', I3, rv, ev, q3⟩ := I2.after hq'
      subst ev
      exact ⟨rv, ⟨V.ref (s.heap.objs.size + 1), H', I3, rfl, q3⟩⟩
    | next => exact False.elim hq'
    | brk => exact False.elim hq'
    | cont => exact False.elim hq'
def tMakeO (C : Addr) (sp : Sp) (E : L2.St → XK) (t : TA) : TE := fun σ H Q => t σ H fun vs H1 => ∀ x dx, H1 x = none → H1 dx = none → dx ≠ x → sp (.ref x :: vs) (upd (upd H1 dx (.own x)) x (.ins C dx [])) (fun v H2 => v = .non ∧ Q (.ref x) H2) (E σ)
theorem pe_makeO (M : Mk X.K C f) (F : FnOk X.prog X.w X.K X.mg X.base CX k f fd ps sp) (hr : Room (k + 1) X.A) (hg : Gl X x) (hm : X.mg x = some (.ref C)) (hb : Binds X.K fd ps []) (hx : ∀ σ, PassesAt CX X σ (E σ))
    (ha : PA X (e :: es) t) (hdb : (x == ("__debug__" : Str)) = false) (he : starEach (e :: es) X.env = (false, eval e X.env) :: starEach es X.env) (hpl : (backTo pos (starEach es X.env)).any (·.1) = false) :
    PE X (.Call (.Name x p) (e :: es) [] pos) (tMakeO C sp E t) := by
  refine ⟨fun pins s σ H Q I h => ?_⟩
  refine wpAny_Call_Name_kw (ld_glob I hg hm ?_ hdb)
  refine PySem.W.callWith_K (h₀ := X.base) I.ok.mod.kin M.kp (thn (ha.run pos pins s σ H _ I h) fun us s1 ⟨vs, H1, I1, r, q⟩ => ⟨I1.kIn, ?_⟩) he hpl
  exact run_makeS M F hr hb (hx σ) I1 r q
theorem pe_makeO0 (M : Mk X.K C f) (F : FnOk X.prog X.w X.K X.mg X.base CX k f fd ps sp) (hr : Room (k + 1) X.A) (hg : Gl X x) (hm : X.mg x = some (.ref C)) (hb : Binds X.K fd ps []) (hx : ∀ σ, PassesAt CX X σ (E σ))
    (hdb : (x == ("__debug__" : Str)) = false) : PE X (.Call (.Name x p) [] [] pos) (tMakeO C sp E tNil') := by
  refine ⟨fun pins s σ H Q I h => ?_⟩
  refine wpAny_Call_Name_kw (ld_glob I hg hm ?_ hdb)
  exact PySem.W.callWith_K0 I.kIn M.kp (run_makeS (us := []) M F hr hb (hx σ) I .nil h)
variable {n : Nat} {ks : List Str} {kws : List Keyword} {tk : TA} {g : List Value → List Value → List Value} {gV : List V → List V → List V}
def tCallKO (n m : Nat) (sp : Sp) (gV : List V → List V → List V) (E : L2.St → XK) (t tk : TA) : TE := fun σ H Q => t σ H fun vs H1 => tk σ H1 fun zs H2 => vs.length = n ∧ zs.length = m ∧ sp (gV vs zs) H2 Q (E σ)
theorem run_fnKO {pins : List (Addr × Obj)} {σ : L2.St} {H : Hp} {s : Shared} {Q : VK} {us ws : List Value} {vs zs : List V} (F : FnOk X.prog X.w X.K X.mg X.base CX k f fd ps sp) (hr : Room k X.A) (hb : KBn X.K fd ps n ks g gV) (hx : PassesAt CX X σ (E σ))
    (I : Inv X pins σ H s) (r : L2.Vals vs us) (rz : L2.Vals zs ws) (l1 : vs.length = n) (l2 : zs.length = ks.length) (h : sp (gV vs zs) H Q (E σ)) : wpAny (model X.prog X.w) X.A (call (.ref f) us (ks.zip ws)) (EP X pins σ Q) X.xe s := by
  have r2 := hb.rel r rz
  refine wpAny_call (codeAny_mono (F.run X.A X.stack s H ⟨us, ks.zip ws⟩ (g us ws) (gV vs zs) Q (E σ) hr I.env0 (hb.to s us ws I.kIn (r.length.symm.trans l1) (rz.length.symm.trans l2)) r2 h) fun r s' hq => ?_)
  cases r with
  | error e => exact hx pins H s e s' I hq
  | ok fl =>
    cases fl with
    | ret u => exact I.after hq
    | next => exact False.elim hq
    | brk => exact False.elim hq
    | cont => exact False.elim hq
theorem pe_callKO (F : FnOk X.prog X.w X.K X.mg X.base CX k f fd ps sp) (hr : Room k X.A) (hg : Gl X x) (hm : X.mg x = some (.ref f)) (hk : PySem.W.keepIn X.K (.ref f) = true) (hb : KBn X.K fd ps n ks g gV) (hx : ∀ σ, PassesAt CX X σ (E σ))
    (ha : PA X (e :: es) t) (hkw : PK X kws tk) (hall : (backToKw pos (keywordEach kws X.env)).all (·.1.isSome) = true) (hks : (backToKw pos (keywordEach kws X.env)).filterMap (·.1) = ks)
    (hdb : (x == ("__debug__" : Str)) = false) (he : starEach (e :: es) X.env = (false, eval e X.env) :: starEach es X.env)
    (hpl : ((backTo pos (starEach (e :: es) X.env)).any (·.1) || (backToKw pos (keywordEach kws X.env)).any (·.1.isNone)) = false) :
    PE X (.Call (.Name x p) (e :: es) kws pos) (tCallKO n ks.length sp gV E t tk) := by
  refine ⟨fun pins s σ H Q I h => ?_⟩
  refine wpAny_Call_Name_kw (ld_glob I hg hm ?_ hdb)
  refine PySem.W.callWith_KW (h₀ := X.base) I.ok.mod.kin hk hall (thn (ha.run pos pins s σ H _ I h) fun us s1 ⟨vs, H1, I1, r, q⟩ => ?_) hpl he
  refine thn (hkw.run pos pins s1 σ H1 _ I1 q) fun ws s2 ⟨zs, H2, I2, rz, l1, l2, q2⟩ => ⟨I2.kIn, ?_⟩
  rw [hks]
  exact run_fnKO F hr hb (hx σ) I2 r rz l1 l2 q2
def tMakeKO (C : Addr) (n m : Nat) (sp : Sp) (gV : List V → List V → List V) (E : L2.St → XK) (t tk : TA) : TE := fun σ H Q => t σ H fun vs H1 => tk σ H1 fun zs H2 => vs.length = n ∧ zs.length = m ∧ ∀ x dx, H2 x = none → H2 dx = none → dx ≠ x →
  sp (gV (.ref x :: vs) zs) (upd (upd H2 dx (.own x)) x (.ins C dx [])) (fun v H3 => v = .non ∧ Q (.ref x) H3) (E σ)
theorem run_makeKO {pins : List (Addr × Obj)} {σ : L2.St} {H : Hp} {s : Shared} {Q : VK} {us ws : List Value} {vs zs : List V} (M : Mk X.K C f) (F : FnOk X.prog X.w X.K X.mg X.base CX k f fd ps sp) (hr : Room (k + 1) X.A) (hb : KBn X.K fd ps (n + 1) ks g gV) (hx : PassesAt CX X σ (E σ))
    (I : Inv X pins σ H s) (r : L2.Vals vs us) (rz : L2.Vals zs ws) (l1 : vs.length = n) (l2 : zs.length = ks.length)
    (h : ∀ x dx, H x = none → H dx = none → dx ≠ x → sp (gV (.ref x :: vs) zs) (upd (upd H dx (.own x)) x (.ins C dx [])) (fun v H2 => v = .non ∧ Q (.ref x) H2) (E σ)) :
    wpAny (model X.prog X.w) X.A (call (.ref C) us (ks.zip ws)) (EP X pins σ Q) X.xe s := by
  have hq := h (s.heap.objs.size + 1) s.heap.objs.size (I.hok.fresh (Nat.le_succ _)) (I.hok.fresh (Nat.le_refl _)) (Nat.ne_of_lt (Nat.lt_succ_self _))
  have I2 := Inv.made (C := C) I
  have r1 : L2.Vals (V.ref (s.heap.objs.size + 1) :: vs) (Value.ref (s.heap.objs.size + 1) :: us) := .cons rfl r
  have r2 := hb.rel r1 rz
  have n1 : (Value.ref (s.heap.objs.size + 1) :: us).length = n + 1 := by
    rw [List.length_cons, ← r.length, l1]
  refine wpAny_call (make_map (f := f) I.kIn M.makes M.init (beq_iff_eq.mp M.fn) (codeAny_mono (F.run _ X.stack _ _ ⟨Value.ref (s.heap.objs.size + 1) :: us, ks.zip ws⟩ (g (Value.ref (s.heap.objs.size + 1) :: us) ws) _ _ (E σ) (hr.make C us (ks.zip ws))
    (I2.env0.make C us (ks.zip ws)) (hb.to _ (Value.ref (s.heap.objs.size + 1) :: us) ws I2.kIn n1 (rz.length.symm.trans l2)) r2 hq) fun r s' hq' => ?_))
  cases r with
  | error e => exact hx pins _ _ e s' I2 hq'
  | ok fl =>
    cases fl with
    | ret u =>
      obtain ⟨v, H', I3, rv, ev, q3⟩ := I2.after hq'
      subst ev
      exact ⟨rv, ⟨V.ref (s.heap.objs.size + 1), H', I3, rfl, q3⟩⟩
    | next => exact False.elim hq'
    | brk => exact False.elim hq'
    | cont => exact False.elim hq'
theorem pe_makeKO (M : Mk X.K C f) (F : FnOk X.prog X.w X.K X.mg X.base CX k f fd ps sp) (hr : Room (k + 1) X.A) (hg : Gl X x) (hm : X.mg x = some (.ref C)) (hb : KBn X.K fd ps (n + 1) ks g gV) (hx : ∀ σ, PassesAt CX X σ (E σ)) (ha : PA X (e :: es) t) (hkw : PK X kws tk)
    (hall : (backToKw pos (keywordEach kws X.env)).all (·.1.isSome) = true) (hks : (backToKw pos (keywordEach kws X.env)).filterMap (·.1) = ks) (hdb : (x == ("__debug__" : Str)) = false)
    (he : starEach (e :: es) X.env = (false, eval e X.env) :: starEach es X.env) (hpl : ((backTo pos (starEach (e :: es) X.env)).any (·.1) || (backToKw pos (keywordEach kws X.env)).any (·.1.isNone)) = false) :
    PE X (.Call (.Name x p) (e :: es) kws pos) (tMakeKO C n ks.length sp gV E t tk) := by
  refine ⟨fun pins s σ H Q I h => ?_⟩
  refine wpAny_Call_Name_kw (ld_glob I hg hm ?_ hdb)
  refine PySem.W.callWith_KW (h₀ := X.base) I.ok.mod.kin M.kp hall (thn (ha.run pos pins s σ H _ I h) fun us s1 ⟨vs, H1, I1, r, q⟩ => ?_) hpl he
  refine thn (hkw.run pos pins s1 σ H1 _ I1 q) fun ws s2 ⟨zs, H2, I2, rz, l1, l2, q2⟩ => ⟨I2.kIn, ?_⟩
  rw [hks]
  exact run_makeKO M F hr hb (hx σ) I2 r rz l1 l2 q2
theorem meth_eqK {o : Expr} {m : Str} {apos pos : Pos} {args : List Expr} {kws : List Keyword} {env : Env} (hbase : attributeBase o m env (eval o env) = eval o env)
    (hform : methodCallForm (args.length + kws.length) (backTo pos (starEach args env)) (backToKw pos (keywordEach kws env)) = true) (hline : (apos.endLine == pos.line) = true) :
    eval (.Call (.Attribute o m apos) args kws pos) env = (do
      let ov ← eval o env
      standAt apos.atName
      let (f, first) ← holding [ov] (getMethod ov m (plainOf o env))
      callWith pos f first (backTo pos (starEach args env)) (backToKw pos (keywordEach kws env))) := by
  rw [arm_eval_Call, hbase]
  simp only [mcall_line hform hline]
def tMethKO (C : Addr) (m : Str) (n j : Nat) (sp : Sp) (gV : List V → List V → List V) (E : L2.St → XK) (ta : TE) (t tk : TA) : TE := fun σ H Q => ta σ H fun x H1 => ∃ a dx fs, x = .ref a ∧ H1 a = some (.ins C dx fs) ∧ fs.lookup m = none ∧ t σ H1 fun vs H2 => tk σ H2 fun zs H3 => vs.length = n ∧ zs.length = j ∧ sp (gV (x :: vs) zs) H3 Q (E σ)
theorem pe_methKO {pl : Sem Bool} (he : PE X o ta) (c : Cls X.K C) (hm : Meth X.K C m f) (F : FnOk X.prog X.w X.K X.mg X.base CX k f fd ps sp) (hr : Room k X.A) (hb : KBn X.K fd ps (n + 1) ks g gV) (hx : ∀ σ, PassesAt CX X σ (E σ)) (ha : PA X (e :: es) t) (hkw : PK X kws tk)
    (hall : (backToKw pos (keywordEach kws X.env)).all (·.1.isSome) = true) (hks : (backToKw pos (keywordEach kws X.env)).filterMap (·.1) = ks)
    (hst : starEach (e :: es) X.env = (false, eval e X.env) :: starEach es X.env) (hpl : ((backTo pos (starEach (e :: es) X.env)).any (·.1) || (backToKw pos (keywordEach kws X.env)).any (·.1.isNone)) = false)
    (ht : eval (.Call (.Attribute o m apos) (e :: es) kws pos) X.env = (do
      let ov ← eval o X.env
      standAt apos.atName
      let (f, first) ← holding [ov] (getMethod ov m pl)
      callWith pos f first (backTo pos (starEach (e :: es) X.env)) (backToKw pos (keywordEach kws X.env)))) :
    PE X (.Call (.Attribute o m apos) (e :: es) kws pos) (tMethKO C m n ks.length sp gV E ta t tk) := by
  refine ⟨fun pins s σ H Q I h => ?_⟩
  refine PySem.W.methodCall_KW (pl := pl) (thn (he.run pins s σ H _ I h) fun u s1 ⟨x, H1, I1, rx, a, dx, fs, ex, ea, l, q⟩ => ?_) ht
  subst ex
  obtain rfl : u = Value.ref a := rx
  refine getmeth_ok I1 ea c hm l ?_
  refine PySem.W.callWith_KW (first := [.ref a]) (h₀ := X.base) I.ok.mod.kin hm.kp hall (thn (ha.run pos pins s1 σ H1 _ I1 q) fun us s2 ⟨vs, H2, I2, r, q2⟩ => ?_) hpl hst
  refine thn (hkw.run pos pins s2 σ H2 _ I2 q2) fun ws s3 ⟨zs, H3, I3, rz, l1, l2, q3⟩ => ⟨I3.kIn, ?_⟩
  rw [hks]
  exact run_fnKO (us := .ref a :: us) (vs := .ref a :: vs) F hr hb (hx σ) I3 (.cons rfl r) rz (by rw [List.length_cons, l1]) l2 q3
end
section
variable {P : Pm}
theorem relKs_any {κ : Type} [DecidableEq κ] {w : Wd} {k : κ} : ∀ {kvs : List (κ × D)} {us : List (κ × V)}, RelKs P w kvs us → (us.any fun kv => decide (kv.1 = k)) = (kvs.any fun kv => decide (kv.1 = k))
  | [], us, r => by
    have r : us = [] := r
    subst r; rfl
  | (j, d) :: kvs, us, ⟨v, us', e, h1, h2⟩ => by
    subst e
    rw [List.any_cons, List.any_cons, relKs_any h2]
theorem relKs_map {κ : Type} [DecidableEq κ] {w : Wd} {k : κ} {d : D} {v : V} (r : RelD P w d v) : ∀ {kvs : List (κ × D)} {us : List (κ × V)}, RelKs P w kvs us →
    RelKs P w (kvs.map fun kv => if kv.1 = k then (kv.1, d) else kv) (us.map fun kv => if kv.1 = k then (kv.1, v) else kv)
  | [], us, h => by
    have h : us = [] := h
    subst h; rfl
  | (j, d') :: kvs, us, ⟨v', us', e, h1, h2⟩ => by
    subst e
    rw [List.map_cons, List.map_cons]
    by_cases hj : j = k
    · simp only [hj, if_true]
      exact ⟨v, _, rfl, r, relKs_map r h2⟩
    · simp only [hj, if_false]
      exact ⟨v', _, rfl, h1, relKs_map r h2⟩
theorem relKs_snoc {κ : Type} {w : Wd} {k : κ} {d : D} {v : V} (r : RelD P w d v) : ∀ {kvs : List (κ × D)} {us : List (κ × V)}, RelKs P w kvs us → RelKs P w (kvs ++ [(k, d)]) (us ++ [(k, v)])
  | [], us, h => by
    have h : us = [] := h
    subst h; exact ⟨v, [], rfl, r, rfl⟩
  | (j, d') :: kvs, us, ⟨v', us', e, h1, h2⟩ => by
    subst e
    exact ⟨v', _, rfl, h1, relKs_snoc r h2⟩
theorem relKs_put {κ : Type} [DecidableEq κ] {w : Wd} {k : κ} {d : D} {v : V} {kvs : List (κ × D)} {us : List (κ × V)} (h : RelKs P w kvs us) (r : RelD P w d v) : RelKs P w (dctPut kvs k d) (putK us k v) := by
  unfold dctPut putK
  rw [relKs_any h]
  split
  · exact relKs_map r h
  · exact relKs_snoc r h
theorem relKs_lit {w : Wd} : ∀ {ks : List Str} {ds : List D} {vs : List V} {kvs : List (Option Key × D)} {us : List (Option Key × V)}, RelKs P w kvs us → RelDs P w ds vs → RelKs P w (dlitP ks ds kvs) (fPut (ks.zip vs) us)
  | [], ds, vs, kvs, us, h, r => by
    cases ds <;> exact h
  | k :: ks, [], vs, kvs, us, h, r => by
    have r : vs = [] := r
    subst r
    exact h
  | k :: ks, d :: ds, vs, kvs, us, h, r => by
    obtain ⟨v, vs', e, r1, r2⟩ := r
    subst e
    show RelKs P w (dlitP ks ds (dctPut kvs (some (.inr k)) d)) (fPut (ks.zip vs') (putK us (some (.inr k)) v))
    exact relKs_lit (relKs_put h r1) r2
end
theorem chkDs_len {C : Ctx} : ∀ (cs : CEs) {ks : List Str} {keys : List (Option Expr)} {vs : List Expr}, chkDs C ks cs keys vs = true → keys.length = ks.length ∧ vs.length = ks.length ∧ keys.all (·.isSome) = true
  | .nil, ks, keys, vs, h => by
    unfold chkDs at h
    split at h
    · exact ⟨rfl, rfl, rfl⟩
    · cases h
  | .cons c cs, ks, keys, vs, h => by
    unfold chkDs at h
    split at h
    · simp only [Bool.and_eq_true] at h
      obtain ⟨g1, g2, g3⟩ := chkDs_len cs h.2
      exact ⟨by rw [List.length_cons, List.length_cons, g1], by rw [List.length_cons, List.length_cons, g2], by rw [List.all_cons, g3]; rfl⟩
    · cases h
theorem relKs_getD {P : Pm} {κ : Type} [DecidableEq κ] {w : Wd} {k : κ} {z : D} {v : V} : ∀ {kvs : List (κ × D)} {us : List (κ × V)}, RelKs P w kvs us → RelD P w z v → RelD P w ((dctVal kvs k).getD z) ((valV us k).getD v)
  | [], us, h, r => by
    have h : us = [] := h
    subst h; exact r
  | (j, d) :: kvs, us, ⟨v', us', e, h1, h2⟩, r => by
    subst e
    by_cases hj : j = k
    · simp only [dctVal, valV, List.find?_cons, hj, decide_true]
      exact h1
    · have := relKs_getD (k := k) h2 r
      simp only [dctVal, valV, List.find?_cons, hj, decide_false] at this ⊢
      exact this
end DL
namespace DL
open PySem L2
structure SE (X : Cx) (P : Pm) (W : WX) (e : Expr) (r : RE × RT) : Prop where
  pe : PE X e (liE P W r.1)
  pt : PT X e (liT P W r.2)
  pw : ∀ op vs pos, e = .BoolOp op vs pos → PW X e (liT P W r.2)
def plainT : Expr → Bool
  | .UnaryOp .Not _ _ => false
  | .BoolOp .. => false
  | .IfExp .. => false
  | .Compare .. => false
  | _ => true
theorem relKs_no {P : Pm} {w : Wd} {f : Str} : ∀ {fs : List (Str × D)} {us : List (Str × V)}, RelKs P w fs us → (fs.map (·.1)).contains f = false → us.lookup f = none
  | [], us, h, _ => by
    have h : us = [] := h
    rw [h]; rfl
  | (k, d) :: r, _, ⟨v, us', e, h2, h3⟩, z => by
    subst e
    rw [List.map_cons, List.contains_cons, Bool.or_eq_false_iff] at z
    rw [List.lookup_cons, z.1]
    exact relKs_no h3 z.2
theorem zip_no {f : Str} : ∀ {ns : List Str} {vs : List V}, ns.contains f = false → (ns.zip vs).lookup f = none
  | [], _, _ => rfl
  | n :: ns, [], _ => rfl
  | n :: ns, v :: vs, z => by
    rw [List.contains_cons, Bool.or_eq_false_iff] at z
    rw [List.zip_cons_cons, List.lookup_cons, z.1]
    exact zip_no z.2
theorem EnvOk.blk {X : Cx} {P : Pm} {C : Ctx} {Φ : Nat → SpD} {κ : Nat → D} (O : EnvOk X P C Φ κ) (hot : C.X.hot = false) (s : Shared) (H : Hp) (scope : Scope) (A : Addr) (cl : List (Str × Addr)) (fp : List Addr) :
    EnvOk (X.blk s H scope (compEnvC scope cl A X.env) fp) P (C.blk scope) Φ κ where
  K := O.K
  pg := O.pg
  wl := O.wl
  calm := O.calm
  N := O.N
  nd := O.nd
  sc := by
    show relS scope X.env.scope = relS scope C.sc
    rw [O.sc]
  fn := fun x h => h
  hu := O.hu
  fun_ := O.fun_
  cst := O.cst
  blt := O.blt
  fl := O.fl
  mkr := O.mkr
  mt := O.mt
  kf := O.kf
  km := O.km
  kt := O.kt
  xs := O.xs
  xr := O.xr
  xi := O.xi
  xf := O.xf
  kd := O.kd
  hx := fun h => by
    have h : C.X.hot = true := h
    rw [hot] at h; cases h
  nst := fun n h => by cases h
theorem capsD_at {P : Pm} {w : Wd} {sd : Std} {σ : L2.St} (rs : RelSt P w sd σ) : ∀ {js : List Nat} {cs : List D}, capsD sd js = some cs → ∃ cvs : List V, js.map (NdefX.slotAt σ) = cvs.map some ∧ RelDs P w cs cvs
  | [], _, h => by cases h; exact ⟨[], rfl, rfl⟩
  | j :: js, cs, h => by
    unfold capsD at h
    split at h
    · rename_i d ds hd hds
      cases h
      obtain ⟨v, hv, r⟩ := rs.2 j d hd
      obtain ⟨cvs, h1, h2⟩ := capsD_at rs hds
      exact ⟨v :: cvs, by rw [List.map_cons, List.map_cons, h1, NdefX.slotAt_of hv], v, cvs, rfl, r, h2⟩
    · cases h
open PySem.Spec PyProof.Rows NdefX in
/-- a call of a function made here -/
theorem pe_callD {X : Cx} {i : Nat} {x : Str} {t : TA} {r : Addr → L2.St → List V → Hp → VK → Prop} {e : Expr} {es : List Expr} {p pos : Pos}
    (hr : ∀ (pins : List (Addr × Obj)) (s : Shared) (σ : L2.St) (H : Hp) (us : List Value) (vs : List V) (Q : VK) (f : Addr), Inv X pins σ H s → L2.Vals vs us → r f σ vs H Q → wpAny (model X.prog X.w) X.A (call (.ref f) us) (EP X pins σ Q) X.xe s)
    (hN : X.N[i]? = some x) (hv : Vis X.env.scope x) (ha : PA X (e :: es) t) (hd : (x == ("__debug__" : Str)) = false) (hcd : (x == ("__classdict__" : Str)) = false)
    (he : starEach (e :: es) X.env = (false, eval e X.env) :: starEach es X.env) (hpl : (backTo pos (starEach es X.env)).any (·.1) = false) :
    PE X (.Call (.Name x p) (e :: es) [] pos) (fun σ H Q => ∃ f F, σ[i]? = some (some (.ref f)) ∧ H f = some (FnO f F) ∧ t σ H fun vs H1 => (∃ F', H1 f = some (FnO f F')) ∧ r f σ vs H1 Q) := by
  refine ⟨fun pins s σ H Q I h => ?_⟩
  obtain ⟨f, F, hs, hf, ht⟩ := h
  refine wpAny_Call_Name_kw (thn ((pe_var (pos := p) hN hv hd hcd).run pins s σ H (fun v H1 => v = .ref f ∧ H1 = H) I ⟨.ref f, hs, rfl, rfl⟩) fun u s1 ⟨v, H1, I1, r1, q1⟩ => ?_)
  obtain ⟨ev, eH⟩ := q1
  subst ev
  rw [eH] at I1
  obtain rfl : u = Value.ref f := r1
  refine PySem.W.callWith_F (first := []) (fnAt_of I1 hf) (thn (ha.run pos pins s1 σ H _ I1 ht) fun us s2 ⟨vs, H2, I2, rv, ⟨F', h1⟩, q⟩ => ⟨fnAt_of I2 h1, ?_⟩) he hpl
  show wpAny _ _ (call (.ref f) us) _ _ _
  exact hr _ _ _ _ _ _ _ _ I2 rv q
section
variable {X : Cx} {P : Pm} {C : Ctx} {Φ : Nat → SpD} {κ : Nat → D} {W : WX}
theorem SE.val {e : Expr} {t : RE} (O : EnvOk X P C Φ κ) (h : PE X e (liE P W t)) (hp : plainT e = true) : SE X P W e (valT t) :=
  ⟨h, pt_of O h (by
    intro whole
    cases e <;> first
      | rfl
      | (exfalso; simp [plainT] at hp; done)
      | (rename_i op _ _; cases op <;> first | rfl | (exfalso; simp [plainT] at hp; done))), fun op vs pos q => by rw [q] at hp; exact absurd hp (by simp [plainT])⟩
theorem SE.tst {e : Expr} {t : RT} (h : PE X e (liE P W fun E σ M Q => t E σ M fun k M1 => Q (.bl k) M1)) (h2 : PT X e (liT P W t)) (hp : ∀ op vs pos, e ≠ .BoolOp op vs pos) : SE X P W e (tstT t) := ⟨h, h2, fun op vs pos q => absurd q (hp op vs pos)⟩
theorem liE_c {d : D} {v : V} (r : ∀ w, RelD P w d v) : ∀ σ H Q, liE P W (fun _ _ M Q => Q d M) σ H Q → tC v σ H Q := fun σ H Q q => by
  obtain ⟨w, M, sd, Qd, Ed, R, rs, l, lx, q⟩ := q
  exact l.same R (r w) q
/-- (fun k => Q (.bl k)) below -/
theorem lkT_of {w : Wd} {H : Hp} {Qd : QE} {Q : VK} (l : Lk P w H Qd Q) : LkT P w H (fun k M => Qd (.bl k) M) fun k H => Q (.bl k) H := fun w' M' H' b s R q => l w' M' H' (.bl b) _ s R rfl q
theorem LkT.on {w w' : Wd} {H H' : Hp} {Qd : Bool → Md → Prop} {Q : Bool → Hp → Prop} (l : LkT P w H Qd Q) (s : Step w H w' H') : LkT P w' H' Qd Q := fun w2 M2 H2 b s2 R q => l w2 M2 H2 b (s.trans s2) R q
theorem LkA.on {w w' : Wd} {H H' : Hp} {Qd : List D → Md → Prop} {Q : List V → Hp → Prop} (l : LkA P w H Qd Q) (s : Step w H w' H') : LkA P w' H' Qd Q := fun w2 M2 H2 b c s2 R r q => l w2 M2 H2 b c (s.trans s2) R r q
theorem LkO.on {w w' : Wd} {H H' : Hp} {Qd : Option Int → Md → Prop} {Q : Option Int → Hp → Prop} (l : LkO P w H Qd Q) (s : Step w H w' H') : LkO P w' H' Qd Q := fun w2 M2 H2 b s2 R q => l w2 M2 H2 b (s.trans s2) R q
theorem LkI.on {K : PySem.W.Frag} {w w' : Wd} {H H' : Hp} {Qd : List D → Option Nat → Md → Prop} {Q : It → Hp → Prop} (l : LkI P K w H Qd Q) (s : Step w H w' H') : LkI P K w' H' Qd Q := fun w2 M2 H2 a b c s2 R r q => l w2 M2 H2 a b c (s.trans s2) R r q
/-- built-ins by name -/
theorem sBt (O : EnvOk X P C Φ κ) {b : Bt} {x : Str} {p pos : Pos} {y : Expr} {ys : List Expr} {t : RA} (hb : ∀ T, b ≠ .isi T) (hx0 : okBltH C b x = true) (hy : plainE y = true) (hpl : (backTo pos (starEach ys X.env)).any (·.1) = false)
    (ha : PA X (y :: ys) (liA P W t)) : PE X (.Call (.Name x p) (y :: ys) [] pos) (liE P W fun E σ M Q => t E σ M fun ds M1 => btD b ds M1 Q) := by
  unfold okBltH at hx0
  rw [Bool.and_eq_true, Bool.or_eq_true, Bool.not_eq_true'] at hx0
  obtain ⟨hx, hot⟩ := hx0
  obtain ⟨hn, hg, hd, hm, _⟩ := blt_of O hx
  have cm : coolB b = false → X.calm = true := fun z => O.calm (by rcases hot with q | q; (rw [z] at q; cases q); exact q)
  have fin : ∀ {r : List V → Hp → VK → Prop}, (∀ xs H Q, liOA P (btD b) xs H Q → r xs H Q) → ∀ σ H Q, liE P W (fun E σ M Q => t E σ M fun ds M1 => btD b ds M1 Q) σ H Q → tCB r (liA P W t) σ H Q := fun {r} hr σ H Q q => by
    obtain ⟨w, M, sd, Qd, Ed, R, rs, l, lx, q⟩ := q
    exact ⟨w, M, sd, _, Ed, R, rs, fun w' M' H' ds vs s R' r' q => hr _ _ _ ⟨w', M', ds, Qd, R', r', l.on s, q⟩, lx, q⟩
  subst hn
  have st := star_of (es := ys) (env := X.env) hy
  cases b with
  | isi T => exact absurd rfl (hb T)
  | len => exact peI (pe_callB (bt_len O.K) hg hm (by show bootBuiltins "len" = _; exact PySem.boot_len) ha (by decide) hd st hpl) (fin fun _ _ _ h => h)
  | list => exact peI (pe_callTy (bt_list O.K false) hg hm (by show bootBuiltins "list" = _; decide +kernel) ha (by decide) hd st hpl) (fin fun _ _ _ h => h)
  | listM => exact peI (pe_callTy (bt_list O.K true) hg hm (by show bootBuiltins "list" = _; decide +kernel) ha (by decide) hd st hpl) (fin fun _ _ _ h => h)
  | tuple => exact peI (pe_callTy (bt_tuple O.K) hg hm (by show bootBuiltins "tuple" = _; decide +kernel) ha (by decide) hd st hpl) (fin fun _ _ _ h => h)
  | max2 => exact peI (pe_callB (bt_mm (cm rfl) true) hg hm (by show bootBuiltins "max" = _; decide +kernel) ha (by decide) hd st hpl) (fin fun _ _ _ h => h)
  | min2 => exact peI (pe_callB (bt_mm (cm rfl) false) hg hm (by show bootBuiltins "min" = _; decide +kernel) ha (by decide) hd st hpl) (fin fun _ _ _ h => h)
  | int => exact peI (pe_callTy bt_int hg hm (by show bootBuiltins "int" = _; decide +kernel) ha (by decide) hd st hpl) (fin fun _ _ _ h => h)
  | sorted => exact peI (pe_callB (bt_sorted O.K O.hu false) hg hm (by show bootBuiltins "sorted" = _; decide +kernel) ha (by decide) hd st hpl) (fin fun _ _ _ h => h)
  | sortedM => exact peI (pe_callB (bt_sorted O.K O.hu true) hg hm (by show bootBuiltins "sorted" = _; decide +kernel) ha (by decide) hd st hpl) (fin fun _ _ _ h => h)
  | sortedD => exact peI (pe_callB (bt_sortedD O.K O.pg O.wl O.hu (cm rfl)) hg hm (by show bootBuiltins "sorted" = _; decide +kernel) ha (by decide) hd st hpl) (fin fun _ _ _ h => h)
  | sum => exact peI (pe_callB (bt_sum O.K (cm rfl)) hg hm (by show bootBuiltins "sum" = _; decide +kernel) ha (by decide) hd st hpl) (fin fun _ _ _ h => h)
  | ord => exact peI (pe_callB bt_ord hg hm (by show bootBuiltins "ord" = _; decide +kernel) ha (by decide) hd st hpl) (fin fun _ _ _ h => h)
  | str => exact peI (pe_callTy bt_str hg hm (by show bootBuiltins "str" = _; decide +kernel) ha (by decide) hd st hpl) (fin fun _ _ _ h => h)
  | any => exact peI (pe_callB (bt_any O.K (cm rfl)) hg hm (by show bootBuiltins "any" = _; decide +kernel) ha (by decide) hd st hpl) (fin fun _ _ _ h => h)
  | all => exact peI (pe_callB (bt_all O.K (cm rfl)) hg hm (by show bootBuiltins "all" = _; decide +kernel) ha (by decide) hd st hpl) (fin fun _ _ _ h => h)
theorem obj_look {c g : Str} {w1 : Wd} {M1 : Md} {H1 : Hp} {d : D} {v : V} (R1 : RepM P w1 M1 H1) (r1 : RelD P w1 d v) (z : objD c g d M1) : ∃ a dx fs, v = .ref a ∧ H1 a = some (.ins (P.cls c) dx fs) ∧ fs.lookup g = none := by
  cases d with
  | ref k =>
    obtain ⟨p, e1, hp⟩ := r1
    subst e1
    unfold objD at z
    dsimp only at z
    cases hM : M1[k]? with
    | none => rw [hM] at z; exact z.elim
    | some mo =>
      rw [hM] at z
      cases mo with
      | ins c' us =>
        obtain ⟨q1, z⟩ := z
        subst q1
        obtain ⟨hF, dx, us, e2, hs⟩ := R1.cell k _ p hM hp
        exact ⟨p, dx, us, rfl, e2, relKs_no hs z⟩
      | _ => exact z.elim
  | obj c' ns ds =>
    obtain ⟨p, dx, vs, e1, hp, hl, hs⟩ := r1
    obtain ⟨q1, z⟩ := z
    subst q1; subst e1
    exact ⟨p, dx, ns.zip vs, rfl, R1.sub _ _ hp, zip_no z⟩
  | _ => exact z.elim
theorem plains {env : Env} {pos : Pos} : ∀ {cs : CEs} {es : List Expr}, chkEs C cs es = true → (backTo pos (starEach es env)).any (·.1) = false
  | .nil, [], _ => rfl
  | .nil, _ :: _, h => by simp [chkEs] at h
  | .cons _ _, [], h => by simp [chkEs] at h
  | .cons c cs, e :: es, h => by
    simp only [chkEs, Bool.and_eq_true] at h
    rw [star_of h.1.1]
    show (false || (backTo pos (starEach es env)).any (·.1)) = false
    rw [plains h.2]; rfl
theorem RelDs.scs {w : Wd} : ∀ {df : List Sc}, RelDs P w (df.map Sc.d) (df.map Sc.v)
  | [] => rfl
  | a :: df => ⟨a.v, _, rfl, by cases a <;> rfl, RelDs.scs⟩
/-- keywords by name, what they show -/
theorem chkKs_at {env : Env} {pos : Pos} {ks : List Str} : ∀ {zs : CEs} {ks : List Str} {kws : List Keyword}, chkKs C ks zs kws = true →
    (backToKw pos (keywordEach kws env)).all (·.1.isSome) = true ∧ (backToKw pos (keywordEach kws env)).filterMap (·.1) = ks ∧ (backToKw pos (keywordEach kws env)).any (·.1.isNone) = false
  | .nil, ks, kws, h => by
    unfold chkKs at h
    split at h
    · exact ⟨rfl, rfl, rfl⟩
    · cases h
  | .cons z zs, ks, kws, h => by
    unfold chkKs at h
    split at h
    · simp only [Bool.and_eq_true, beq_iff_eq] at h
      obtain ⟨⟨h1, h2⟩, h3⟩ := h
      obtain ⟨a, b, c⟩ := chkKs_at (env := env) (pos := pos) (ks := ks) h3
      refine ⟨?_, ?_, ?_⟩
      · show (true && (backToKw pos (keywordEach _ env)).all (·.1.isSome)) = true
        rw [a]; rfl
      · show _ :: (backToKw pos (keywordEach _ env)).filterMap (·.1) = _
        rw [b, h1]
      · show (false || (backToKw pos (keywordEach _ env)).any (·.1.isNone)) = false
        rw [c]; rfl
    · cases h
theorem kwform {ys : List Expr} {y : Expr} {kws : List Keyword} {env : Env} {pos : Pos} (h1 : (backTo pos (starEach (y :: ys) env)).any (·.1) = false) (h2 : (backToKw pos (keywordEach kws env)).all (·.1.isSome) = true) (h3 : ys.length + kws.length < 20) :
    methodCallForm ((y :: ys).length + kws.length) (backTo pos (starEach (y :: ys) env)) (backToKw pos (keywordEach kws env)) = true := by
  have e1 : (backTo pos (starEach (y :: ys) env)).all (fun x => !x.1) = true := by
    rw [List.all_eq_true]
    intro z hz
    have := List.any_eq_false.mp h1 z hz
    simpa using this
  unfold methodCallForm
  rw [e1, h2, Bool.true_and, Bool.true_and, decide_eq_true_eq, List.length_cons]
  split <;> omega
/-- a comprehension, from its parts -/
theorem sComp {m : Bool} {elt : CE} {t : Tg} {it : CI} {ifs : CO} {own : List Nat} {x tg iter : Expr} {fs : List Expr} {scope : Scope} {pos : Pos} (O : EnvOk X P C Φ κ) (tk : Takes X W)
    (h0 : (!C.X.hot && blkC C.N C.sc scope (own.filterMap fun i => (C.N[i]?).map fun n => (n, i))) = true) (h2 : (own.all fun i => decide (i < C.N.length)) = true) (h3 : (tgIdx t).all (fun i => own.contains i) = true) (h4 : plainE iter = true)
    (hg : ∀ (s : Shared) (H : Hp) (A : Addr) (cl : List (Str × Addr)) (fp : List Addr), PG (X.blk s H scope (compEnvC scope cl A X.env) fp) tg (liGC P (asgT t) (tgIdx t)))
    (hi : PI X tg iter (liI P X.K W (rdi Φ κ it)))
    (he : ∀ (s : Shared) (H : Hp) (A : Addr) (cl : List (Str × Addr)) (fp : List Addr), PE (X.blk s H scope (compEnvC scope cl A X.env) fp) x (liE P W0 (rd Φ κ elt).1))
    (ht : ∀ (s : Shared) (H : Hp) (A : Addr) (cl : List (Str × Addr)) (fp : List Addr), PTs (X.blk s H scope (compEnvC scope cl A X.env) fp) fs (liT P W0 (rdt Φ κ ifs))) :
    PE X (.ListComp x [⟨tg, iter, fs, 0⟩] scope pos) (liE P W (rd Φ κ (.comp m elt t it ifs own)).1) := by
  rw [Bool.and_eq_true, Bool.not_eq_true'] at h0
  obtain ⟨cm, h1⟩ := h0
  have e : (own.filterMap fun i => (C.N[i]?).map fun n => (n, i)).map (·.2) = own := by
    clear h1 h3
    induction own with
    | nil => rfl
    | cons i is ih =>
      rw [List.all_cons, Bool.and_eq_true, decide_eq_true_eq] at h2
      rw [List.filterMap_cons, List.getElem?_eq_getElem h2.1]
      simp only [Option.map_some, List.map_cons]
      rw [ih h2.2]
  refine peI (pe_lc (own := own.filterMap fun i => (C.N[i]?).map fun n => (n, i)) (O.calm cm) (by rw [O.N]; exact O.nd) hi (blkOk_by (by rw [O.N, O.sc]; exact h1)) hg ht he (folded_of h4)) fun σ H Q q => ?_
  rw [e]
  exact comp_lift (fun j hj => List.elem_iff.mp (List.all_eq_true.mp h3 j hj)) σ H Q q
theorem chkE_blt {C : Ctx} {b : Bt} {es : CEs} {e : Expr} (hb : ∀ T, b ≠ .isi T) : chkE C (.blt b es) e = (match e with
    | .Call (.Name x _) (y :: ys) [] _ => okBltH C b x && chkEs C es (y :: ys)
    | _ => false) := by
  cases b <;> first
    | rfl
    | (unfold chkE; rfl)
    | (exfalso; exact hb _ rfl)
theorem relDs_rg {P : Pm} {w : Wd} (a b : Int) : RelDs P w (rngD a b) (rgV a b) := by
  unfold rngD rgV
  generalize List.range (b - a).toNat = xs
  induction xs with
  | nil => exact rfl
  | cons x xs ih => exact ⟨_, _, rfl, rfl, ih⟩
/-- an object of the heap that nothing here names -/
theorem RepM.other {P : Pm} {w : Wd} {M : Md} {H : Hp} {p : Addr} (R : RepM P w M H) (h : H p = none) (o : HO) : RepM P w M (upd H p o) ∧ Step w H w (upd H p o) := by
  have hC : KpC w H w (upd H p o) := fun b q h1 h2 => ⟨h1, by rw [upd_ne fun z => by rw [z, h] at h2; cases h2]; exact h2⟩
  refine ⟨⟨fun a u e => ?_, R.len, R.nd, fun q hq => ?_, fun k m q hm hq => ?_, R.tab.on hC (fun a ps h1 h2 h3 => ⟨h1, h2, by rw [upd_ne fun z => by rw [z, h] at h3; cases h3]; exact h3⟩) (fun a ps z => z) fun b hb o' e => R.tab.nc b hb o' (by rw [upd_ne (fun z => R.inH b hb (by rw [z]; exact h))] at e; exact e)⟩, .refl _, fun a u e _ _ => ?_, fun a _ h1 h2 => ⟨h1, h2⟩, fun a e => upd_some e⟩
  · rw [upd_ne (ne_of_none (R.sub _ _ e) h)]; exact R.sub _ _ e
  · rw [upd_ne (fun z => R.inH q hq (by rw [z]; exact h))]; exact R.inH q hq
  · exact (R.cell k m q hm hq).mono (.refl _) (fun z => z) (upd_ne (fun z => R.inH q (List.mem_of_getElem? hq) (by rw [z]; exact h))) hC
  · rw [upd_ne (ne_of_none e h)]; exact e
theorem relKs_look {P : Pm} {w : Wd} {f : Str} : ∀ {fs : List (Str × D)} {us : List (Str × V)} {d : D}, RelKs P w fs us → fs.lookup f = some d → ∃ v, us.lookup f = some v ∧ RelD P w d v
  | [], _, _, _, h => by cases h
  | (g, x) :: fs, us, d, r, h => by
    obtain ⟨v, us', e, h2, h3⟩ := r
    subst e
    rw [List.lookup_cons] at h
    rw [List.lookup_cons]
    cases hb : f == g with
    | true => rw [hb] at h; cases h; exact ⟨v, rfl, h2⟩
    | false => rw [hb] at h; exact relKs_look h3 h
theorem relDs_look {P : Pm} {w : Wd} {f : Str} : ∀ {ns : List Str} {ds : List D} {vs : List V} {d : D}, ns.length = ds.length → RelDs P w ds vs → (ns.zip ds).lookup f = some d → ∃ v, (ns.zip vs).lookup f = some v ∧ RelD P w d v
  | [], _, _, _, _, _, h => by cases h
  | n :: ns, [], _, _, hl, _, _ => by cases hl
  | n :: ns, x :: ds, vs, d, hl, r, h => by
    obtain ⟨v, us', e, h2, h3⟩ := r
    subst e
    rw [List.zip_cons_cons, List.lookup_cons] at h
    rw [List.zip_cons_cons, List.lookup_cons]
    cases hb : f == n with
    | true => rw [hb] at h; cases h; exact ⟨v, rfl, h2⟩
    | false => rw [hb] at h; exact relDs_look (by simpa using hl) h3 h
theorem relKs_putF {P : Pm} {w : Wd} {f : Str} {d : D} {v : V} (rv : RelD P w d v) : ∀ {fs : List (Str × D)} {us : List (Str × V)}, RelKs P w fs us → RelKs P w (putFD f d fs) (putF f v us)
  | [], us, r => by
    have r : us = [] := r
    subst r
    exact ⟨v, [], rfl, rv, rfl⟩
  | (g, x) :: fs, us, r => by
    obtain ⟨y, us', e, h2, h3⟩ := r
    subst e
    unfold putFD putF
    by_cases h : g = f
    · rw [if_pos h, if_pos h]; exact ⟨v, us', rfl, rv, h3⟩
    · rw [if_neg h, if_neg h]; exact ⟨y, _, rfl, h2, relKs_putF rv h3⟩
theorem passNo {X : Cx} : Passes (L2.CX X.prog X.w) X fun _ _ _ => False := fun _ _ _ _ _ _ _ h => by
  obtain ⟨_, _, _, _, _, _, _, _, _, _, _, _, q⟩ := h
  exact q.elim
theorem make_fin {n : Nat} {c : Str} {m : Bool} {w : Wd} {H : Hp} {Q : VK} {Qd : QE} {Ed : EX} {E' : XK} {w1 : Wd} {M1 : Md} {H1 : Hp} {ds : List D} {vs : List V} (l : Lk P w H Qd Q) (lx : LkX P w H Ed E') (s1 : Step w H w1 H1) (R1 : RepM P w1 M1 H1) (r : RelDs P w1 ds vs)
    (q : Φ n (.ref M1.length :: ds) (M1 ++ [.ins c []]) (fun d M2 => d = .non ∧ if m = true then Qd (.ref M1.length) M2 else ∃ fs, M2 = M1 ++ [.ins c fs] ∧ RLtM M1.length (.ins c fs) ∧ Qd (.obj c (fs.map (·.1)) (fs.map (·.2))) M1) Ed) :
    ∀ x dx, H1 x = none → H1 dx = none → dx ≠ x → liSp P (Φ n) (.ref x :: vs) (upd (upd H1 dx (.own x)) x (.ins (P.cls c) dx [])) (fun v H2 => v = .non ∧ Q (.ref x) H2) E' := by
  intro xa dx hx hdx hne
  obtain ⟨R2, s2⟩ := R1.other hdx (.own xa)
  have hx2 : upd H1 dx (HO.own xa) xa = none := by rw [upd_ne (fun z => hne z.symm)]; exact hx
  obtain ⟨R3, s3⟩ := R2.newC hx2 (.ins (P.cls c) dx []) (.ins c []) .ins ⟨R2.Fnone hx2, dx, [], upd_same, rfl⟩
  have hself : RelD P { w1 with r := w1.r ++ [xa] } (.ref M1.length) (.ref xa) := ⟨xa, rfl, by show (w1.r ++ [xa])[M1.length]? = some xa; rw [R1.len]; simp⟩
  have le13 := s2.le.trans s3.le
  refine ⟨_, _, .ref M1.length :: ds, _, Ed, R3, ⟨.ref xa, vs, rfl, hself, r.mono le13⟩, fun w4 M4 H4 d v s4 R4 r4 q4 => ?_, lx.on ((s1.trans s2).trans s3), q⟩
  obtain ⟨q5, q6⟩ := q4
  subst q5
  refine ⟨r4, ?_⟩
  cases m with
  | true =>
    rw [if_pos rfl] at q6
    exact l w4 M4 H4 _ _ (((s1.trans s2).trans s3).trans s4) R4 (hself.mono s4.le) q6
  | false =>
    rw [if_neg Bool.false_ne_true] at q6
    obtain ⟨fs, e4, hlt, q6⟩ := q6
    subst e4
    obtain ⟨p', ep, hp'⟩ := hself.mono s4.le
    cases ep
    obtain ⟨w5, er, R5, s5, r5⟩ := R4.settleI (k := M1.length) (c := c) (fs := fs) (by simp) hp'
    have e5 : (M1 ++ [MO.ins c fs]).set M1.length .dead = M1 ++ [.dead] := by
      rw [List.set_append_right _ _ (Nat.le_refl _), Nat.sub_self]; rfl
    rw [e5] at R5
    have st := ((s2.trans s3).trans s4).trans s5
    have e6 : (M1 ++ [MO.dead]).take M1.length = M1 := by simp
    have R6 := R5.letgo (n := M1.length) (by simp) (by rw [e6]; exact R1.ok)
    rw [e6] at R6
    refine l _ M1 H4 _ _ (s1.trans (st.letgo (n := M1.length) (by rw [R1.len]; exact Nat.le_refl _))) R6 (r5.cut ?_) q6
    show RLts M1.length (fs.map (·.2))
    rw [RLts_iff]
    intro d hd
    obtain ⟨x, hx, rfl⟩ := List.mem_map.mp hd
    exact hlt x hx
/-- what stands of a held exception -/
theorem held_at {a Da : Addr} {oe : Obj} {od : Option Addr} {pins : List (Addr × Obj)} {σ : L2.St} {H : Hp} {st : Shared} (I : Inv X pins σ H st) (hp : (a, oe) ∈ X.pn) (hz : Zc (.ref Da) od oe) (hf : ∃ vs, oe.data = .fields vs)
    (hd : ∀ d, od = some d → ∃ us, H d = some (.xd us)) : ∃ odo : Option Obj, PySem.W.InstAt st.heap a oe Da odo ∧ ∀ d us, od = some d → H d = some (.xd us) → ∃ o2, odo = some o2 ∧ ∃ mA : Str → Option Value, (∀ f, PySem.W.lookIn f o2 = some (mA f)) ∧ ∀ f, RelO (us.lookup f) (mA f) := by
  obtain ⟨hget, _⟩ := I.pin (a, oe) (List.mem_append.mpr (.inl hp))
  obtain ⟨vs, hv⟩ := hf
  have hnc : PySem.W.notCls oe = true := by
    unfold PySem.W.notCls
    rw [hv] <;> rfl
  cases od with
  | none =>
    refine ⟨none, ⟨hget, hz.1, hnc, ?_⟩, fun d us z => by cases z⟩
    rw [hz.2]; trivial
  | some d =>
    obtain ⟨us, hu⟩ := hd d rfl
    have ok : ObjOk X.prog X.w H st.heap d (.xd us) := I.hok d _ hu
    obtain ⟨mA, n1, rel⟩ := ok
    obtain ⟨o2, ho, hl⟩ := lookIn_ns n1
    refine ⟨some o2, ⟨hget, hz.1, hnc, ?_⟩, fun d' us' z hu' => ?_⟩
    · rw [hz.2]; exact ho
    · cases z
      rw [hu] at hu'
      cases hu'
      exact ⟨o2, rfl, mA, hl, rel⟩
def rIsX (K : PySem.W.Frag) (Da a : Addr) (od : Option Addr) : List V → Hp → VK → Prop := fun xs H Q => ∃ (c : V) (cv : Value) (b : Bool), xs = [.ref a, c] ∧ (∀ u, RelV c u → u = cv) ∧ (∀ d, od = some d → ∃ us, H d = some (.xd us)) ∧ PySem.W.kitOne K (.ref Da) cv = some b ∧ Q (.bl b) H
theorem call_isX {a Da : Addr} {oe : Obj} {od : Option Addr} (hp : (a, oe) ∈ X.pn) (N : ExcN X.K Da) (hz : Zc (.ref Da) od oe) (hf : ∃ vs, oe.data = .fields vs) : CallR X (.builtin "isinstance") (rIsX X.K Da a od) := by
  intro pins st σ H xs us Q I rv q
  obtain ⟨c, cv, b, e, hc, hd, hk, q⟩ := q
  subst e
  cases rv with
  | cons r1 rr =>
    cases rr with
    | cons r2 rr =>
      cases rr
      cases r1
      cases hc _ r2
      obtain ⟨odo, J, _⟩ := held_at I hp hz hf hd
      exact PySem.W.kia_one (PySem.W.kitx_exc (x := a) (ox := oe) (od := odo) N.cl N.ga N.gt N.sb N.ca N.gs N.tk N.mr) I.kIn J hk (fun z => nomatch z) fun t => ⟨.bl b, H, I.kept (t' := t) fun _ _ z => z, rfl, q⟩
theorem ix_kd {es : Array DictEntry} {n : Nat} {d : Addr} (D : KDict X.K X.w d es n) : IxR X (fun x y H Q => ∃ (z : Str) (u0 : Value) (v0 : V), x = .ref d ∧ y = .str z ∧ PySem.W.nsIn X.K d z = some (some u0) ∧ RelV v0 u0 ∧ Q v0 H) := by
  intro value slice pins s σ H x y v u Q I rx ry h hs
  obtain ⟨z, u0, v0, rfl, rfl, e, r, q⟩ := h
  cases rx
  obtain ⟨t, rfl⟩ := ry
  refine PyProof.Rows.tail_any (kd_type D I) PySem.slot_dict_getitem.lookup ?_ hs
  exact PySem.wpAny_getItem_of (PySem.strKind_is X.prog X.w z t) (PySem.W.mapOf_K (prog := X.prog) I.kIn D.at_ D.lit) (PySem.W.find_K D.at_ e) ⟨v0, H, I.tok _, r, q⟩
theorem str_of {P : Pm} {w : Wd} {s : Str} {v : V} (r : RelD P w (.str s) v) : v = .str s := r
theorem sGin (O : EnvOk X P C Φ κ) {x : Str} {kv : List (Str × Str)} {l : Expr} {py pos : Pos} {t : RE} (h2 : okGlob C x = true) (h3 : C.X.kd.contains (x, kv) = true) (ia : PE X l (liE P W t)) :
    SE X P W (.Compare l [.In] [.Name x py] pos) (tstT fun E σ M Q => t E σ M fun d M1 => ginD kv d fun b => Q b M1) := by
  obtain ⟨a, es, n, hm, DD, tv⟩ := O.kd _ (List.elem_iff.mp h3)
  obtain ⟨g1, g2⟩ := glob_of O h2
  have ib : PE X (.Name x py) (tC (.ref a)) := pe_glob g1 hm rfl g2
  have key : ∀ {w : Wd} {M : Md} {H : Hp} {d : D} {v : V} {Qd : Bool → Md → Prop} {Q : VK}, RelD P w d v → (∀ b, Qd b M → Q (.bl b) H) → ginD kv d (fun b => Qd b M) → ∃ (z : Str) (r : Option Value), v = .str z ∧ V.ref a = .ref a ∧ PySem.W.nsIn X.K a z = some r ∧ Q (.bl r.isSome) H := by
    intro w M H d v Qd Q r l q
    cases d with
    | str s =>
      have e := str_of r
      subst e
      have q : Qd (kv.lookup s).isSome M := q
      have tz := tv s
      cases hl : kv.lookup s with
      | none =>
        simp only [hl] at tz q
        exact ⟨s, none, rfl, rfl, tz, l _ q⟩
      | some y =>
        simp only [hl] at tz q
        obtain ⟨u, e1, _⟩ := tz
        exact ⟨s, some u, rfl, rfl, e1, l _ q⟩
    | _ => exact q.elim
  refine .tst (peI (pe_cmpR (op_in_kd DD) ia ib (mark_of rfl)) fun σ H Q q => ?_) (ptI (pt_cmpR (op_in_kd DD) ia ib (mark_of rfl)) fun σ H Q q => ?_) (by intro _ _ _ z; cases z)
  · obtain ⟨w, M, sd, Qd, Ed, R, rs, l, lx, q⟩ := q
    refine ⟨w, M, sd, _, Ed, R, rs, fun w1 M1 H1 d v s1 R1 r1 q => ?_, lx, q⟩
    exact key (Qd := fun b M => Qd (.bl b) M) r1 (fun b q => l w1 M1 H1 (.bl b) _ s1 R1 rfl q) q
  · obtain ⟨w, M, sd, Qd, Ed, R, rs, l, lx, q⟩ := q
    refine ⟨w, M, sd, _, Ed, R, rs, fun w1 M1 H1 d v s1 R1 r1 q => ?_, lx, q⟩
    obtain ⟨z, r, e1, e2, e3, e4⟩ := key (Qd := fun b M => Qd b M) (Q := fun x H => ∃ k, x = .bl k ∧ Q k H) r1 (fun b q => ⟨b, rfl, l w1 M1 H1 b s1 R1 q⟩) q
    exact ⟨z, r, e1, e2, e3, e4⟩
theorem sGidx (O : EnvOk X P C Φ κ) {x : Str} {kv : List (Str × Str)} {l : Expr} {py pos : Pos} {t : RE} (h2 : okGlob C x = true) (h3 : C.X.kd.contains (x, kv) = true) (hp : plainE l = true) (ia : PE X l (liE P W t)) :
    SE X P W (.Subscript (.Name x py) l pos) (valT fun E σ M Q => t E σ M fun d M1 => gidxD kv d fun b => Q b M1) := by
  obtain ⟨a, es, n, hm, DD, tv⟩ := O.kd _ (List.elem_iff.mp h3)
  obtain ⟨g1, g2⟩ := glob_of O h2
  have ib : PE X (.Name x py) (tC (.ref a)) := pe_glob g1 hm rfl g2
  refine .val O (peI (pe_ix (ix_kd DD) ib ia (plain_ix hp)) fun σ H Q q => ?_) rfl
  obtain ⟨w, M, sd, Qd, Ed, R, rs, l, lx, q⟩ := q
  refine ⟨w, M, sd, _, Ed, R, rs, fun w1 M1 H1 d v s1 R1 r1 q => ?_, lx, q⟩
  cases d with
  | str s =>
    have e := str_of r1
    subst e
    have tz := tv s
    unfold gidxD at q
    cases hl : kv.lookup s with
    | none => simp only [hl] at q
    | some y =>
      simp only [hl] at tz q
      obtain ⟨u, e1, e2⟩ := tz
      exact ⟨s, u, .str y, rfl, rfl, e1, e2, l w1 M1 H1 (.str y) _ s1 R1 rfl q⟩
  | _ => exact q.elim
theorem sXis (O : EnvOk X P C Φ κ) {i : Nat} {T x y z : Str} {p py pz pos : Pos} (h1 : C.X.hot = true) (h2 : okBlt C "isinstance" x = true) (h3 : okVar C i y = true) (h4 : z = T) (h5 : (if T = ("ValueError" : Str) then okBlt C "ValueError" z else okGlob C z && C.X.xs.contains T) = true) :
    PE X (.Call (.Name x p) [.Name y py, .Name z pz] [] pos) (liE P W fun _ σ M Q => xheld σ i (κ 0) fun c _ _ => Q (.bl (xsub c T)) M) := by
  obtain ⟨a, od, c, ns, ds, oe, e0, hc, hp, hz, hf⟩ := O.hx h1
  obtain ⟨n1, g1, d1, m1, _⟩ := blt_of O h2
  obtain ⟨v1, v2, v3, v4⟩ := vis_of O h3
  subst n1
  obtain ⟨_, N, hv, _⟩ := O.xs c hc
  have hT : ∃ (tv : V) (cv : Value), PE X (.Name z pz) (tC tv) ∧ (∀ u, RelV tv u → u = cv) ∧ PySem.W.kitOne X.K (.ref (P.cls c)) cv = some (xsub c T) := by
    split at h5
    · next e =>
      obtain ⟨n2, g2, d2, m2, k2⟩ := blt_of O h5
      refine ⟨.ty "ValueError", .type "ValueError", pe_bltn g2 m2 (by rw [n2]; show bootBuiltins "ValueError" = _; decide +kernel) rfl k2 d2, fun u r => r, ?_⟩
      rw [hv, e]
      unfold xsub
      rw [show ((("ValueError" : Str) == ("ValueError" : Str)) : Bool) = true from beq_self_eq_true _]
      simp
    · rw [Bool.and_eq_true] at h5
      obtain ⟨g2, d2⟩ := glob_of O h5.1
      have hm : T ∈ C.X.xs := List.elem_iff.mp h5.2
      obtain ⟨k1, _, _, k3⟩ := O.xs T hm
      subst h4
      exact ⟨.ref (P.cls z), .ref (P.cls z), pe_glob g2 k1 rfl d2, fun u r => r, (k3 c hc).1⟩
  obtain ⟨tv, cv, hz2, hcv, hk⟩ := hT
  refine peI (pe_callB (call_isX hp N hz hf) g1 m1 (by show bootBuiltins "isinstance" = _; decide +kernel) (pa_cons (pe_var v1 v2 v3 v4) (pa_cons hz2 pa_nil)) (by decide) d1) fun σ H Q q => ?_
  obtain ⟨w, M, sd, Qd, Ed, R, rs, l, lx, q⟩ := q
  unfold xheld at q
  rw [e0] at q
  split at q
  · rename_i a1 od1 c1 ns1 ds1 a2 od2 c2 ns2 ds2 hs he
    cases he
    obtain ⟨q1, q2, q3, q⟩ := q
    subst q1 q2 q3
    obtain ⟨v, hv2, vs, e1, hw, _, _⟩ := rs.2 i _ hs
    subst e1
    exact ⟨_, hv2, tv, cv, _, rfl, hcv, fun d hd => ⟨_, R.sub _ _ (hw d hd)⟩, hk, l.same R (d := .bl _) rfl q⟩
  · exact q.elim
theorem sXfld (O : EnvOk X P C Φ κ) {i : Nat} {k f y : Str} {py pos : Pos} (h1 : C.X.hot = true) (h3 : okVar C i y = true) (h4 : C.X.xf.contains (k, f) = true) :
    PE X (.Attribute (.Name y py) f pos) (liE P W fun _ σ M Q => xdct (κ 0) ∧ xheld σ i (κ 0) fun c ns ds => c = k ∧ match (ns.zip ds).lookup f with
      | some x => Q x M
      | none => False) := by
  obtain ⟨a, od, c, ns, ds, oe, e0, hc, hp, hz, hf⟩ := O.hx h1
  obtain ⟨v1, v2, v3, v4⟩ := vis_of O h3
  obtain ⟨_, hno⟩ := O.xf _ (List.elem_iff.mp h4)
  obtain ⟨_, N, _, _⟩ := O.xs c hc
  refine ⟨fun pins st σ H Q I q => ?_⟩
  obtain ⟨w, M, sd, Qd, Ed, R, rs, l, lx, q0, q⟩ := q
  unfold xheld at q
  unfold xdct at q0
  rw [e0] at q q0
  split at q
  · rename_i a1 od1 c1 ns1 ds1 a2 od2 c2 ns2 ds2 hs he
    cases he
    obtain ⟨q1, q2, q3, q4, q⟩ := q
    subst q1 q2 q3 q4
    split at q
    · rename_i x hx
      obtain ⟨v, hv2, vs, e1, hw, hlen, hds⟩ := rs.2 i _ hs
      subst e1
      refine attr_of rfl (thn ((pe_var v1 v2 v3 v4).run pins st σ H (fun u H1 => u = .ref a1 ∧ H1 = H) I ⟨_, hv2, rfl, rfl⟩) fun u s1 hh => ?_)
      obtain ⟨u', H1, I1, ru, eu, eH⟩ := hh
      subst eu eH
      cases ru
      obtain ⟨vx, hvx, rx⟩ := relDs_look hlen hds hx
      cases od1 with
      | none => exact q0.elim
      | some d =>
        have hH := R.sub _ _ (hw d rfl)
        obtain ⟨odo, J, fin⟩ := held_at I1 hp hz hf fun d' e => by cases e; exact ⟨_, hH⟩
        obtain ⟨o2, e2, mA, hl, rel⟩ := fin d _ rfl hH
        subst e2
        obtain ⟨u, hu, ru⟩ := RelO.some_of (v := vx) (o := mA f) (by rw [← hvx]; exact rel f)
        exact HandSPX.exc_get I1.kIn J N.ga N.gt N.sb (PySem.W.findObj_own N.hd hno rfl (by rw [hl, hu])) (handed_of ru) ⟨vx, H1, I1.tok _, ru, l.same R rx q⟩
    · exact q.elim
  · exact q.elim
mutual
theorem sE : ∀ (c : CE) {X : Cx} {C : Ctx} {W : WX} {e : Expr}, EnvOk X P C Φ κ → Takes X W → chkE C c e = true → SE X P W e (rd Φ κ c)
  | .var i, X, C, W, e, O, tk, h => by
    unfold chkE at h
    split at h
    · rename_i x pos
      obtain ⟨h1, h2, h3, h4⟩ := vis_of O h
      refine .val O (peI (pe_var h1 h2 h3 h4) fun σ H Q q => ?_) rfl
      obtain ⟨w, M, sd, Qd, Ed, R, rs, l, lx, q⟩ := q
      split at q
      · rename_i d hd
        obtain ⟨v, hv, r⟩ := rs.2 i d hd
        exact ⟨v, hv, l.same R r q⟩
      · exact q.elim
    · cases h
  | .int i, X, C, W, e, O, tk, h => by
    unfold chkE at h
    split at h
    · rw [beq_iff_eq] at h
      subst h
      exact .val O (peI pe_int (liE_c (d := .int i) fun _ => rfl)) rfl
    · cases h
  | .str s, X, C, W, e, O, tk, h => by
    unfold chkE at h
    split at h
    · rw [beq_iff_eq] at h
      subst h
      exact .val O (peI pe_str (liE_c (d := .str s) fun _ => rfl)) rfl
    · cases h
  | .bl s, X, C, W, e, O, tk, h => by
    unfold chkE at h
    split at h
    · rw [beq_iff_eq] at h
      subst h
      exact .val O (peI pe_bl (liE_c (d := .bl s) fun _ => rfl)) rfl
    · cases h
  | .non, X, C, W, e, O, tk, h => by
    unfold chkE at h
    split at h
    · exact .val O (peI pe_non (liE_c (d := .non) fun _ => rfl)) rfl
    · cases h
  | .glob g, X, C, W, e, O, tk, h => by
    unfold chkE at h
    split at h
    · rename_i x pos
      rw [Bool.and_eq_true] at h
      obtain ⟨h1, h2⟩ := h
      split at h2
      · rename_i g' hg
        rw [beq_iff_eq] at h2
        subst h2
        obtain ⟨u, v, hm, r, rr⟩ := O.cst x g hg
        obtain ⟨g1, g2⟩ := glob_of O h1
        exact .val O (peI (pe_glob g1 hm r g2) (liE_c rr)) rfl
      · cases h2
    · cases h
  | .bin o a b, X, C, W, e, O, tk, h => by
    unfold chkE at h
    split at h
    · simp only [Bool.and_eq_true, beq_iff_eq] at h
      obtain ⟨⟨h1, h2⟩, h3⟩ := h
      subst h1
      exact .val O (peI (pe_op (op_sound O.K o) (sE a O tk h2).pe (sE b O tk h3).pe) (liE_op (o := opD o))) rfl
    · cases h
  | .neg a, X, C, W, e, O, tk, h => by
    unfold chkE at h
    split at h
    · refine .val O (peI (pe_un un_neg (sE a O tk h).pe) (liE_bind fun {w M H d v Qd Q} R r l q => ?_)) rfl
      cases d with
      | int i =>
        have r : v = .int i := r
        exact ⟨i, r, l.same R (d := .int _) rfl q⟩
      | _ => exact q.elim
    · cases h
  | .not a, X, C, W, e, O, tk, h => by
    unfold chkE at h
    split at h
    · have ih := sE a O tk h
      refine ⟨peI (pe_notT ih.pe) fun σ H Q q => ?_, ptI (pt_not ih.pt) fun σ H Q q => ?_, by intro _ _ _ z; cases z⟩
      · obtain ⟨w, M, sd, Qd, Ed, R, rs, l, lx, q⟩ := q
        refine ⟨w, M, sd, _, Ed, R, rs, fun w' M' H' d v s R' r q => ?_, lx, q⟩
        obtain ⟨k, h1, h2⟩ := truD_at R' r q
        exact ⟨k, O.K ▸ h1, (l.on s).same R' (d := .bl _) rfl h2⟩
      · obtain ⟨w, M, sd, Qd, Ed, R, rs, l, lx, q⟩ := q
        exact ⟨w, M, sd, _, Ed, R, rs, fun w' M' H' b s R' q => l w' M' H' (!b) s R' q, lx, q⟩
    · cases h
  | .and a b, X, C, W, e, O, tk, h => by
    unfold chkE at h
    split at h
    · rename_i x y rest pos
      rw [Bool.and_eq_true] at h
      have ia := sE a O tk h.1
      have both : PE X (.BoolOp .And (y :: rest) pos) (liE P W (rd Φ κ b).1) ∧ PW X (.BoolOp .And (y :: rest) pos) (liT P W (rd Φ κ b).2) := by
        have h2 := h.2
        split at h2
        · have ib := sE b O tk h2
          exact ⟨pe_one ib.pe, pw_and1 ib.pt⟩
        · have ib := sE b O tk h2
          exact ⟨ib.pe, ib.pw _ _ _ rfl⟩
      have pw : PW X (.BoolOp .And (x :: y :: rest) pos) (liT P W (rd Φ κ (.and a b)).2) := pwI (pw_and ia.pt both.2) fun σ H Q q => by
        obtain ⟨w, M, sd, Qd, Ed, R, rs, l, lx, q⟩ := q
        refine ⟨w, M, sd, _, Ed, R, rs, fun w' M' H' k s R' q => ?_, lx, q⟩
        cases k with
        | true => simp only [if_true] at q ⊢; exact ⟨w', M', sd, Qd, Ed, R', rs.mono s.le, l.on s, lx.on s, q⟩
        | false => simp only [Bool.false_eq_true, if_false] at q ⊢; exact l w' M' H' false s R' q
      refine ⟨peI (pe_andT ia.pe both.1) fun σ H Q q => ?_, pw.pt, fun op vs pos' z => by cases z; exact pw⟩
      obtain ⟨w, M, sd, Qd, Ed, R, rs, l, lx, q⟩ := q
      refine ⟨w, M, sd, _, Ed, R, rs, fun w' M' H' d v s R' r q => ?_, lx, q⟩
      obtain ⟨k, h1, h2⟩ := truD_at R' r q
      refine ⟨k, O.K ▸ h1, ?_⟩
      cases k with
      | true => simp only [if_true] at h2 ⊢; exact ⟨w', M', sd, Qd, Ed, R', rs.mono s.le, l.on s, lx.on s, h2⟩
      | false => simp only [Bool.false_eq_true, if_false] at h2 ⊢; exact l w' M' H' d v s R' r h2
    · cases h
  | .or a b, X, C, W, e, O, tk, h => by
    unfold chkE at h
    split at h
    · rename_i x y rest pos
      rw [Bool.and_eq_true] at h
      have ia := sE a O tk h.1
      have both : PE X (.BoolOp .Or (y :: rest) pos) (liE P W (rd Φ κ b).1) ∧ PW X (.BoolOp .Or (y :: rest) pos) (liT P W (rd Φ κ b).2) := by
        have h2 := h.2
        split at h2
        · have ib := sE b O tk h2
          exact ⟨pe_one ib.pe, pw_or1 ib.pt⟩
        · have ib := sE b O tk h2
          exact ⟨ib.pe, ib.pw _ _ _ rfl⟩
      have pw : PW X (.BoolOp .Or (x :: y :: rest) pos) (liT P W (rd Φ κ (.or a b)).2) := pwI (pw_or ia.pt both.2) fun σ H Q q => by
        obtain ⟨w, M, sd, Qd, Ed, R, rs, l, lx, q⟩ := q
        refine ⟨w, M, sd, _, Ed, R, rs, fun w' M' H' k s R' q => ?_, lx, q⟩
        cases k with
        | true => simp only [if_true] at q ⊢; exact l w' M' H' true s R' q
        | false => simp only [Bool.false_eq_true, if_false] at q ⊢; exact ⟨w', M', sd, Qd, Ed, R', rs.mono s.le, l.on s, lx.on s, q⟩
      refine ⟨peI (pe_orT ia.pe both.1) fun σ H Q q => ?_, pw.pt, fun op vs pos' z => by cases z; exact pw⟩
      obtain ⟨w, M, sd, Qd, Ed, R, rs, l, lx, q⟩ := q
      refine ⟨w, M, sd, _, Ed, R, rs, fun w' M' H' d v s R' r q => ?_, lx, q⟩
      obtain ⟨k, h1, h2⟩ := truD_at R' r q
      refine ⟨k, O.K ▸ h1, ?_⟩
      cases k with
      | true => simp only [if_true] at h2 ⊢; exact l w' M' H' d v s R' r h2
      | false => simp only [Bool.false_eq_true, if_false] at h2 ⊢; exact ⟨w', M', sd, Qd, Ed, R', rs.mono s.le, l.on s, lx.on s, h2⟩
    · cases h
  | .cmp c a b, X, C, W, e, O, tk, h => by
    unfold chkE at h
    split at h
    · simp only [Bool.and_eq_true, beq_iff_eq] at h
      obtain ⟨⟨⟨h1, h2⟩, h3⟩, h4⟩ := h
      subst h1
      have ia := sE a O tk h3
      have ib := sE b O tk h4
      refine .tst (peI (pe_cmpR (cp_sound O.K O.pg O.wl O.hu c) ia.pe ib.pe (mark_of h2)) (liE_op (o := cpR c))) (ptI (pt_cmpR (cp_sound O.K O.pg O.wl O.hu c) ia.pe ib.pe (mark_of h2)) liT_op) (by intro _ _ _ z; cases z)
    · cases h
  | .chain c1 c2 a b d, X, C, W, e, O, tk, h => by
    unfold chkE at h
    split at h
    · rename_i l op op2 r r2 pos
      simp only [Bool.and_eq_true, beq_iff_eq] at h
      obtain ⟨⟨⟨⟨⟨⟨h1, h2⟩, h3⟩, h4⟩, h5⟩, h6⟩, h7⟩ := h
      subst h1; subst h2
      have ia := sE a O tk h5
      have ib := sE b O tk h6
      have ic := sE d O tk h7
      have lm : lastMarks [cpO c1, cpO c2] [r, r2] = false := by
        show behindInMarks (cpO c2) r2 = false
        exact mark_of h4
      have key : ∀ {σ : L2.St} {H : Hp} {Q : VK} {K : Bool → Md → Prop}, (∃ w M sd Ed, RepM P w M H ∧ RelSt P w sd σ ∧ LkT P w H K (fun k H => Q (.bl k) H) ∧ LkX P w H Ed (WE W σ) ∧ (rd Φ κ (.chain c1 c2 a b d)).2 Ed sd M K) →
          tChain (liO2 P (cpR c1)) (liO2 P (cpR c2)) (liE P W (rd Φ κ a).1) (liE P W (rd Φ κ b).1) (liE P W (rd Φ κ d).1) σ H Q := fun {σ H Q K} q => by
        obtain ⟨w, M, sd, Ed, R, rs, l, lx, q⟩ := q
        refine ⟨w, M, sd, _, Ed, R, rs, fun w1 M1 H1 x v s1 R1 r1 q => ?_, lx, q⟩
        refine ⟨w1, M1, sd, _, Ed, R1, rs.mono s1.le, fun w2 M2 H2 y u s2 R2 r2 q => ?_, lx.on s1, q⟩
        have s12 := s1.trans s2
        refine ⟨w2, M2, x, y, fun z M => ∃ k, z = .bl k ∧ M = M2 ∧ if k = true then (rd Φ κ d).1 Ed sd M2 fun z M3 => cpD c2 y z M3 fun k => K k M3 else K false M2, R2, r1.mono s2.le, r2, fun w3 M3 H3 z t s3 R3 r3 q => ?_, ?_⟩
        · obtain ⟨k, e1, e2, q⟩ := q
          subst e1; subst e2
          have r3 : t = .bl k := r3
          have s13 := s12.trans s3
          refine ⟨k, r3, ?_⟩
          cases k with
          | true =>
            simp only [if_true] at q ⊢
            refine ⟨w3, M3, sd, _, Ed, R3, rs.mono s13.le, fun w4 M4 H4 z4 t4 s4 R4 r4 q => ?_, lx.on s13, q⟩
            refine ⟨w4, M4, y, z4, fun z M => ∃ k, z = .bl k ∧ K k M, R4, (r2.mono s3.le).mono s4.le, r4, fun w5 M5 H5 z5 t5 s5 R5 r5 q => ?_, ?_⟩
            · obtain ⟨k, e1, q⟩ := q
              subst e1
              have r5 : t5 = .bl k := r5
              subst r5
              exact l w5 M5 H5 k ((s13.trans s4).trans s5) R5 q
            · have e : (fun b => ∃ k, D.bl b = .bl k ∧ K k M4) = fun k => K k M4 := by
                funext b
                refine propext ⟨fun ⟨k, e, q⟩ => ?_, fun q => ⟨b, rfl, q⟩⟩
                cases e
                exact q
              show cpD c2 y z4 M4 fun b => ∃ k, D.bl b = .bl k ∧ K k M4
              rw [e]; exact q
          | false =>
            simp only [Bool.false_eq_true, if_false] at q ⊢
            exact l w3 M3 H3 false s13 R3 q
        · have e : (fun b => ∃ k, D.bl b = .bl k ∧ M2 = M2 ∧ if k = true then (rd Φ κ d).1 Ed sd M2 fun z M3 => cpD c2 y z M3 fun k => K k M3 else K false M2) = fun k => if k = true then (rd Φ κ d).1 Ed sd M2 fun z M3 => cpD c2 y z M3 fun k => K k M3 else K false M2 := by
            funext b
            refine propext ⟨fun ⟨k, e, _, q⟩ => ?_, fun q => ⟨b, rfl, rfl, q⟩⟩
            cases e
            exact q
          show cpD c1 x y M2 fun b => ∃ k, D.bl b = .bl k ∧ M2 = M2 ∧ if k = true then (rd Φ κ d).1 Ed sd M2 fun z M3 => cpD c2 y z M3 fun k => K k M3 else K false M2
          rw [e]; exact q
      refine .tst (peI (pe_chain (cp_sound O.K O.pg O.wl O.hu c1) (cp_sound O.K O.pg O.wl O.hu c2) ia.pe ib.pe ic.pe lm) fun σ H Q q => ?_) (ptI (pt_chain (cp_sound O.K O.pg O.wl O.hu c1) (cp_sound O.K O.pg O.wl O.hu c2) ia.pe ib.pe ic.pe lm) fun σ H Q q => ?_) (by intro _ _ _ z; cases z)
      · obtain ⟨w, M, sd, Qd, Ed, R, rs, l, lx, q⟩ := q
        exact key ⟨w, M, sd, Ed, R, rs, lkT_of l, lx, q⟩
      · obtain ⟨w, M, sd, Qd, Ed, R, rs, l, lx, q⟩ := q
        exact key (Q := fun x H => ∃ k, x = .bl k ∧ Q k H) ⟨w, M, sd, Ed, R, rs, fun w' M' H' b s R' q => ⟨b, rfl, l w' M' H' b s R' q⟩, lx, q⟩
    · cases h
  | .ife c a b, X, C, W, e, O, tk, h => by
    unfold chkE at h
    split at h
    · simp only [Bool.and_eq_true] at h
      have ic := sE c O tk h.1.1
      have ia := sE a O tk h.1.2
      have ib := sE b O tk h.2
      refine ⟨peI (pe_ifExp ic.pt ia.pe ib.pe) fun σ H Q q => ?_, ⟨fun pins s σ H Q I q => ?_⟩, by intro _ _ _ z; cases z⟩
      · obtain ⟨w, M, sd, Qd, Ed, R, rs, l, lx, q⟩ := q
        refine ⟨w, M, sd, _, Ed, R, rs, fun w' M' H' k s R' q => ?_, lx, q⟩
        cases k with
        | true => simp only [if_true] at q ⊢; exact ⟨w', M', sd, Qd, Ed, R', rs.mono s.le, l.on s, lx.on s, q⟩
        | false => simp only [Bool.false_eq_true, if_false] at q ⊢; exact ⟨w', M', sd, Qd, Ed, R', rs.mono s.le, l.on s, lx.on s, q⟩
      · obtain ⟨w, M, sd, Qd, Ed, R, rs, l, lx, q⟩ := q
        exact False.elim q
    · cases h
  | .tup es, X, C, W, e, O, tk, h => by
    unfold chkE at h
    split at h
    · refine .val O (peI (pe_tup (sEs es O tk h)) fun σ H Q q => ?_) rfl
      obtain ⟨w, M, sd, Qd, Ed, R, rs, l, lx, q⟩ := q
      exact ⟨w, M, sd, _, Ed, R, rs, fun w' M' H' ds vs s R' r q => ⟨by rw [r.length]; exact q.1, fun p hp => (l.on s).tup R' r hp q.2⟩, lx, q⟩
    · cases h
  | .lst m es, X, C, W, e, O, tk, h => by
    unfold chkE at h
    split at h
    · refine .val O (peI (pe_lst (sEs es O tk h)) fun σ H Q q => ?_) rfl
      obtain ⟨w, M, sd, Qd, Ed, R, rs, l, lx, q⟩ := q
      refine ⟨w, M, sd, _, Ed, R, rs, fun w' M' H' ds vs s R' r q => ⟨by rw [r.length]; exact q.1, fun p hp => ?_⟩, lx, q⟩
      cases m with
      | true => exact (l.on s).cell R' r hp q.2
      | false => exact (l.on s).lst R' r hp q.2
    · cases h
  | .idx a b, X, C, W, e, O, tk, h => by
    unfold chkE at h
    split at h
    · simp only [Bool.and_eq_true] at h
      exact .val O (peI (pe_ix (ix_sound O.K O.pg O.wl O.hu) (sE a O tk h.1.2).pe (sE b O tk h.2).pe (plain_ix h.1.1)) (liE_op (o := ixD))) rfl
    · cases h
  | .slc m a lo hi, X, C, W, e, O, tk, h => by
    unfold chkE at h
    split at h
    · simp only [Bool.and_eq_true] at h
      refine .val O (peI (pe_slice (sl_sound O.K m) (sE a O tk h.1.1).pe (sO lo O tk h.1.2) (sO hi O tk h.2)) fun σ H Q q => ?_) rfl
      obtain ⟨w, M, sd, Qd, Ed, R, rs, l, lx, q⟩ := q
      refine ⟨w, M, sd, _, Ed, R, rs, fun w1 M1 H1 d v s1 R1 r1 q => ?_, lx, q⟩
      refine ⟨w1, M1, sd, _, Ed, R1, rs.mono s1.le, fun w2 M2 H2 o s2 R2 q => ?_, lx.on s1, q⟩
      refine ⟨w2, M2, sd, _, Ed, R2, (rs.mono s1.le).mono s2.le, fun w3 M3 H3 o3 s3 R3 q => ?_, (lx.on s1).on s2, q⟩
      exact ⟨w3, M3, d, Qd, R3, (r1.mono s2.le).mono s3.le, ((l.on s1).on s2).on s3, q⟩
    · cases h
  | .call f es, X, C, W, e, O, tk, h => by
    unfold chkE at h
    split at h
    · rename_i x p ys pos
      simp only [Bool.and_eq_true] at h
      obtain ⟨⟨h1, h2⟩, h3⟩ := h
      split at h2
      · rename_i g hg
        rw [beq_iff_eq] at h2
        subst h2
        obtain ⟨k, a, fd, ps, hm, hk, F, hr, hb⟩ := O.fun_ x f hg
        obtain ⟨g1, g2⟩ := glob_of O h1
        cases ys with
        | nil =>
          have he : es = .nil := by
            cases es with
            | nil => rfl
            | cons c cs => simp [chkEs] at h3
          subst he
          refine .val O (peI (pe_call0S F hr g1 hm hk hb (fun σ => passAt tk σ) g2) fun σ H Q q => ?_) rfl
          obtain ⟨w, M, sd, Qd, Ed, R, rs, l, lx, q⟩ := q
          exact ⟨w, M, [], Qd, Ed, R, rfl, l, lx, q⟩
        | cons y ys =>
        have hy : plainE y = true := by
          cases es with
          | nil => simp [chkEs] at h3
          | cons c cs => simp only [chkEs, Bool.and_eq_true] at h3; exact h3.1.1
        have hpl : (backTo pos (starEach ys X.env)).any (·.1) = false := by
          cases es with
          | nil => simp [chkEs] at h3
          | cons c cs => simp only [chkEs, Bool.and_eq_true] at h3; exact plains h3.2
        refine .val O (peI (pe_callS F hr g1 hm hk hb (fun σ => passAt tk σ) (sEs es O tk h3) g2 (star_of hy) hpl) fun σ H Q q => ?_) rfl
        obtain ⟨w, M, sd, Qd, Ed, R, rs, l, lx, q⟩ := q
        exact ⟨w, M, sd, _, Ed, R, rs, fun w1 M1 H1 ds vs s R1 r q => ⟨w1, M1, ds, Qd, Ed, R1, r, l.on s, lx.on s, q⟩, lx, q⟩
      · cases h2
    · cases h
  | .calln i n js es, X, C, W, e, O, tk, h => by
    unfold chkE at h
    split at h
    · rename_i x p y ys pos
      simp only [Bool.and_eq_true] at h
      obtain ⟨⟨h1, h2⟩, h3⟩ := h
      obtain ⟨v1, v2, v3, v4⟩ := vis_of O h1
      have hy : plainE y = true := by
        cases es with
        | nil => simp [chkEs] at h3
        | cons c cs => simp only [chkEs, Bool.and_eq_true] at h3; exact h3.1.1
      have hpl : (backTo pos (starEach ys X.env)).any (·.1) = false := by
        cases es with
        | nil => simp [chkEs] at h3
        | cons c cs => simp only [chkEs, Bool.and_eq_true] at h3; exact plains h3.2
      refine .val O (peI (pe_callD (r := fun f σ vs H Q => ∃ cvs, js.map (NdefX.slotAt σ) = cvs.map some ∧ liSp P (Φ n) (.ref f :: (cvs ++ vs)) H Q (WE W σ)) (fun pins s σ H us vs Q f I rv ⟨cvs, q1, q⟩ => O.nst (n, js) (List.elem_iff.mp h2) cvs _ pins σ H s us vs f Q (passAt tk σ) I rv q1 q) v1 v2 (sEs es O tk h3) v3 v4 (star_of hy) hpl) fun σ H Q q => ?_) rfl
      obtain ⟨w, M, sd, Qd, Ed, R, rs, l, lx, q⟩ := q
      split at q
      · rename_i k cs hk hcs
        obtain ⟨v, hv, f, ev, hf⟩ := rs.2 i _ hk
        subst ev
        obtain ⟨q1, q⟩ := q
        have key : ∀ {w' M' H'}, RepM P w' M' H' → w'.r[k]? = some f → isFn M' k n → ∃ F, H' f = some (NdefX.FnO f F) := fun {w' M' H'} R' hf' z => by
          unfold isFn at z
          split at z
          · rename_i F m _ _ hm
            exact ⟨F, (R'.cell k _ f hm hf').2.1⟩
          · exact z.elim
        obtain ⟨F, hF⟩ := key R hf q1
        obtain ⟨cvs, hc1, hc2⟩ := capsD_at rs hcs
        refine ⟨f, F, hv, hF, w, M, sd, _, Ed, R, rs, fun w1 M1 H1 ds vs s1 R1 r1 q => ?_, lx, q⟩
        have hf1 := s1.le.r _ _ hf
        exact ⟨key R1 hf1 q.1, cvs, hc1, w1, M1, .ref k :: (cs ++ ds), Qd, Ed, R1, ⟨.ref f, cvs ++ vs, rfl, ⟨f, rfl, hf1⟩, (hc2.mono s1.le).append r1⟩, l.on s1, lx.on s1, q.2⟩
      · exact q.elim
    · cases h
  | .rev m a, X, C, W, e, O, tk, h => by
    unfold chkE at h
    split at h
    · rename_i x k p1 p2 p3 pos
      refine .val O (peI (pe_revL (sE a O tk h).pe) fun σ H Q q => ?_) rfl
      obtain ⟨w, M, sd, Qd, Ed, R, rs, l, lx, q⟩ := q
      refine ⟨w, M, sd, _, Ed, R, rs, fun w1 M1 H1 d v s1 R1 r1 q => ?_, lx, q⟩
      split at q
      · rename_i ds hl
        obtain ⟨p, vs, e1, e2, e3⟩ := lstOf_at R1 r1 hl
        refine ⟨p, vs, e1, SqL.of e2, fun q' hq => ?_⟩
        cases m with
        | true =>
          rw [if_pos rfl] at q
          exact (l.on s1).cell R1 e3.reverse hq q
        | false =>
          rw [if_neg Bool.false_ne_true] at q
          exact (l.on s1).lst R1 e3.reverse hq q
      · exact q.elim
    · cases h
  | .meth c m n o es, X, C, W, e, O, tk, h => by
    unfold chkE at h
    split at h
    · rename_i x g ap ys pos
      simp only [Bool.and_eq_true, beq_iff_eq, decide_eq_true_eq] at h
      obtain ⟨⟨⟨⟨⟨⟨h1, h2⟩, h3⟩, h4⟩, h5⟩, h6⟩, h7⟩ := h
      subst h1
      obtain ⟨k, f, fd, ps, hc, hm, F, hr, hb⟩ := O.mt _ (List.elem_iff.mp h5)
      have hpl0 : (backTo pos (starEach ys X.env)).any (·.1) = false := plains h7
      have hform : methodCallForm (ys.length + ([] : List Keyword).length) (backTo pos (starEach ys X.env)) (backToKw pos (keywordEach [] X.env)) = true := by
        have e1 : (backTo pos (starEach ys X.env)).all (fun x => !x.1) = true := by
          rw [List.all_eq_true]
          intro z hz
          have := List.any_eq_false.mp hpl0 z hz
          simpa using this
        show (((backTo pos (starEach ys X.env)).all (fun x => !x.1) && true) && decide (ys.length + 0 + 0 < 30)) = true
        rw [e1]
        simpa using h4
      have ht := meth_eq (o := x) (m := g) (apos := ap) (pos := pos) (args := ys) (env := X.env) (base_of h2) hform (beq_iff_eq.mpr h3)
      have look := @obj_look P c g
      cases ys with
      | nil =>
        have he : es = .nil := by
          cases es with
          | nil => rfl
          | cons c cs => simp [chkEs] at h7
        subst he
        refine .val O (peI (pe_methO0 (sE o O tk h6).pe hc hm F hr hb (fun σ => passAt tk σ) ht) fun σ H Q q => ?_) rfl
        obtain ⟨w, M, sd, Qd, Ed, R, rs, l, lx, q⟩ := q
        refine ⟨w, M, sd, _, Ed, R, rs, fun w1 M1 H1 d v s1 R1 r1 q => ?_, lx, q⟩
        obtain ⟨z, q⟩ := q
        obtain ⟨a, dx, fs, e1, e2, e3⟩ := look R1 r1 z
        exact ⟨a, dx, fs, e1, e2, e3, w1, M1, [d], Qd, Ed, R1, ⟨v, [], rfl, r1, rfl⟩, l.on s1, lx.on s1, q⟩
      | cons y ys =>
        have hy : plainE y = true := by
          cases es with
          | nil => simp [chkEs] at h7
          | cons c cs => simp only [chkEs, Bool.and_eq_true] at h7; exact h7.1.1
        have hpl : (backTo pos (starEach ys X.env)).any (·.1) = false := by
          cases es with
          | nil => simp [chkEs] at h7
          | cons c cs => simp only [chkEs, Bool.and_eq_true] at h7; exact plains h7.2
        refine .val O (peI (pe_methO (sE o O tk h6).pe hc hm F hr hb (fun σ => passAt tk σ) (sEs es O tk h7) (star_of hy) hpl ht) fun σ H Q q => ?_) rfl
        obtain ⟨w, M, sd, Qd, Ed, R, rs, l, lx, q⟩ := q
        refine ⟨w, M, sd, _, Ed, R, rs, fun w1 M1 H1 d v s1 R1 r1 q => ?_, lx, q⟩
        obtain ⟨z, q⟩ := q
        obtain ⟨a, dx, fs, e1, e2, e3⟩ := look R1 r1 z
        refine ⟨a, dx, fs, e1, e2, e3, w1, M1, sd, _, Ed, R1, rs.mono s1.le, fun w2 M2 H2 ds vs s2 R2 r2 q => ?_, lx.on s1, q⟩
        exact ⟨w2, M2, d :: ds, Qd, Ed, R2, ⟨v, vs, rfl, r1.mono s2.le, r2⟩, (l.on s1).on s2, (lx.on s1).on s2, q⟩
    · cases h
  | .xis i T, X, C, W, e, O, tk, h => by
    unfold chkE at h
    split at h
    · rename_i x p y py z pz pos
      simp only [Bool.and_eq_true, beq_iff_eq] at h
      obtain ⟨⟨⟨⟨h1, h2⟩, h3⟩, h4⟩, h5⟩ := h
      exact .val O (sXis O h1 h2 h3 h4 h5) rfl
    · cases h
  | .xfld i c f, X, C, W, e, O, tk, h => by
    unfold chkE at h
    split at h
    · rename_i y py g pos
      simp only [Bool.and_eq_true, beq_iff_eq] at h
      obtain ⟨⟨⟨h1, h2⟩, h3⟩, h4⟩ := h
      subst h2
      exact .val O (sXfld O h1 h3 h4) rfl
    · cases h
  | .gin x kv a, X, C, W, e, O, tk, h => by
    unfold chkE at h
    split at h
    · rename_i l y py pos
      simp only [Bool.and_eq_true, beq_iff_eq] at h
      obtain ⟨⟨⟨h1, h2⟩, h3⟩, h4⟩ := h
      subst h1
      exact sGin O h2 h3 (sE a O tk h4).pe
    · cases h
  | .gidx x kv a, X, C, W, e, O, tk, h => by
    unfold chkE at h
    split at h
    · rename_i y py z pos
      simp only [Bool.and_eq_true, beq_iff_eq] at h
      obtain ⟨⟨⟨⟨h1, h2⟩, h3⟩, h4⟩, h5⟩ := h
      subst h1
      exact sGidx O h2 h3 h4 (sE a O tk h5).pe
    · cases h
  | .blt b es, X, C, W, e, O, tk, h => by
    by_cases hT : ∃ T, b = .isi T
    · obtain ⟨T, hT⟩ := hT
      subst hT
      unfold chkE at h
      split at h
      · rename_i x p y z pz pos
        simp only [Bool.and_eq_true] at h
        obtain ⟨⟨⟨h1, h2⟩, h3⟩, h4⟩ := h
        split at h4
        · rename_i c
          rw [Bool.and_eq_true] at h4
          obtain ⟨n1, g1, d1, m1, _⟩ := blt_of O h1
          obtain ⟨n2, g2, d2, m2, k2⟩ := blt_of O h2
          rw [beq_iff_eq] at h3
          have hz : PE X (.Name z pz) (tC (.ty T)) := by
            exact pe_bltn g2 m2 h3 rfl k2 d2
          subst n1
          refine .val O (peI (pe_callB (bt_isi (T := T) O.K) g1 m1 (by show bootBuiltins "isinstance" = _; decide +kernel) (pa_cons (sE c O tk h4.2).pe (pa_cons hz pa_nil) (star_of h4.1)) (by decide) d1 (star_of h4.1)) fun σ H Q q => ?_) rfl
          obtain ⟨w, M, sd, Qd, Ed, R, rs, l, lx, q⟩ := q
          refine ⟨w, M, sd, _, Ed, R, rs, fun w1 M1 H1 d v s R1 r q => ?_, lx, q⟩
          exact ⟨v, rfl, w1, M1, [d], Qd, R1, .cons r .nil, l.on s, q⟩
        · cases h4
      · cases h
    · have hb : ∀ T, b ≠ .isi T := fun T z => hT ⟨T, z⟩
      have h' := (chkE_blt hb).symm.trans h
      split at h'
      · rename_i x p y ys pos
        rw [Bool.and_eq_true] at h'
        have hy : plainE y = true := by
          cases es with
          | nil => have := h'.2; simp [chkEs] at this
          | cons c cs => have := h'.2; simp only [chkEs, Bool.and_eq_true] at this; exact this.1.1
        have hpl : (backTo pos (starEach ys X.env)).any (·.1) = false := by
          cases es with
          | nil => have := h'.2; simp [chkEs] at this
          | cons c cs => have := h'.2; simp only [chkEs, Bool.and_eq_true] at this; exact plains this.2
        exact .val O (sBt O hb h'.1 hy hpl (sEs es O tk h'.2)) rfl
      · cases h'
  | .mth m o es, X, C, W, e, O, tk, h => by
    unfold chkE at h
    split at h
    · rename_i x n ap ys pos
      simp only [Bool.and_eq_true, beq_iff_eq] at h
      obtain ⟨⟨⟨⟨⟨h1, h2⟩, h3⟩, h4⟩, h5⟩, h6⟩ := h
      subst h1
      have io := sE o O tk h5
      have ies := sEs es O tk h6
      have fin : ∀ σ H Q, liE P W (rd Φ κ (.mth m o es)).1 σ H Q → liE P W (rd Φ κ o).1 σ H fun x H1 => tyV X.K (mtT m) x H1 ∧ liA P W (rds Φ κ es) σ H1 fun xs H2 => liM P m x xs H2 Q := fun σ H Q q => by
        obtain ⟨w, M, sd, Qd, Ed, R, rs, l, lx, q⟩ := q
        refine ⟨w, M, sd, _, Ed, R, rs, fun w1 M1 H1 d v s1 R1 r1 q => ⟨mtK_at O.K R1 r1 q.1, ?_⟩, lx, q⟩
        refine ⟨w1, M1, sd, _, Ed, R1, rs.mono s1.le, fun w2 M2 H2 ds vs s2 R2 r2 q => ?_, lx.on s1, q.2⟩
        exact ⟨w2, M2, d, ds, Qd, R2, r1.mono s2.le, r2, (l.on s1).on s2, q⟩
      cases ys with
      | nil =>
        have he : es = .nil := by
          cases es with
          | nil => rfl
          | cons c cs => simp [chkEs] at h6
        subst he
        refine .val O (peI (pe_bm0 (mt_pa m) (mt_slot m) (mt_type m) (mt_sound O.K m) io.pe (base_of h2) (beq_iff_eq.mpr h3)) fun σ H Q q => ?_) rfl
        obtain ⟨w, M, sd, Qd, Ed, R, rs, l, lx, q⟩ := q
        refine ⟨w, M, sd, _, Ed, R, rs, fun w1 M1 H1 d v s1 R1 r1 q => ⟨mtK_at O.K R1 r1 q.1, ?_⟩, lx, q⟩
        exact ⟨w1, M1, d, [], Qd, R1, r1, rfl, l.on s1, q.2⟩
      | cons y ys =>
        have hy : plainE y = true := by
          cases es with
          | nil => simp [chkEs] at h6
          | cons c cs => simp only [chkEs, Bool.and_eq_true] at h6; exact h6.1.1
        have hpl : (backTo pos (starEach ys X.env)).any (·.1) = false := by
          cases es with
          | nil => simp [chkEs] at h6
          | cons c cs => simp only [chkEs, Bool.and_eq_true] at h6; exact plains h6.2
        refine .val O (peI (pe_bm (mt_pa m) (mt_slot m) (mt_type m) (mt_sound O.K m) io.pe ies (base_of h2) ?_ (beq_iff_eq.mpr h3) (star_of hy) hpl) fin) rfl
        rw [star_of hy]
        have e1 : (backTo pos (starEach ys X.env)).all (fun x => !x.1) = true := by
          rw [List.all_eq_true]
          intro z hz
          have := List.any_eq_false.mp hpl z hz
          simpa using this
        have e2 : (y :: ys).length < 30 := by rw [h4]; cases m <;> decide
        show (((true && (backTo pos (starEach ys X.env)).all (fun x => !x.1)) && true) && decide ((y :: ys).length + 0 + 0 < 30)) = true
        rw [e1]
        simpa using e2
    · cases h
  | .comp m elt t it ifs own, X, C, W, e, O, tk, h => by
    unfold chkE at h
    split at h
    · rename_i x tg iter fs scope pos
      simp only [Bool.and_eq_true] at h
      obtain ⟨⟨⟨⟨⟨⟨⟨h1, h2⟩, h3⟩, h4⟩, h5⟩, h6⟩, h7⟩, h8⟩ := h
      have hot : C.X.hot = false := by have := h1.1; rwa [Bool.not_eq_true'] at this
      exact .val O (sComp O tk (by rw [Bool.and_eq_true]; exact h1) h2 h3 h4 (fun s H A cl fp => pgc_of (O.blk hot s H scope A cl fp) h5) (sI it O tk h6) (fun s H A cl fp => (sE elt (O.blk hot s H scope A cl fp) takes0 h7).pe) (fun s H A cl fp => sF ifs (O.blk hot s H scope A cl fp) takes0 h8)) rfl
    · cases h
  | .fld c a f, X, C, W, e, O, tk, h => by
    unfold chkE at h
    split at h
    · simp only [Bool.and_eq_true, beq_iff_eq] at h
      obtain ⟨⟨⟨h1, h2⟩, h3⟩, h4⟩ := h
      subst h1
      obtain ⟨hc, hn⟩ := O.fl _ (List.elem_iff.mp h2)
      refine .val O (peI (pe_fld (sE a O tk h4).pe (base_of h3)) fun σ H Q q => ?_) rfl
      obtain ⟨w, M, sd, Qd, Ed, R, rs, l, lx, q⟩ := q
      refine ⟨w, M, sd, _, Ed, R, rs, fun w1 M1 H1 d v s1 R1 r1 z => ?_, lx, q⟩
      clear q
      unfold fldD at z
      split at z
      · rename_i k
        obtain ⟨p, e1, hp⟩ := r1
        subst e1
        split at z
        · rename_i c' fs hm
          obtain ⟨q1, z⟩ := z
          subst q1
          split at z
          · rename_i x hx
            obtain ⟨hF, dx, us, e2, hs⟩ := R1.cell k _ p hm hp
            obtain ⟨v, hv, rv⟩ := relKs_look hs hx
            exact ⟨p, _, dx, us, v, rfl, e2, hc, hn, hv, (l.on s1) w1 M1 H1 _ _ (.refl _ _) R1 rv z⟩
          · exact z.elim
        · exact z.elim
      · rename_i c' ns ds
        obtain ⟨p, dx, vs, e1, hp, hl, hs⟩ := r1
        obtain ⟨q1, z⟩ := z
        subst q1; subst e1
        split at z
        · rename_i x hx
          obtain ⟨v, hv, rv⟩ := relDs_look hl hs hx
          exact ⟨p, _, dx, ns.zip vs, v, rfl, R1.sub _ _ hp, hc, hn, hv, (l.on s1) w1 M1 H1 _ _ (.refl _ _) R1 rv z⟩
        · exact z.elim
      · exact z.elim
    · cases h
  | .make m n c es, X, C, W, e, O, tk, h => by
    unfold chkE at h
    split at h
    · rename_i x p ys pos
      simp only [Bool.and_eq_true] at h
      obtain ⟨⟨h1, h2⟩, h3⟩ := h
      obtain ⟨k, f, fd, ps, hm, mk, F, hr, hb⟩ := O.mkr _ (List.elem_iff.mp h2)
      obtain ⟨g1, g2⟩ := glob_of O h1
      have fin : ∀ {w : Wd} {H : Hp} {Q : VK} {Qd : QE} {Ed : EX} {E' : XK} {w1 : Wd} {M1 : Md} {H1 : Hp} {ds : List D} {vs : List V}, Lk P w H Qd Q → LkX P w H Ed E' → Step w H w1 H1 → RepM P w1 M1 H1 → RelDs P w1 ds vs → _ → _ := fun l lx s1 R1 r q => make_fin (n := n) (c := c) (m := m) (Φ := Φ) l lx s1 R1 r q
      cases ys with
      | nil =>
        have he : es = .nil := by
          cases es with
          | nil => rfl
          | cons c cs => simp [chkEs] at h3
        subst he
        refine .val O (peI (pe_makeO0 mk F hr g1 hm hb (fun σ => passAt tk σ) g2) fun σ H Q q => ?_) rfl
        obtain ⟨w, M, sd, Qd, Ed, R, rs, l, lx, q⟩ := q
        exact fin (ds := []) (vs := []) l lx (.refl _ _) R RelDs.nil q
      | cons y ys =>
        have hy : plainE y = true := by
          cases es with
          | nil => simp [chkEs] at h3
          | cons c cs => simp only [chkEs, Bool.and_eq_true] at h3; exact h3.1.1
        have hpl : (backTo pos (starEach ys X.env)).any (·.1) = false := by
          cases es with
          | nil => simp [chkEs] at h3
          | cons c cs => simp only [chkEs, Bool.and_eq_true] at h3; exact plains h3.2
        refine .val O (peI (pe_makeO mk F hr g1 hm hb (fun σ => passAt tk σ) (sEs es O tk h3) g2 (star_of hy) hpl) fun σ H Q q => ?_) rfl
        obtain ⟨w, M, sd, Qd, Ed, R, rs, l, lx, q⟩ := q
        exact ⟨w, M, sd, _, Ed, R, rs, fun w1 M1 H1 ds vs s1 R1 r q => fin l lx s1 R1 r q, lx, q⟩
    · cases h
  | .callK f j es ks zs df, X, C, W, e, O, tk, h => by
    unfold chkE at h
    split at h
    · rename_i x p y ys kws pos
      simp only [Bool.and_eq_true, beq_iff_eq] at h
      obtain ⟨⟨⟨⟨h1, h5⟩, h2⟩, h3⟩, h4⟩ := h
      obtain ⟨k, a, fd, ps, g, hm, hk, F, hr, hb⟩ := O.kf _ (List.elem_iff.mp h2)
      obtain ⟨g1, g2⟩ := glob_of O h1
      have hy : plainE y = true := by
        cases es with
        | nil => simp [chkEs] at h3
        | cons c cs => simp only [chkEs, Bool.and_eq_true] at h3; exact h3.1.1
      have hpl := plains (env := X.env) (pos := pos) h3
      obtain ⟨k1, k2, k3⟩ := chkKs_at (env := X.env) (pos := pos) (ks := ks) h4
      refine .val O (peI (pe_callKO F hr g1 hm hk hb (fun σ => passAt tk σ) (sEs es O tk h3) (sKs zs O tk h4) k1 k2 g2 (star_of hy) (by rw [hpl, k3]; rfl)) fun σ H Q q => ?_) rfl
      obtain ⟨w, M, sd, Qd, Ed, R, rs, l, lx, q⟩ := q
      refine ⟨w, M, sd, _, Ed, R, rs, fun w1 M1 H1 ds vs s1 R1 r q => ?_, lx, q⟩
      obtain ⟨l1, q⟩ := q
      refine ⟨w1, M1, sd, _, Ed, R1, rs.mono s1.le, fun w2 M2 H2 us zs s2 R2 r2 q => ?_, lx.on s1, q⟩
      obtain ⟨l2, q⟩ := q
      exact ⟨by rw [r.length]; exact l1, by rw [r2.length]; exact l2, w2, M2, _, Qd, Ed, R2, (r.mono s2.le).append (r2.append RelDs.scs), (l.on s1).on s2, (lx.on s1).on s2, q⟩
    · cases h
  | .makeK m n c j es ks zs df, X, C, W, e, O, tk, h => by
    unfold chkE at h
    split at h
    · rename_i x p y ys kws pos
      simp only [Bool.and_eq_true, beq_iff_eq] at h
      obtain ⟨⟨⟨⟨h1, h5⟩, h2⟩, h3⟩, h4⟩ := h
      obtain ⟨k, f, fd, ps, g, hm, mk, F, hr, hb⟩ := O.km _ (List.elem_iff.mp h2)
      obtain ⟨g1, g2⟩ := glob_of O h1
      have hy : plainE y = true := by
        cases es with
        | nil => simp [chkEs] at h3
        | cons c cs => simp only [chkEs, Bool.and_eq_true] at h3; exact h3.1.1
      have hpl := plains (env := X.env) (pos := pos) h3
      obtain ⟨k1, k2, k3⟩ := chkKs_at (env := X.env) (pos := pos) (ks := ks) h4
      refine .val O (peI (pe_makeKO mk F hr g1 hm hb (fun σ => passAt tk σ) (sEs es O tk h3) (sKs zs O tk h4) k1 k2 g2 (star_of hy) (by rw [hpl, k3]; rfl)) fun σ H Q q => ?_) rfl
      obtain ⟨w, M, sd, Qd, Ed, R, rs, l, lx, q⟩ := q
      refine ⟨w, M, sd, _, Ed, R, rs, fun w1 M1 H1 ds vs s1 R1 r q => ?_, lx, q⟩
      obtain ⟨l1, q⟩ := q
      refine ⟨w1, M1, sd, _, Ed, R1, rs.mono s1.le, fun w2 M2 H2 us zs s2 R2 r2 q => ?_, lx.on s1, q⟩
      obtain ⟨l2, q⟩ := q
      refine ⟨by rw [r.length]; exact l1, by rw [r2.length]; exact l2, ?_⟩
      exact make_fin (n := n) (c := c) (m := m) (Φ := Φ) l lx (s1.trans s2) R2 ((r.mono s2.le).append (r2.append RelDs.scs)) q
    · cases h
  | .methK c m n o j es ks zs df, X, C, W, e, O, tk, h => by
    unfold chkE at h
    split at h
    · rename_i x g ap y ys kws pos
      simp only [Bool.and_eq_true, beq_iff_eq, decide_eq_true_eq] at h
      obtain ⟨⟨⟨⟨⟨⟨⟨⟨h1, h2⟩, h3⟩, h4⟩, h9⟩, h5⟩, h6⟩, h7⟩, h8⟩ := h
      subst h1
      obtain ⟨k, f, fd, ps, gg, hc, hm, F, hr, hb⟩ := O.kt _ (List.elem_iff.mp h5)
      have hy : plainE y = true := by
        cases es with
        | nil => simp [chkEs] at h7
        | cons c cs => simp only [chkEs, Bool.and_eq_true] at h7; exact h7.1.1
      have hpl := plains (env := X.env) (pos := pos) h7
      obtain ⟨k1, k2, k3⟩ := chkKs_at (env := X.env) (pos := pos) (ks := ks) h8
      have ht := meth_eqK (o := x) (m := g) (apos := ap) (pos := pos) (args := y :: ys) (kws := kws) (env := X.env) (base_of h2) (kwform hpl k1 h4) (beq_iff_eq.mpr h3)
      refine .val O (peI (pe_methKO (sE o O tk h6).pe hc hm F hr hb (fun σ => passAt tk σ) (sEs es O tk h7) (sKs zs O tk h8) k1 k2 (star_of hy) (by rw [hpl, k3]; rfl) ht) fun σ H Q q => ?_) rfl
      obtain ⟨w, M, sd, Qd, Ed, R, rs, l, lx, q⟩ := q
      refine ⟨w, M, sd, _, Ed, R, rs, fun w1 M1 H1 d v s1 R1 r1 q => ?_, lx, q⟩
      obtain ⟨z, q⟩ := q
      obtain ⟨a, dx, fs, e1, e2, e3⟩ := obj_look R1 r1 z
      refine ⟨a, dx, fs, e1, e2, e3, w1, M1, sd, _, Ed, R1, rs.mono s1.le, fun w2 M2 H2 ds vs s2 R2 r2 q => ?_, lx.on s1, q⟩
      obtain ⟨l1, q⟩ := q
      refine ⟨w2, M2, sd, _, Ed, R2, (rs.mono s1.le).mono s2.le, fun w3 M3 H3 us zs s3 R3 r3 q => ?_, (lx.on s1).on s2, q⟩
      obtain ⟨l2, q⟩ := q
      refine ⟨by rw [r2.length]; exact l1, by rw [r3.length]; exact l2, w3, M3, d :: (ds ++ (us ++ df.map Sc.d)), Qd, Ed, R3, ⟨v, _, rfl, (r1.mono s2.le).mono s3.le, ?_⟩, ((l.on s1).on s2).on s3, ((lx.on s1).on s2).on s3, q⟩
      exact (r2.mono s3.le).append (r3.append RelDs.scs)
    · cases h
  | .listRg m a, X, C, W, e, O, tk, h => by
    unfold chkE at h
    split at h
    · simp only [Bool.and_eq_true] at h
      obtain ⟨⟨⟨h1, h2⟩, h3, h5⟩, h4⟩ := h
      rw [Bool.not_eq_true'] at h5
      obtain ⟨hn, hg, hd, hm, _⟩ := blt_of O h1
      obtain ⟨hn2, hg2, hd2, hm2, _⟩ := blt_of O h2
      subst hn; subst hn2
      refine .val O (peI (pe_listRg (O.calm h5) hg hm (prg_1 hg2 hm2 (sE a O tk h4).pe (star_of h3)) rfl) fun σ H Q q => ?_) rfl
      obtain ⟨w, M, sd, Qd, Ed, R, rs, l, lx, q⟩ := q
      refine ⟨w, M, sd, _, Ed, R, rs, fun w1 M1 H1 d v s1 R1 r1 q => ?_, lx, q⟩
      cases d with
      | int j =>
        have r1 : v = .int j := r1
        subst r1
        obtain ⟨q1, q2, q⟩ := q
        refine ⟨j, rfl, ⟨by omega, by omega, by omega, by omega, by omega⟩, fun p hp => ?_⟩
        cases m with
        | true => exact (l.on s1).cell R1 (relDs_rg 0 j) hp q
        | false => exact (l.on s1).lst R1 (relDs_rg 0 j) hp q
      | _ => exact q.elim
    · cases h
  | .dnew, X, C, W, e, O, tk, h => by
    unfold chkE at h
    split at h
    · refine .val O (peI pe_dnewF fun σ H Q q => ?_) rfl
      obtain ⟨w, M, sd, Qd, Ed, R, rs, l, lx, q⟩ := q
      intro p hp
      rw [← O.pg, ← O.wl]
      have le : Le w { w with r := w.r ++ [p] } := ⟨fun _ _ e => e, fun k q e => by
        show (w.r ++ [p])[k]? = some q
        rw [List.getElem?_append_left (List.getElem?_eq_some_iff.mp e).1]; exact e⟩
      obtain ⟨R', s⟩ := R.newC hp (FD P.pg P.wl p []) (.dct []) .fd ⟨R.Fnone hp, [], upd_same, rfl⟩
      exact l _ _ _ (.ref M.length) _ s R' ⟨p, rfl, by show (w.r ++ [p])[M.length]? = some p; rw [R.len]; simp⟩ q
    · cases h
  | .dget o k x, X, C, W, e, O, tk, h => by
    unfold chkE at h
    split at h
    · rename_i y n ap a b pos
      simp only [Bool.and_eq_true, beq_iff_eq] at h
      obtain ⟨⟨⟨⟨⟨⟨⟨h1, h2⟩, h3⟩, h4⟩, h5⟩, h6⟩, h7⟩, h8⟩ := h
      subst h1
      have sb : starEach [a, b] X.env = [(false, eval a X.env), (false, eval b X.env)] := by rw [star_of h4, star_of h5]; rfl
      refine .val O (peI (pe_fget2 (by have := O.hu; omega) (sE o O tk h6).pe (sE k O tk h7).pe (sE x O tk h8).pe ⟨base_of h2, by rw [sb]; rfl, beq_iff_eq.mpr h3, by rw [sb]; rfl⟩) fun σ H Q q => ?_) rfl
      obtain ⟨w, M, sd, Qd, Ed, R, rs, l, lx, q⟩ := q
      refine ⟨w, M, sd, _, Ed, R, rs, fun w1 M1 H1 d v s1 R1 r1 q => ?_, lx, q⟩
      obtain ⟨⟨i, kvs, ed, hm⟩, q⟩ := q
      subst ed
      obtain ⟨p, ev, hp⟩ := r1
      obtain ⟨hF, us, e2, _⟩ := R1.cell i _ p hm hp
      rw [O.pg, O.wl] at e2
      refine ⟨p, us, ev, e2, ?_⟩
      refine ⟨w1, M1, sd, _, Ed, R1, rs.mono s1.le, fun w2 M2 H2 y v2 s2 R2 r2 q => ?_, lx.on s1, q⟩
      refine ⟨w2, M2, sd, _, Ed, R2, (rs.mono s1.le).mono s2.le, fun w3 M3 H3 z v3 s3 R3 r3 q => ?_, (lx.on s1).on s2, q⟩
      have hp3 : w3.r[i]? = some p := s3.le.2 _ _ (s2.le.2 _ _ hp)
      unfold dgetD at q
      dsimp only at q
      split at q
      · rename_i kvs3 hm3
        split at q
        · rename_i ky hk
          obtain ⟨hF3, us3, e3, hs3⟩ := R3.cell i _ p hm3 hp3
          have hv := keyD_at (r2.mono s3.le) hk
          rw [O.pg, O.wl] at e3
          refine ⟨us3, ky, e3, hv, ?_⟩
          exact (((l.on s1).on s2).on s3).same R3 (relKs_getD hs3 r3) q
        · exact q.elim
      · exact q.elim
    · cases h
  | .dlit ks es, X, C, W, e, O, tk, h => by
    unfold chkE at h
    split at h
    · rename_i keys vs pos
      simp only [Bool.and_eq_true, decide_eq_true_eq] at h
      obtain ⟨⟨h1, h2⟩, h3⟩ := h
      obtain ⟨g1, g2, g3⟩ := chkDs_len es h3
      refine .val O (peI (pe_dlitF (sDs es O tk h3) g3 (by rw [g1, g2]) (fun z => by rw [z] at g1; cases ks with
        | nil => cases h1
        | cons _ _ => cases g1) (by rw [g1]; exact h2) h2) fun σ H Q q => ?_) rfl
      obtain ⟨w, M, sd, Qd, Ed, R, rs, l, lx, q⟩ := q
      intro p hp
      rw [← O.pg, ← O.wl]
      have le : Le w { w with r := w.r ++ [p] } := ⟨fun _ _ e => e, fun k q e => by
        show (w.r ++ [p])[k]? = some q
        rw [List.getElem?_append_left (List.getElem?_eq_some_iff.mp e).1]; exact e⟩
      obtain ⟨R', s⟩ := R.newC hp (FD P.pg P.wl p []) (.dct []) .fd ⟨R.Fnone hp, [], upd_same, rfl⟩
      have hpw : ({ w with r := w.r ++ [p] } : Wd).r[M.length]? = some p := by show (w.r ++ [p])[M.length]? = some p; rw [R.len]; simp
      refine ⟨_, _, sd, _, Ed, R', rs.mono s.le, fun w2 M2 H2 ds us s2 R2 r2 q => ?_, lx.on s, q⟩
      obtain ⟨hm, q⟩ := q
      have hp2 : w2.r[M.length]? = some p := s2.le.2 _ _ hpw
      obtain ⟨hF, us0, e2, hs⟩ := R2.cell M.length _ p hm hp2
      have hs : us0 = [] := hs
      subst hs
      obtain ⟨R3, s3⟩ := R2.write (o := FD P.pg P.wl p (fPut (ks.zip us) [])) (m' := .dct (dlitP ks ds [])) hm hF hp2 .fd ⟨hF, _, upd_same, relKs_lit rfl r2⟩
      exact ⟨e2, l _ _ _ (.ref M.length) _ (s.trans (s2.trans s3)) R3 ⟨p, rfl, hp2⟩ q⟩
    · cases h
  | .dnewT, X, C, W, e, O, tk, h => by
    unfold chkE at h
    split at h
    · refine .val O (peI pe_dnewT fun σ H Q q => ?_) rfl
      obtain ⟨w, M, sd, Qd, Ed, R, rs, l, lx, q⟩ := q
      intro p hp
      rw [← O.pg, ← O.wl]
      have le : Le w { w with r := w.r ++ [p] } := ⟨fun _ _ e => e, fun k q e => by
        show (w.r ++ [p])[k]? = some q
        rw [List.getElem?_append_left (List.getElem?_eq_some_iff.mp e).1]; exact e⟩
      obtain ⟨R', s⟩ := R.newC hp (TD P.pg P.wl p []) (.dctT []) .td ⟨R.Fnone hp, [], upd_same, rfl⟩
      exact l _ _ _ (.ref M.length) _ s R' ⟨p, rfl, by show (w.r ++ [p])[M.length]? = some p; rw [R.len]; simp⟩ q
    · cases h
theorem sEs : ∀ (cs : CEs) {X : Cx} {C : Ctx} {W : WX} {es : List Expr}, EnvOk X P C Φ κ → Takes X W → chkEs C cs es = true → PA X es (liA P W (rds Φ κ cs))
  | .nil, X, C, W, es, O, tk, h => by
    unfold chkEs at h
    split at h
    · refine paI pa_nil fun σ H Q q => ?_
      obtain ⟨w, M, sd, Qd, Ed, R, rs, l, lx, q⟩ := q
      exact l w M H [] [] (.refl _ _) R rfl q
    · cases h
  | .cons c cs, X, C, W, es, O, tk, h => by
    unfold chkEs at h
    split at h
    · simp only [Bool.and_eq_true] at h
      refine paI (pa_cons (sE c O tk h.1.2).pe (sEs cs O tk h.2) (star_of h.1.1)) fun σ H Q q => ?_
      obtain ⟨w, M, sd, Qd, Ed, R, rs, l, lx, q⟩ := q
      refine ⟨w, M, sd, _, Ed, R, rs, fun w1 M1 H1 d v s1 R1 r1 q => ?_, lx, q⟩
      refine ⟨w1, M1, sd, _, Ed, R1, rs.mono s1.le, fun w2 M2 H2 ds vs s2 R2 r2 q => ?_, lx.on s1, q⟩
      exact l w2 M2 H2 (d :: ds) (v :: vs) (s1.trans s2) R2 (.cons (r1.mono s2.le) r2) q
    · cases h
theorem sKs : ∀ (cs : CEs) {X : Cx} {C : Ctx} {W : WX} {ks : List Str} {kws : List Keyword}, EnvOk X P C Φ κ → Takes X W → chkKs C ks cs kws = true → PK X kws (liA P W (rds Φ κ cs))
  | .nil, X, C, W, ks, kws, O, tk, h => by
    unfold chkKs at h
    split at h
    · refine ⟨fun pos pins s σ H Q I q => pk_nil.run pos pins s σ H Q I ?_⟩
      obtain ⟨w, M, sd, Qd, Ed, R, rs, l, lx, q⟩ := q
      exact l w M H [] [] (.refl _ _) R rfl q
    · cases h
  | .cons c cs, X, C, W, ks, kws, O, tk, h => by
    unfold chkKs at h
    split at h
    · simp only [Bool.and_eq_true] at h
      refine ⟨fun pos pins s σ H Q I q => (pk_cons (sE c O tk h.1.2).pe (sKs cs O tk h.2)).run pos pins s σ H Q I ?_⟩
      obtain ⟨w, M, sd, Qd, Ed, R, rs, l, lx, q⟩ := q
      refine ⟨w, M, sd, _, Ed, R, rs, fun w1 M1 H1 d v s1 R1 r1 q => ?_, lx, q⟩
      refine ⟨w1, M1, sd, _, Ed, R1, rs.mono s1.le, fun w2 M2 H2 ds vs s2 R2 r2 q => ?_, lx.on s1, q⟩
      exact l w2 M2 H2 (d :: ds) (v :: vs) (s1.trans s2) R2 (.cons (r1.mono s2.le) r2) q
    · cases h
theorem sDs : ∀ (cs : CEs) {X : Cx} {C : Ctx} {W : WX} {ks : List Str} {keys : List (Option Expr)} {vs : List Expr}, EnvOk X P C Φ κ → Takes X W → chkDs C ks cs keys vs = true → PD X ks keys vs (liA P W (rds Φ κ cs))
  | .nil, X, C, W, ks, keys, vs, O, tk, h => by
    unfold chkDs at h
    split at h
    · refine ⟨fun pos pins s σ H Q I q => pd_nil.run pos pins s σ H Q I ?_⟩
      obtain ⟨w, M, sd, Qd, Ed, R, rs, l, lx, q⟩ := q
      exact l w M H [] [] (.refl _ _) R rfl q
    · cases h
  | .cons c cs, X, C, W, ks, keys, vs, O, tk, h => by
    unfold chkDs at h
    split at h
    · simp only [Bool.and_eq_true, beq_iff_eq] at h
      obtain ⟨⟨h1, h2⟩, h3⟩ := h
      subst h1
      refine ⟨fun pos pins s σ H Q I q => (pd_cons (sE c O tk h2).pe (sDs cs O tk h3)).run pos pins s σ H Q I ?_⟩
      obtain ⟨w, M, sd, Qd, Ed, R, rs, l, lx, q⟩ := q
      refine ⟨w, M, sd, _, Ed, R, rs, fun w1 M1 H1 d v s1 R1 r1 q => ?_, lx, q⟩
      refine ⟨w1, M1, sd, _, Ed, R1, rs.mono s1.le, fun w2 M2 H2 ds vs s2 R2 r2 q => ?_, lx.on s1, q⟩
      exact l w2 M2 H2 (d :: ds) (v :: vs) (s1.trans s2) R2 (.cons (r1.mono s2.le) r2) q
    · cases h
theorem sO : ∀ (c : CO) {X : Cx} {C : Ctx} {W : WX} {e : Option Expr}, EnvOk X P C Φ κ → Takes X W → chkO C c e = true → PO X e (liO P W (rdo Φ κ c))
  | .none, X, C, W, e, O, tk, h => by
    unfold chkO at h
    split at h
    · refine poI po_none fun σ H Q q => ?_
      obtain ⟨w, M, sd, Qd, Ed, R, rs, l, lx, q⟩ := q
      exact l w M H none (.refl _ _) R q
    · cases h
  | .some c, X, C, W, e, O, tk, h => by
    unfold chkO at h
    split at h
    · refine poI (po_some (sE c O tk h).pe) fun σ H Q q => ?_
      obtain ⟨w, M, sd, Qd, Ed, R, rs, l, lx, q⟩ := q
      refine ⟨w, M, sd, _, Ed, R, rs, fun w1 M1 H1 d v s1 R1 r1 q => ?_, lx, q⟩
      cases d with
      | int i =>
        have r1 : v = .int i := r1
        exact ⟨i, r1, l w1 M1 H1 (some i) s1 R1 q⟩
      | _ => exact q.elim
    · cases h
theorem sF : ∀ (c : CO) {X : Cx} {C : Ctx} {W : WX} {e : List Expr}, EnvOk X P C Φ κ → Takes X W → chkF C c e = true → PTs X e (liT P W (rdt Φ κ c))
  | .none, X, C, W, e, O, tk, h => by
    unfold chkF at h
    split at h
    · refine ⟨fun pins s σ H Q I q => pts_nil.run pins s σ H Q I ?_⟩
      obtain ⟨w, M, sd, Qd, Ed, R, rs, l, lx, q⟩ := q
      exact l w M H true (.refl _ _) R q
    · cases h
  | .some c, X, C, W, e, O, tk, h => by
    unfold chkF at h
    split at h
    · exact pts_one (sE c O tk h).pt
    · cases h
theorem sI : ∀ (c : CI) {X : Cx} {C : Ctx} {W : WX} {tg e : Expr}, EnvOk X P C Φ κ → Takes X W → chkI C c e = true → PI X tg e (liI P X.K W (rdi Φ κ c))
  | .seq c, X, C, W, tg, e, O, tk, h => by
    unfold chkI at h
    rw [Bool.and_eq_true] at h
    refine piI (pi_seq (sE c O tk h.2).pe) fun σ H Q q => ?_
    obtain ⟨w, M, sd, Qd, Ed, R, rs, l, lx, q⟩ := q
    refine ⟨w, M, sd, _, Ed, R, rs, fun w1 M1 H1 d v s1 R1 r1 q => ?_, lx, q⟩
    split at q
    · rename_i ds hds
      obtain ⟨a, e1, z⟩ := itOk_seq O.K R1 r1 hds
      refine ⟨a, e1, ?_⟩
      rcases z with ⟨z1, z2⟩ | ⟨z1, z2⟩
      · exact .inl ⟨z1, l w1 M1 H1 _ _ _ s1 R1 z2 q⟩
      · exact .inr ⟨z1, l w1 M1 H1 _ _ _ s1 R1 z2 q⟩
    · exact q.elim
  | .chars c, X, C, W, tg, e, O, tk, h => by
    unfold chkI at h
    rw [Bool.and_eq_true] at h
    refine piI (pi_str (sE c O tk h.2).pe) fun σ H Q q => ?_
    obtain ⟨w, M, sd, Qd, Ed, R, rs, l, lx, q⟩ := q
    refine ⟨w, M, sd, _, Ed, R, rs, fun w1 M1 H1 d v s1 R1 r1 q => ?_, lx, q⟩
    cases d with
    | str z =>
      have r1 : v = .str z := r1
      exact ⟨z, r1, l w1 M1 H1 _ _ _ s1 R1 (.chr rfl) q⟩
    | _ => exact q.elim
  | .rng1 c, X, C, W, tg, e, O, tk, h => by
    unfold chkI at h
    split at h
    · simp only [Bool.and_eq_true] at h
      obtain ⟨hn, hg, hd, hm, _⟩ := blt_of O h.1.1
      subst hn
      refine piI (pi_range1 hg hm (pa_cons (sE c O tk h.2).pe pa_nil (star_of h.1.2)) (star_of h.1.2)) fun σ H Q q => ?_
      obtain ⟨w, M, sd, Qd, Ed, R, rs, l, lx, q⟩ := q
      refine ⟨w, M, sd, _, Ed, R, rs, fun w1 M1 H1 d v s1 R1 r1 q => ?_, lx, q⟩
      cases d with
      | int j =>
        have r1 : v = .int j := r1
        subst r1
        refine ⟨j, rfl, q.1, q.2.1, ?_⟩
        have z := l w1 M1 H1 _ _ _ s1 R1 (.rng (i := 0) (j := j) rfl) q.2.2
        simpa using z
      | _ => exact q.elim
    · cases h
  | .rng2 c c2, X, C, W, tg, e, O, tk, h => by
    unfold chkI at h
    split at h
    · simp only [Bool.and_eq_true] at h
      obtain ⟨hn, hg, hd, hm, _⟩ := blt_of O h.1.1.1.1
      subst hn
      refine piI (pi_range2 hg hm (pa_cons (sE c O tk h.1.2).pe (pa_cons (sE c2 O tk h.2).pe pa_nil (star_of h.1.1.2)) (star_of h.1.1.1.2)) (by rw [star_of h.1.1.1.2, star_of h.1.1.2]; rfl) (by rw [star_of h.1.1.2]; rfl)) fun σ H Q q => ?_
      obtain ⟨w, M, sd, Qd, Ed, R, rs, l, lx, q⟩ := q
      refine ⟨w, M, sd, _, Ed, R, rs, fun w1 M1 H1 d v s1 R1 r1 q => ?_, lx, q⟩
      refine ⟨w1, M1, sd, _, Ed, R1, rs.mono s1.le, fun w2 M2 H2 d2 v2 s2 R2 r2 q => ?_, lx.on s1, q⟩
      cases d <;> cases d2 <;> first | exact False.elim q | skip
      have r1 : v = .int _ := r1
      have r2 : v2 = .int _ := r2
      subst r1; subst r2
      obtain ⟨q1, q2, q3, q4, q⟩ := q
      exact ⟨_, _, rfl, ⟨q1, q2, q3, q4⟩, l w2 M2 H2 _ _ _ (s1.trans s2) R2 (.rng rfl) q⟩
    · cases h
end
end
end DL
namespace DL
open PySem L2
theorem swaps_cell {e : Expr} {x : Str} {p : Pos} {l : Nat} {env : Env} (h : env.scope.names.lookup x = some .cell) : swapsWith e (some (.Name x p)) l env = pure false := by
  have k : env.kindOf x = some .cell := h
  cases e <;> first
    | rfl
    | (unfold swapsWith; simp only [k]; cases hb : (env.blockKind == ScopeKind.function) <;> rfl)
    | (unfold swapsWith; simp only [k]; cases hb : (env.blockKind == ScopeKind.function) <;> simp; done)
theorem sole_tuple {t e : Expr} {l : Nat} {env : Env} (ht : ∀ x p, t ≠ .Name x p) : swapsWithSole [t] e l env = pure false := by
  cases t <;> first
    | exact absurd rfl (ht _ _)
    | (cases e <;> rfl)
theorem swst_none {t e : Expr} {env : Env} (h : notTuple e = true) : swappedStores [t] e env = pure none := by
  cases e <;> first
    | (exfalso; simp [notTuple] at h; done)
    | (unfold swappedStores; cases t <;> rfl)
theorem swst_many {t e : Expr} {env : Env} (h : manyTuple e = true) : swappedStores [t] e env = pure none := by
  cases e with
  | Tuple vs k p =>
    have h : 3 < vs.length := of_decide_eq_true h
    unfold swappedStores
    cases t with
    | Tuple ts k2 p2 =>
      dsimp only
      have e1 : (!(ts.length == 2 || ts.length == 3) || vs.length != ts.length || env.blockKind != ScopeKind.function) = true := by
        by_cases h2 : ts.length = 2
        · have : (vs.length != ts.length) = true := by simp; omega
          rw [this]; simp
        · by_cases h3 : ts.length = 3
          · have : (vs.length != ts.length) = true := by simp; omega
            rw [this]; simp
          · have : (ts.length == 2 || ts.length == 3) = false := by simp [h2, h3]
            rw [this]; simp
      rw [if_pos e1]
    | List ts p2 =>
      dsimp only
      have e1 : (!(ts.length == 2 || ts.length == 3) || vs.length != ts.length || env.blockKind != ScopeKind.function) = true := by
        by_cases h2 : ts.length = 2
        · have : (vs.length != ts.length) = true := by simp; omega
          rw [this]; simp
        · by_cases h3 : ts.length = 3
          · have : (vs.length != ts.length) = true := by simp; omega
            rw [this]; simp
          · have : (ts.length == 2 || ts.length == 3) = false := by simp [h2, h3]
            rw [this]; simp
      rw [if_pos e1]
    | _ => rfl
  | _ => exact swst_none rfl
theorem starF {vs : List Expr} (h : vs.all plainE = true) : (vs.any fun | .Starred .. => true | _ => false) = false := by
  rw [List.any_eq_false]
  intro e he
  have := List.all_eq_true.mp h e he
  cases e <;> simp [plainE] at this ⊢
theorem swst_two {x y : Str} {px py kt pt : _} {a b : Expr} {k2 pt2 : _} {env : Env} (hk : env.blockKind = .function) (hx : env.kindOf x = some .local) (hy : env.kindOf y = some .local) (hl : (py.line == px.line) = true) (hn : (x == y) = false) (hp : parOk [a, b] = true) :
    swappedStores [.Tuple [.Name x px, .Name y py] kt pt] (.Tuple [a, b] k2 pt2) env = pure (some [x, y]) := by
  unfold parOk at hp
  simp only [Bool.and_eq_true, Bool.not_eq_true'] at hp
  obtain ⟨⟨h1, h2⟩, h3⟩ := hp
  have h4 := starF h1
  have e2 : ([x, y] : List Str).eraseDups.length = 2 := by
    have : (y == x) = false := by rw [beq_eq_false_iff_ne] at hn ⊢; exact fun z => hn z.symm
    simp [List.eraseDups, List.eraseDupsBy, List.eraseDupsBy.loop, this]
  have hl' : py.line = px.line := beq_iff_eq.mp hl
  unfold swappedStores
  simp [hk, h4, hx, hy, hl', e2, h2, h3, Expr.pos]
  intro z
  exfalso
  rcases z with z | z
  · cases a <;> first | (simp [plainE] at h1; done) | cases z
  · cases b <;> first | (simp [plainE] at h1; done) | cases z
theorem swst_three {x y z : Str} {px py pz kt pt : _} {a b c : Expr} {k2 pt2 : _} {env : Env} (hk : env.blockKind = .function) (hx : env.kindOf x = some .local) (hy : env.kindOf y = some .local) (hz : env.kindOf z = some .local) (hl : (py.line == px.line) = true) (hl2 : (pz.line == px.line) = true)
    (hn : (x == y) = false) (hn2 : (x == z) = false) (hn3 : (y == z) = false) (hp : parOk [a, b, c] = true) :
    swappedStores [.Tuple [.Name x px, .Name y py, .Name z pz] kt pt] (.Tuple [a, b, c] k2 pt2) env = pure (some [x, y, z]) := by
  unfold parOk at hp
  simp only [Bool.and_eq_true, Bool.not_eq_true'] at hp
  obtain ⟨⟨h1, h2⟩, h3⟩ := hp
  have h4 := starF h1
  have e2 : ([x, y, z] : List Str).eraseDups.length = 3 := by
    have t1 : (y == x) = false := by rw [beq_eq_false_iff_ne] at hn ⊢; exact fun w => hn w.symm
    have t2 : (z == x) = false := by rw [beq_eq_false_iff_ne] at hn2 ⊢; exact fun w => hn2 w.symm
    have t3 : (z == y) = false := by rw [beq_eq_false_iff_ne] at hn3 ⊢; exact fun w => hn3 w.symm
    simp [List.eraseDups, List.eraseDupsBy, List.eraseDupsBy.loop, t1, t2, t3]
  have hl' : py.line = px.line := beq_iff_eq.mp hl
  have hl2' : pz.line = px.line := beq_iff_eq.mp hl2
  unfold swappedStores
  simp [hk, h4, hx, hy, hz, hl', hl2', e2, h2, h3, Expr.pos]
  intro z
  exfalso
  rcases z with z | z | z
  · cases a <;> first | (simp [plainE] at h1; done) | cases z
  · cases b <;> first | (simp [plainE] at h1; done) | cases z
  · cases c <;> first | (simp [plainE] at h1; done) | cases z
section
variable {X : Cx} {P : Pm} {C : Ctx} {Φ : Nat → SpD} {κ : Nat → D} {W : WX}
theorem relTs_any {w : Wd} {k : NestedKey} : ∀ {kvs : List (D × D)} {es : List (NestedKey × Addr × V)}, RelTs P w kvs es → (es.any fun x => decide (x.1 = k)) = (kvs.any fun kv => decide (keyN kv.1 = some k))
  | [], es, r => by
    have r : es = [] := r
    subst r; rfl
  | (kd, d) :: kvs, es, ⟨j, b, v, es', e, h1, h2, h3, h4, h5⟩ => by
    subst e
    rw [List.any_cons, List.any_cons, relTs_any h5, h1]
    congr 1
    simp
theorem relTs_put {w : Wd} {k : NestedKey} {kd d : D} {b : Addr} {v : V} (r1 : RelD P w kd (.ref b)) (hk : keyN kd = some k) (hd : k.depth ≤ 8) (r : RelD P w d v) {kvs : List (D × D)} {es : List (NestedKey × Addr × V)} (h : RelTs P w kvs es) : RelTs P w (dctPutT kvs kd k d) (tPut es k b v) := by
  unfold dctPutT tPut
  rw [relTs_any h]
  split
  · next hc =>
    clear hc
    induction kvs generalizing es with
    | nil => have h : es = [] := h; subst h; rfl
    | cons p kvs ih =>
      obtain ⟨kd', d'⟩ := p
      obtain ⟨j, b', v', es', e, h1, h2, h3, h4, h5⟩ := h
      subst e
      rw [List.map_cons, List.map_cons]
      by_cases hj : j = k
      · simp only [h1, hj, if_true]
        exact ⟨k, b', v, _, rfl, hj ▸ h1, hj ▸ h2, h3, r, ih h5⟩
      · have : ¬ keyN kd' = some k := by rw [h1]; intro z; exact hj (Option.some.inj z)
        simp only [this, hj, if_false]
        exact ⟨j, b', v', _, rfl, h1, h2, h3, h4, ih h5⟩
  · next hc =>
    clear hc
    induction kvs generalizing es with
    | nil => have h : es = [] := h; subst h; exact ⟨k, b, v, [], rfl, hk, hd, r1, r, rfl⟩
    | cons p kvs ih =>
      obtain ⟨kd', d'⟩ := p
      obtain ⟨j, b', v', es', e, h1, h2, h3, h4, h5⟩ := h
      subst e
      exact ⟨j, b', v', _, rfl, h1, h2, h3, h4, ih h5⟩
/-- o[i] = v below -/
def setIxD (x y d : D) (M : Md) (Q : Md → Prop) : Prop := match x with
    | .ref k => match M[k]?, y with
      | some (.lst ds), .int j => match ixN ds.length j with
        | some j => Q (M.set k (.lst (ds.set j d)))
        | none => False
      | some (.dct kvs), y => match keyD y with
        | some ky => kvs.length < sizeLine ∧ Q (M.set k (.dct (dctPut kvs ky d)))
        | none => False
      | some (.dctT kvs), y => match tKey y with
        | some ky => kvs.length < sizeLine ∧ Q (M.set k (.dctT (dctPutT kvs y ky d)))
        | none => False
      | _, _ => False
    | _ => False
def rSetIx (P : Pm) : V → V → V → Hp → (Hp → Prop) → Prop := fun o i v H Q => ∃ w M x y d, RepM P w M H ∧ RelD P w x o ∧ RelD P w y i ∧ RelD P w d v ∧
  setIxD x y d M fun M' => ∀ H', Step w H w H' → RepM P w M' H' → Q H'
theorem setIx_sound (O : EnvOk X P C Φ κ) : PSet X (rSetIx P) := by
  intro pins s σ H o i v ov iv u Q I ro ri rv q
  obtain ⟨w, M, x, y, d, R, rx, ry, rd, q⟩ := q
  unfold setIxD at q
  split at q
  · rename_i k
    obtain ⟨p, e, hp⟩ := rx
    subst e
    split at q
    · rename_i ds j hm
      split at q
      · rename_i j' hj
        obtain ⟨hF, vs, e2, hs⟩ := R.cell k _ p hm hp
        have ry : i = .int j := ry
        obtain ⟨R', s'⟩ := R.write (o := .lst (vs.set j' v)) (m' := .lst (ds.set j' d)) hm hF hp .lst ⟨hF, _, upd_same, hs.set j' rd⟩
        exact set_list pins s σ H _ i v ov iv u Q I ro ri rv ⟨p, vs, j, j', rfl, ry, e2, by rw [hs.length]; exact hj, q _ s' R'⟩
      · exact q.elim
    · rename_i kvs hm
      split at q
      · rename_i ky hk
        obtain ⟨hF, us, e2, hs⟩ := R.cell k _ p hm hp
        have hv := keyD_at ry hk
        subst hv
        obtain rfl : ov = Value.ref p := ro
        obtain ⟨R', s'⟩ := R.write (o := FD P.pg P.wl p (putK us ky v)) (m' := .dct (dctPut kvs ky d)) hm hF hp .fd ⟨hF, _, upd_same, relKs_put hs rd⟩
        rw [O.pg, O.wl] at e2
        refine fd_setItem I e2 (by rw [hs.length]; exact q.1) ri rv fun s2 I2 => ⟨_, I2, ?_⟩
        rw [← O.pg, ← O.wl]
        exact q.2 _ s' R'
      · exact q.elim
    · rename_i kvs hm
      split at q
      · rename_i ky hk
        obtain ⟨hF, es, e2, hs⟩ := R.cell k _ p hm hp
        obtain ⟨⟨ds, hd⟩, k1, k2⟩ := tKey_at hk
        have hn := nest_of O.K I R ry ri k1
        subst hd
        obtain ⟨b, vs, ev, _, _⟩ := id ry
        subst ev
        obtain rfl : iv = Value.ref b := ri
        obtain rfl : ov = Value.ref p := ro
        obtain ⟨R', s'⟩ := R.write (o := TD P.pg P.wl p (tPut es ky b v)) (m' := .dctT (dctPutT kvs (.tup ds) ky d)) hm hF hp .td ⟨hF, _, upd_same, relTs_put ry k1 k2 rd hs⟩
        rw [O.pg, O.wl] at e2
        refine td_setItem (by have := O.hu; omega) I e2 (keysAt_of O.K I R hs) ⟨hn, k2⟩ (by rw [hs.length]; exact q.1) rv fun s2 I2 => ⟨_, I2, ?_⟩
        rw [← O.pg, ← O.wl]
        exact q.2 _ s' R'
      · exact q.elim
    · exact q.elim
  · exact q.elim
/-- o.f = .., as one of several targets -/
def gFld (K : PySem.W.Frag) (ta : TE) (f : Str) : TG := fun v σ H Q => ta σ H fun x H1 => ∃ a C dx fs, x = .ref a ∧ H1 a = some (.ins C dx fs) ∧ Cls K C ∧ NoAttr K C f ∧ fs.length < 1000 ∧ Q σ (upd H1 a (.ins C dx (putF f v fs)))
theorem pg_fld {o : Expr} {f : Str} {pos : Pos} {ta : TE} (ha : PE X o ta) : PG X (.Attribute o f pos) (gFld X.K ta f) := by
  refine ⟨fun pins s σ H v u Q I r h => ?_⟩
  show wpAny _ _ (do
    let ov ← holding [u] (eval o X.env)
    standAt pos.atName
    holding [u, ov] (setAttr ov f u)
    release [u, ov] []) _ _ s
  refine wpAny_bind (wpAny_holding (thn (ha.run pins s σ H _ I h) fun ov s1 ⟨x, H1, I1, rx, a, C, dx, fs, ex, ea, c, n, l, q⟩ => ?_))
  subst ex
  obtain rfl : ov = Value.ref a := rx
  refine wpAny_bind (wpAny_standAt (wpAny_bind (wpAny_holding (setattr_ok I1 ea c n l r fun s3 I3 => ?_))))
  exact wpAny_release ⟨σ, _, I3, q⟩
theorem sTF : ∀ (os : CEs) {X : Cx} {C : Ctx} {W : WX} {cf : List (Str × Str)} {es : List Expr}, EnvOk X P C Φ κ → Takes X W → chkTF C cf os es = true → ∃ t, PGs X es t ∧ (assignEach es X.env).length = cf.length ∧ (assignEach es X.env).findIdx? (·.1) = none ∧
    ∀ {w M H sd σ ds vs} {Qd : Md → Prop} {Ed : EX} {Q : L2.St → Hp → Prop}, RepM P w M H → RelSt P w sd σ → RelDs P w ds vs → (∀ w' M' H', Step w H w' H' → RepM P w' M' H' → RelSt P w' sd σ → Qd M' → Q σ H') → LkX P w H Ed (WE W σ) → setTFd Φ κ Ed sd cf os ds M Qd → t vs σ H Q
  | .nil, X, C, W, cf, es, O, tk, h => by
    unfold chkTF at h
    split at h
    · refine ⟨_, pgs_nil, rfl, rfl, fun {w M H sd σ ds vs Qd Ed Q} R rs r l lx q => ?_⟩
      cases ds with
      | nil => exact ⟨r, l w M H (.refl _ _) R rs q⟩
      | cons d ds => exact q.elim
    · rename_i z; cases z
    · cases h
  | .cons o os, X, C, W, cf, es, O, tk, h => by
    unfold chkTF at h
    split at h
    · rename_i z; cases z
    · rename_i c f r o' os' a g pa es' z
      cases z
      simp only [Bool.and_eq_true, beq_iff_eq] at h
      obtain ⟨⟨⟨h1, h2⟩, h3⟩, h4⟩ := h
      subst h1
      obtain ⟨hc, hn⟩ := O.fl _ (List.elem_iff.mp h2)
      obtain ⟨t, g1, g2, g3, g4⟩ := sTF os O tk h4
      refine ⟨_, pgs_cons (pg_fld (sE o O tk h3).pe) g1 rfl, ?_, ?_, fun {w M H sd σ ds vs Qd Ed Q} R rs rr l lx q => ?_⟩
      · show (assignEach es' X.env).length + 1 = _
        rw [g2]; rfl
      · show List.findIdx? (·.1) ((false, _) :: assignEach es' X.env) = none
        rw [List.findIdx?_cons, g3]; rfl
      · cases ds with
        | nil => exact q.elim
        | cons d ds =>
          obtain ⟨v, us, e, r1, r2⟩ := rr
          refine ⟨v, us, e, w, M, sd, _, Ed, R, rs, fun w1 M1 H1 x vx s1 R1 rx z => ?_, lx, q⟩
          clear q
          cases x with
          | ref k =>
            obtain ⟨p, e1, hp2⟩ := rx
            subst e1
            unfold setFD at z
            dsimp only at z
            cases hM : M1[k]? with
            | none => rw [hM] at z; exact z.elim
            | some mo =>
              rw [hM] at z
              cases mo with
              | ins c' fs =>
                obtain ⟨q1, q2, z⟩ := z
                subst q1
                obtain ⟨hF, dx, vs', e2, hs⟩ := R1.cell k _ p hM hp2
                have hl : vs'.length < 1000 := by rw [hs.length]; exact q2
                have ry := r1.mono s1.le
                obtain ⟨R', s'⟩ := R1.write (o := .ins (P.cls _) dx (putF f v vs')) (m' := .ins _ (putFD f d fs)) hM hF hp2 .ins ⟨hF, dx, _, upd_same, relKs_putF ry hs⟩
                refine ⟨p, _, dx, vs', rfl, e2, hc, hn, hl, ?_⟩
                have s12 := s1.trans s'
                exact g4 R' (rs.mono s12.le) (r2.mono s12.le) (fun w2 M2 H2 s2 R2 rs2 q2 => l w2 M2 H2 (s12.trans s2) R2 rs2 q2) (lx.on s12) z
              | _ => exact z.elim
          | _ => exact z.elim
    · cases h
theorem relKs_zip2 {w : Wd} : ∀ {fs : List Str} {ds : List D} {vs : List V}, fs.length = ds.length → RelDs P w ds vs → RelKs P w (fs.zip ds) (fs.zip vs)
  | [], ds, vs, _, _ => by rw [List.zip_nil_left, List.zip_nil_left]; rfl
  | f :: fs, [], vs, hl, _ => by cases hl
  | f :: fs, d :: ds, vs, hl, ⟨v, us, e, h1, h2⟩ => by
    subst e
    rw [List.zip_cons_cons, List.zip_cons_cons]
    exact ⟨v, _, rfl, h1, relKs_zip2 (by simpa using hl) h2⟩
theorem relKs_rev {κ : Type} {w : Wd} : ∀ {ds : List (κ × D)} {us : List (κ × V)}, RelKs P w ds us → RelKs P w ds.reverse us.reverse
  | [], us, h => by
    have h : us = [] := h
    subst h; rfl
  | (k, d) :: ds, us, ⟨v, us', e, h1, h2⟩ => by
    subst e
    rw [List.reverse_cons, List.reverse_cons]
    exact relKs_snoc h1 (relKs_rev h2)
theorem chkEs_cons {C : Ctx} {cs : CEs} {y : Expr} {ys : List Expr} (h : chkEs C cs (y :: ys) = true) : plainE y = true ∧ ∃ c2, chkEs C c2 ys = true := by
  cases cs with
  | nil => cases h
  | cons c cs =>
    have h : (plainE y && chkE C c y && chkEs C cs ys) = true := h
    simp only [Bool.and_eq_true] at h
    exact ⟨h.1.1, cs, h.2⟩
/-- an own exception, no __init__ of its own, one argument -/
theorem pmk_one {x : Str} {Ca : Addr} {e : Expr} {te : TE} {p pos : Pos} (R : RaisN X.K Ca) (hm : X.mg x = some (.ref Ca)) (hg : Gl X x) (hdb : (x == ("__debug__" : Str)) = false) (he : PE X e te) (st : starEach [e] X.env = (false, eval e X.env) :: starEach [] X.env) :
    PMk X (.Call (.Name x p) [e] [] pos) (fun σ H Q => tCons te tNil σ H fun vs H1 => vs.length = 1 ∧ Q (.ref Ca) none H1) := by
  intro pins st0 σ H Q I h
  refine wpAny_Call_Name_kw (ld_glob I hg hm ?_ hdb)
  have ha : PA X [e] (tCons te tNil) := pa_cons he pa_nil st
  refine PySem.W.callWith_K (h₀ := X.base) I.ok.mod.kin R.kp (thn (ha.run pos pins st0 σ H (fun vs H1 => vs.length = 1 ∧ Q (.ref Ca) none H1) I h) fun us s1 hh => ?_) st rfl
  obtain ⟨vs, H1, I1, r1, hl, q⟩ := hh
  refine ⟨I1.kIn, ?_⟩
  have hus : us.length = 1 := by rw [← r1.length]; exact hl
  match us, hus with
  | [u], _ =>
    show wpAny _ _ (call (.ref Ca) [u]) _ _ _
    obtain ⟨bm, N, nm, qn, bs, hdct, sn, sub, ab, col, dd, k0, k1, k2, k3, k5, mN, hC, hN, hni, T⟩ := exc_obj I1.kIn R.ex
    refine wpAny_call_exc_subT PySem.F.excBase_ValueError T hC hN hni (fun h' a ha' => ?_) (by show 1 ≤ sizeLine; rw [sizeLine_eq]; omega)
    exact mk_of I1 ha' (raises_own R.sb R.ty) q (I1.hok.gone ha'.new)
mutual
theorem sS : ∀ (c : CS) {X : Cx} {C : Ctx} {W : WX} {s : Stmt}, EnvOk X P C Φ κ → C.sc.kind = .function → Takes X W → PassesOwn (model X.prog X.w) X.A X.env X.xe → chkS C c s = true → PS X s (liS P W (rS Φ κ c))
  | .setFld c o f v, X, C, W, s, O, hk, tk, hp, h => by
    unfold chkS at h
    split at h
    · rename_i a g ps e pos
      simp only [Bool.and_eq_true, beq_iff_eq] at h
      obtain ⟨⟨⟨h1, h2⟩, h4⟩, h5⟩ := h
      subst h1
      obtain ⟨hc, hn⟩ := O.fl _ (List.elem_iff.mp h2)
      refine psI (ps_fld (sE o O tk h4).pe (sE v O tk h5).pe ?_) fun K σ H q => ?_
      · cases e <;> rfl
      · obtain ⟨w, M, sd, Kd, Ed, R, rs, l, lx, q⟩ := q
        refine ⟨w, M, sd, _, _, R, rs, fun w1 M1 H1 d y s1 R1 r1 q => ?_, lx.at rs, q⟩
        refine ⟨w1, M1, sd, _, _, R1, rs.mono s1.le, fun w2 M2 H2 x vx s2 R2 r2 z => ?_, (lx.on s1).at (rs.mono s1.le), q⟩
        clear q
        unfold setFD at z
        split at z
        · rename_i k
          obtain ⟨p, e1, hp2⟩ := r2
          subst e1
          split at z
          · rename_i c' fs hm
            obtain ⟨q1, q2, z⟩ := z
            subst q1
            obtain ⟨hF, dx, us, e2, hs⟩ := R2.cell k _ p hm hp2
            have hl : us.length < 1000 := by rw [hs.length]; exact q2
            have ry := r1.mono s2.le
            obtain ⟨R', s'⟩ := R2.write (o := .ins (P.cls _) dx (putF f y us)) (m' := .ins _ (putFD f d fs)) hm hF hp2 .ins ⟨hF, dx, _, upd_same, relKs_putF ry hs⟩
            exact ⟨p, _, dx, us, rfl, e2, hc, hn, hl, l.nx _ _ _ _ _ ((s1.trans s2).trans s') R' (((rs.mono s1.le).mono s2.le).mono s'.le) z⟩
          · exact z.elim
        · exact z.elim
    · cases h
  | .set i c, X, C, W, s, O, hk, tk, hp, h => by
    unfold chkS at h
    split at h
    · rename_i x px e pos
      simp only [Bool.and_eq_true, Bool.or_eq_true] at h
      obtain ⟨⟨h1, h2⟩, h3⟩ := h
      obtain ⟨t1, t2, t3⟩ := tgt_of O h1
      have he := (sE c O tk h2).pe
      have fin : ∀ K σ H, liS P W (rS Φ κ (.set i c)) K σ H → tAsg (liE P W (rd Φ κ c).1) (gName i) K σ H := fun K σ H q => by
        obtain ⟨w, M, sd, Kd, Ed, R, rs, l, lx, q⟩ := q
        exact ⟨w, M, sd, _, _, R, rs, fun w1 M1 H1 d v s1 R1 r1 q => l.nx w1 M1 H1 _ _ s1 R1 (relSt_set (rs.mono s1.le) i r1) q, lx.at rs, q⟩
      have nd : X.N.Nodup := by rw [O.N]; exact O.nd
      rcases h3 with (h3 | h3) | h3
      · exact psI (ps_set nd t1 t2 he (swaps_of h3) t3) fin
      · unfold lcSwap at h3
        split at h3
        · rename_i elt gs scope lpos
          simp only [Bool.and_eq_true, beq_iff_eq, Bool.not_eq_true'] at h3
          obtain ⟨⟨k1, k2⟩, k3⟩ := h3
          have hl : X.env.scope.names.lookup x = some .local := by rw [O.sc]; exact k1
          cases c with
          | comp m elt' t it ifs own =>
            unfold chkE at h2
            split at h2
            · rename_i x' tg iter fs scope' pos' heq
              cases heq
              simp only [Bool.and_eq_true] at h2
              obtain ⟨⟨⟨⟨⟨⟨⟨⟨g0, g1⟩, g2⟩, g3⟩, g4⟩, g5⟩, g6⟩, g7⟩, g8⟩ := h2
              have hot : C.X.hot = false := by rwa [Bool.not_eq_true'] at g0
              have e : (own.filterMap fun i => (C.N[i]?).map fun n => (n, i)).map (·.2) = own := by
                clear g1 g3 he fin
                induction own with
                | nil => rfl
                | cons i is ih =>
                  rw [List.all_cons, Bool.and_eq_true, decide_eq_true_eq] at g2
                  rw [List.filterMap_cons, List.getElem?_eq_getElem g2.1]
                  simp only [Option.map_some, List.map_cons]
                  rw [ih g2.2]
              refine psI (ps_setLc (own := own.filterMap fun i => (C.N[i]?).map fun n => (n, i)) (O.calm hot) nd t1 hl (sw_true (by rw [O.sc]; exact hk) hl (beq_iff_eq.mpr k2) k3) (sI it O tk g6) (blkOk_by (by rw [O.N, O.sc]; exact g1))
                (fun s H A cl fp => pgc_of (O.blk hot s H scope A cl fp) g5) (fun s H A cl fp => sF ifs (O.blk hot s H scope A cl fp) takes0 g8) (fun s H A cl fp => (sE elt' (O.blk hot s H scope A cl fp) takes0 g7).pe) (folded_of g4)) fun K σ H q => ?_
              rw [e]
              exact comp_lift (fun j hj => List.elem_iff.mp (List.all_eq_true.mp g3 j hj)) σ H _ (by
                obtain ⟨w, M, sd, Kd, Ed, R, rs, l, lx, q⟩ := q
                exact ⟨w, M, sd, _, _, R, rs, fun w1 M1 H1 d v s1 R1 r1 q => l.nx w1 M1 H1 _ _ s1 R1 (relSt_set (rs.mono s1.le) i r1) q, lx.at rs, q⟩)
            · cases h2
          | blt b es =>
            by_cases hT : ∃ T, b = .isi T
            · obtain ⟨T, hT⟩ := hT
              subst hT
              unfold chkE at h2
              cases h2
            · have := (chkE_blt (fun T z => hT ⟨T, z⟩)).symm.trans h2
              cases this
          | _ => unfold chkE at h2; cases h2
        · cases h3
      · rw [beq_iff_eq] at h3
        exact psI (ps_set nd t1 t2 he (swaps_cell (by rw [O.sc]; exact h3)) t3) fin
    · cases h
  | .setT is c, X, C, W, s, O, hk, tk, hp, h => by
    unfold chkS at h
    split at h
    · rename_i tg e pos
      simp only [Bool.and_eq_true] at h
      obtain ⟨⟨h1, h2⟩, h3⟩ := h
      have hn : ∀ x p, tg ≠ .Name x p := fun x p z => by subst z; simp [okTg] at h1
      have ha : (assignEach [tg] X.env).map (·.2) = [assign tg X.env] := by
        cases tg with
        | Tuple _ _ _ => rfl
        | _ => simp [okTg] at h1
      refine psI (ps_asg (sE c O tk h2).pe (pg_of O h1) (sole_tuple hn) (swst_many h3) ha) fun K σ H q => ?_
      obtain ⟨w, M, sd, Kd, Ed, R, rs, l, lx, q⟩ := q
      exact ⟨w, M, sd, _, _, R, rs, fun w1 M1 H1 d v s1 R1 r1 q => ⟨w1, M1, sd, d, Kd.nx, R1, rs.mono s1.le, r1, l.nx.on s1, q⟩, lx.at rs, q⟩
    · cases h
  | .setP is es, X, C, W, s, O, hk, tk, hp, h => by
    unfold chkS at h
    have hbk : X.env.blockKind = .function := by
      have e : X.env.scope.kind = .function := by rw [O.sc]; exact hk
      unfold Env.blockKind
      rw [e]; rfl
    have loc : ∀ {i : Nat} {x : Str}, okLoc C i x = true → X.N[i]? = some x ∧ X.env.scope.names.lookup x = some .local := fun {i x} h => by
      unfold okLoc at h
      simp only [Bool.and_eq_true, beq_iff_eq] at h
      exact ⟨by rw [O.N]; exact h.1.1, by rw [O.sc]; exact h.1.2⟩
    have cool : ∀ {i : Nat} {x : Str}, okLoc C i x = true → X.calm = true := fun {i x} h => by
      unfold okLoc at h
      simp only [Bool.and_eq_true, Bool.not_eq_true'] at h
      exact O.calm h.2
    have nd : X.N.Nodup := by rw [O.N]; exact O.nd
    split at h
    · rename_i x px y py kt pt a b k2 pt2 pos
      split at h
      · rename_i i j
        simp only [Bool.and_eq_true, decide_eq_true_eq, Bool.not_eq_true'] at h
        obtain ⟨⟨⟨⟨⟨⟨h1, h2⟩, h3⟩, h4⟩, h5⟩, h6⟩, h7⟩ := h
        obtain ⟨a1, a2⟩ := loc h1
        obtain ⟨b1, b2⟩ := loc h2
        refine psI (ps_par (cool h1) nd a1 b1 h3 a2 b2 (sEs es O tk h7) (swst_two hbk a2 b2 h5 h4 h6)) fun K σ H q => ?_
        obtain ⟨w, M, sd, Kd, Ed, R, rs, l, lx, q⟩ := q
        refine ⟨w, M, sd, _, _, R, rs, fun w1 M1 H1 ds vs s1 R1 r1 q => ?_, lx.at rs, q⟩
        obtain ⟨hl, q⟩ := q
        match ds, hl, r1, q with
        | [d1, d2], _, r1, q =>
          obtain ⟨v1, t1, e1, ra, v2, t2, e2, rb, e3⟩ := r1
          subst e3 e2 e1
          exact ⟨v1, v2, rfl, l.nx w1 M1 H1 _ _ s1 R1 (relSt_set (relSt_set (rs.mono s1.le) i ra) j rb) q⟩
      · cases h
    · rename_i x px y py z pz kt pt a b c k2 pt2 pos
      split at h
      · rename_i i j k
        simp only [Bool.and_eq_true, decide_eq_true_eq, Bool.not_eq_true'] at h
        obtain ⟨⟨⟨⟨⟨⟨⟨⟨⟨⟨⟨⟨h1, h2⟩, h3⟩, h4⟩, h5⟩, h6⟩, h7⟩, h8⟩, h9⟩, g1⟩, g2⟩, g3⟩, g4⟩ := h
        obtain ⟨a1, a2⟩ := loc h1
        obtain ⟨b1, b2⟩ := loc h2
        obtain ⟨c1, c2⟩ := loc h3
        refine psI (ps_par3 (cool h1) nd a1 b1 c1 h4 h5 h6 a2 b2 c2 (sEs es O tk g4) (swst_three hbk a2 b2 c2 g1 g2 h7 h8 h9 g3)) fun K σ H q => ?_
        obtain ⟨w, M, sd, Kd, Ed, R, rs, l, lx, q⟩ := q
        refine ⟨w, M, sd, _, _, R, rs, fun w1 M1 H1 ds vs s1 R1 r1 q => ?_, lx.at rs, q⟩
        obtain ⟨hl, q⟩ := q
        match ds, hl, r1, q with
        | [d1, d2, d3], _, r1, q =>
          obtain ⟨v1, t1, e1, ra, v2, t2, e2, rb, v3, t3, e3, rc, e4⟩ := r1
          subst e4 e3 e2 e1
          exact ⟨v1, v2, v3, rfl, l.nx w1 M1 H1 _ _ s1 R1 (relSt_set (relSt_set (relSt_set (rs.mono s1.le) i ra) j rb) k rc) q⟩
      · cases h
    · cases h
  | .setTF cf os e, X, C, W, s, O, hk, tk, hp, h => by
    unfold chkS at h
    split at h
    · rename_i ts kt pt v pos
      simp only [Bool.and_eq_true] at h
      obtain ⟨⟨h1, h2⟩, h3, h4⟩ := h
      rw [Bool.not_eq_true'] at h4
      obtain ⟨t, g1, g2, g3, g4⟩ := sTF os O tk h1
      refine psI (ps_asg (sE e O tk h2).pe (pg_tup (O.calm h4) g1 g2 g3) (sole_tuple (fun x p z => by cases z)) (swst_none h3) rfl) fun K σ H q => ?_
      obtain ⟨w, M, sd, Kd, Ed, R, rs, l, lx, q⟩ := q
      refine ⟨w, M, sd, _, _, R, rs, fun w1 M1 H1 d y s1 R1 r1 q => ?_, lx.at rs, q⟩
      cases d with
      | tup ds =>
        obtain ⟨q1, q⟩ := q
        obtain ⟨p, vs, e1, hp1, hs⟩ := r1
        refine ⟨p, vs, e1, O.K ▸ sqT_mono R1.sub hp1, by rw [hs.length]; exact q1, ?_⟩
        exact g4 R1 (rs.mono s1.le) hs (fun w2 M2 H2 s2 R2 rs2 q2 => l.nx w2 M2 H2 _ _ (s1.trans s2) R2 rs2 q2) ((lx.on s1).at (rs.mono s1.le)) q
      | _ => exact q.elim
    · cases h
  | .aug i e, X, C, W, s, O, hk, tk, hp, h => by
    unfold chkS at h
    split at h
    · rename_i x px v pos
      rw [Bool.and_eq_true] at h
      obtain ⟨t1, t2, t3⟩ := tgt_of O h.1
      have nd : X.N.Nodup := by rw [O.N]; exact O.nd
      refine psI (ps_aug nd t1 t2 (sE e O tk h.2).pe iop_add t3) fun K σ H q => ?_
      obtain ⟨w, M, sd, Kd, Ed, R, rs, l, lx, q⟩ := q
      have q : (match sd[i]? with
        | some (some x) => rE Φ κ e (fun x => Ed x sd) sd M fun y M1 => addI x y fun z => Kd.nx (sd.set i (some z)) M1
        | _ => False) := q
      split at q
      · rename_i d hd
        obtain ⟨x, hx, rx⟩ := rs.2 i d hd
        refine ⟨x, hx, w, M, sd, _, _, R, rs, fun w1 M1 H1 y vy s1 R1 r1 z => ?_, lx.at rs, q⟩
        clear q
        cases d with
        | int i1 =>
          cases y with
          | int i2 =>
            have rx : x = .int i1 := rx
            have r1 : vy = .int i2 := r1
            exact ⟨i1, i2, rx, r1, l.nx w1 M1 H1 _ _ s1 R1 (relSt_set (rs.mono s1.le) i (d := .int (i1 + i2)) rfl) z⟩
          | _ => exact z.elim
        | _ => exact z.elim
      · exact q.elim
    · cases h
  | .augF c o f e, X, C, W, s, O, hk, tk, hp, h => by
    unfold chkS at h
    split at h
    · rename_i a g pa v pos
      simp only [Bool.and_eq_true, beq_iff_eq] at h
      obtain ⟨⟨⟨h1, h2⟩, h4⟩, h5⟩ := h
      subst h1
      obtain ⟨hc, hn⟩ := O.fl _ (List.elem_iff.mp h2)
      refine psI (ps_fldaug (sE o O tk h4).pe (sE e O tk h5).pe in_add) fun K σ H q => ?_
      obtain ⟨w, M, sd, Kd, Ed, R, rs, l, lx, q⟩ := q
      refine ⟨w, M, sd, _, _, R, rs, fun w1 M1 H1 x vx s1 R1 r1 z => ?_, lx.at rs, q⟩
      clear q
      cases x with
      | ref k =>
        have z := z.2
        obtain ⟨p, e1, hp2⟩ := r1
        subst e1
        unfold fldD at z
        dsimp only at z
        cases hM : M1[k]? with
        | none => rw [hM] at z; exact z.elim
        | some mo =>
          rw [hM] at z
          cases mo with
          | ins c' fs =>
            obtain ⟨q1, z⟩ := z
            subst q1
            obtain ⟨hF, dx, us, e2, hs⟩ := R1.cell k _ p hM hp2
            cases hlk : fs.lookup f with
            | none => simp only [hlk] at z
            | some d =>
              simp only [hlk] at z
              obtain ⟨v0, hv0, r0⟩ := relKs_look hs hlk
              refine ⟨p, _, dx, us, v0, rfl, e2, hc, hn, hv0, w1, M1, sd, _, _, R1, rs.mono s1.le, fun w2 M2 H2 y vy s2 R2 r2 z' => ?_, (lx.on s1).at (rs.mono s1.le), z⟩
              clear z
              cases d with
              | int i1 =>
                cases y with
                | int i2 =>
                  have r0 : v0 = .int i1 := r0
                  have r2 : vy = .int i2 := r2
                  refine ⟨i1, i2, r0, r2, ?_⟩
                  have hp3 := s2.le.r _ _ hp2
                  have z' : setFD c' f (.ref k) (.int (i1 + i2)) M2 (fun M' => Kd.nx sd M') := z'
                  unfold setFD at z'
                  dsimp only at z'
                  cases hM2 : M2[k]? with
                  | none => rw [hM2] at z'; exact z'.elim
                  | some mo =>
                    rw [hM2] at z'
                    cases mo with
                    | ins c2 fs2 =>
                      obtain ⟨q1, q2, z'⟩ := z'
                      subst q1
                      obtain ⟨hF2, dx2, us2, e3, hs2⟩ := R2.cell k _ p hM2 hp3
                      have hl : us2.length < 1000 := by rw [hs2.length]; exact q2
                      have ry : RelD P w2 (.int (i1 + i2)) (.int (i1 + i2)) := rfl
                      obtain ⟨R', s'⟩ := R2.write (o := .ins (P.cls _) dx2 (putF f (.int (i1 + i2)) us2)) (m' := .ins _ (putFD f (.int (i1 + i2)) fs2)) hM2 hF2 hp3 .ins ⟨hF2, dx2, _, upd_same, relKs_putF ry hs2⟩
                      exact ⟨dx2, us2, e3, hl, l.nx _ _ _ _ _ ((s1.trans s2).trans s') R' (((rs.mono s1.le).mono s2.le).mono s'.le) z'⟩
                    | _ => exact z'.elim
                | _ => exact z'.elim
              | _ => exact z'.elim
          | _ => exact z.elim
      | _ => exact z.1.elim
    · cases h
  | .setIx o i c, X, C, W, s, O, hk, tk, hp, h => by
    unfold chkS at h
    split at h
    · rename_i a b pb e pos
      simp only [Bool.and_eq_true] at h
      obtain ⟨⟨⟨h1, h2⟩, h3⟩, h4⟩ := h
      refine psI (ps_asg (sE c O tk h4).pe (pg_sub (sE o O tk h2).pe (sE i O tk h3).pe (setIx_sound O) ?_) (sole_tuple (by intro _ _ z; cases z)) ?_ rfl) fun K σ H q => ?_
      · intro v
        cases b <;> first | rfl | (exfalso; simp [plainE] at h1; done)
      · unfold swappedStores
        cases e <;> rfl
      · obtain ⟨w, M, sd, Kd, Ed, R, rs, l, lx, q⟩ := q
        refine ⟨w, M, sd, _, _, R, rs, fun w1 M1 H1 d v s1 R1 r1 q => ?_, lx.at rs, q⟩
        refine ⟨w1, M1, sd, _, _, R1, rs.mono s1.le, fun w2 M2 H2 x vx s2 R2 r2 q => ?_, (lx.on s1).at (rs.mono s1.le), q⟩
        refine ⟨w2, M2, sd, _, _, R2, (rs.mono s1.le).mono s2.le, fun w3 M3 H3 y vy s3 R3 r3 q => ?_, ((lx.on s1).on s2).at ((rs.mono s1.le).mono s2.le), q⟩
        refine ⟨w3, M3, x, y, d, R3, r2.mono s3.le, r3, (r1.mono s2.le).mono s3.le, ?_⟩
        have s13 := (s1.trans s2).trans s3
        have key : ∀ {Q Q' : Md → Prop}, (∀ M, Q M → Q' M) → setIxD x y d M3 Q → setIxD x y d M3 Q' := fun {Q Q'} f q => by
          unfold setIxD at q ⊢
          cases x <;> first | exact q.elim | skip
          rename_i k
          simp only at q ⊢
          split at q
          · split at q
            · exact f _ q
            · exact q.elim
          · split at q
            · exact ⟨q.1, f _ q.2⟩
            · exact q.elim
          · split at q
            · exact ⟨q.1, f _ q.2⟩
            · exact q.elim
          · exact q.elim
        exact key (fun M' qm H' s4 R4 => l.nx w3 M' H' sd σ (s13.trans s4) R4 (rs.mono s13.le) qm) q
    · cases h
  | .expr c, X, C, W, s, O, hk, tk, hp, h => by
    unfold chkS at h
    split at h
    · rw [Bool.and_eq_true] at h
      refine psI (ps_expr (sE c O tk h.2).pe (swaps_of h.1)) fun K σ H q => ?_
      obtain ⟨w, M, sd, Kd, Ed, R, rs, l, lx, q⟩ := q
      exact ⟨w, M, sd, _, _, R, rs, fun w1 M1 H1 d v s1 R1 r1 q => l.nx w1 M1 H1 _ _ s1 R1 (rs.mono s1.le) q, lx.at rs, q⟩
    · cases h
  | .ret c, X, C, W, s, O, hk, tk, hp, h => by
    unfold chkS at h
    split at h
    · refine psI (ps_ret (sE c O tk h).pe) fun K σ H q => ?_
      obtain ⟨w, M, sd, Kd, Ed, R, rs, l, lx, q⟩ := q
      exact ⟨w, M, sd, _, _, R, rs, l.rt, lx.at rs, q⟩
    · cases h
  | .retN, X, C, W, s, O, hk, tk, hp, h => by
    unfold chkS at h
    split at h
    · refine psI ps_retN fun K σ H q => ?_
      obtain ⟨w, M, sd, Kd, Ed, R, rs, l, lx, q⟩ := q
      exact l.rt.same R (d := .non) rfl q
    · cases h
  | .pass, X, C, W, s, O, hk, tk, hp, h => by
    unfold chkS at h
    split at h
    · refine psI ps_pass fun K σ H q => ?_
      obtain ⟨w, M, sd, Kd, Ed, R, rs, l, lx, q⟩ := q
      exact l.nx w M H _ _ (.refl _ _) R rs q
    · cases h
  | .never, X, C, W, s, O, hk, tk, hp, h => by
    refine psI ps_never fun K σ H q => ?_
    obtain ⟨w, M, sd, Kd, Ed, R, rs, l, lx, q⟩ := q
    exact q
  | .brk, X, C, W, s, O, hk, tk, hp, h => by
    unfold chkS at h
    split at h
    · refine psI ps_break fun K σ H q => ?_
      obtain ⟨w, M, sd, Kd, Ed, R, rs, l, lx, q⟩ := q
      exact l.bk w M H _ _ (.refl _ _) R rs q
    · cases h
  | .cont, X, C, W, s, O, hk, tk, hp, h => by
    unfold chkS at h
    split at h
    · refine psI ps_continue fun K σ H q => ?_
      obtain ⟨w, M, sd, Kd, Ed, R, rs, l, lx, q⟩ := q
      exact l.ct w M H _ _ (.refl _ _) R rs q
    · cases h
  | .ifs c a b, X, C, W, s, O, hk, tk, hp, h => by
    unfold chkS at h
    split at h
    · simp only [Bool.and_eq_true] at h
      refine psI (ps_if (sE c O tk h.1.1).pt (sSs a O hk tk hp h.1.2) (sSs b O hk tk hp h.2)) fun K σ H q => ?_
      obtain ⟨w, M, sd, Kd, Ed, R, rs, l, lx, q⟩ := q
      refine ⟨w, M, sd, _, _, R, rs, fun w1 M1 H1 k s1 R1 q => ?_, lx.at rs, q⟩
      cases k with
      | true => simp only [if_true] at q ⊢; exact ⟨w1, M1, sd, Kd, Ed, R1, rs.mono s1.le, l.on s1, lx.on s1, q⟩
      | false => simp only [Bool.false_eq_true, if_false] at q ⊢; exact ⟨w1, M1, sd, Kd, Ed, R1, rs.mono s1.le, l.on s1, lx.on s1, q⟩
    · cases h
  | .fors t it body, X, C, W, s, O, hk, tk, hp, h => by
    unfold chkS at h
    split at h
    · simp only [Bool.and_eq_true] at h
      obtain ⟨⟨⟨h1, h2, h5⟩, h3⟩, h4⟩ := h
      rw [Bool.not_eq_true'] at h5
      exact psI (ps_for hp (O.calm h5) (sI it O tk h3) (pg_of O h1) (sSs body O hk tk hp h4) (folded_of h2)) fun K σ H q => for_lift q
    · cases h
  | .enums t c body, X, C, W, s, O, hk, tk, hp, h => by
    unfold chkS at h
    split at h
    · rename_i es k p2 x p a pos y p3
      simp only [Bool.and_eq_true] at h
      obtain ⟨⟨⟨⟨⟨h1, h2⟩, h3⟩, h4, h7⟩, h5⟩, h6⟩ := h
      rw [Bool.not_eq_true'] at h7
      obtain ⟨hn, hg, hd, hm, _⟩ := blt_of O h3
      subst hn
      have hi := piI (tg := .Tuple es k p2) (e := .Call (.Name (Str.ofString "enumerate") p) [a] [] pos) (t' := liI P X.K W (fun E σ M Q => rE Φ κ c E σ M fun d M1 => enumQ d M1 Q)) (pi_enumT (kk := k) (tpos := p2) (elts := es) (p := p) (pos := pos) hg hm (pa_cons (sE c O tk h5).pe pa_nil (star_of h4)) (star_of h4)) fun σ H Q q => by
        obtain ⟨w, M, sd, Qd, Ed, R, rs, l, lx, q⟩ := q
        refine ⟨w, M, sd, _, Ed, R, rs, fun w1 M1 H1 d v s1 R1 r1 q => ?_, lx, q⟩
        cases d with
        | tup es =>
          obtain ⟨p, vs, e, hp, hs⟩ := r1
          have hK := O.K
          subst e
          exact ⟨p, vs, rfl, hK ▸ sqT_mono R1.sub hp, l w1 M1 H1 _ _ _ s1 R1 (.enm (fun w' M' H' s R' => ⟨vs, hK ▸ sqT_mono R'.sub (sqT_mono s.le.F hp), hs.mono s.le⟩) rfl) q⟩
        | _ => exact q.elim
      exact psI (ps_for hp (O.calm h7) hi (pg_of O h1) (sSs body O hk tk hp h6) (folded_of h2)) fun K σ H q => for_lift q
    · cases h
  | .raise c e, X, C, W, s, O, hk, tk, hp, h => by
    unfold chkS at h
    split at h
    · rename_i x p y p2 p3
      simp only [Bool.and_eq_true, Bool.not_eq_true', beq_iff_eq] at h
      obtain ⟨⟨⟨⟨⟨h1, h2⟩, h3⟩, h4⟩, h5⟩, h6⟩ := h
      subst h2
      obtain ⟨g1, g2⟩ := glob_of O h3
      obtain ⟨k1, k2⟩ := O.xr _ (List.elem_iff.mp h4)
      refine psI (ps_raise (O.calm h1) tk (pmk_one k2 k1 g1 g2 (sE e O tk h6).pe (star_of h5))) fun K σ H q => ?_
      obtain ⟨w, M, sd, Kd, Ed, R, rs, l, lx, q⟩ := q
      refine ⟨w, M, sd, _, _, R, rs, fun w1 M1 H1 d v s1 R1 r1 q => ?_, lx.at rs, q⟩
      exact ⟨rfl, lx w1 M1 H1 _ _ _ _ _ s1 R1 (rs.mono s1.le) ⟨rfl, .inl ⟨rfl, rfl⟩⟩ q⟩
    · cases h
  | .raiseI c fs es, X, C, W, s, O, hk, tk, hp, h => by
    unfold chkS at h
    split at h
    · rename_i x p y ys p2 p3
      simp only [Bool.and_eq_true, Bool.not_eq_true', beq_iff_eq, decide_eq_true_eq] at h
      obtain ⟨⟨⟨⟨h1, h2⟩, h3⟩, h4, h6⟩, h5⟩ := h
      subst h2
      obtain ⟨g1, g2⟩ := glob_of O h3
      obtain ⟨k1, k2, k, f, fd, k3, k4, k5, k6, k7⟩ := O.xi _ (List.elem_iff.mp h4)
      obtain ⟨hy, cs2, hy2⟩ := chkEs_cons h5
      refine psI (ps_raise (O.calm h1) tk (pmk_oex k2 k3 k4 k5 k6 k7 .nil passNo g1 k1 (sEs es O tk h5) g2 (star_of hy) (plains hy2))) fun K σ H q => ?_
      obtain ⟨w, M, sd, Kd, Ed, R, rs, l, lx, q⟩ := q
      refine ⟨w, M, sd, _, _, R, rs, fun w1 M1 H1 ds vs s1 R1 r1 q => ?_, lx.at rs, q⟩
      obtain ⟨hl, q⟩ := q
      have hvl : vs.length = fs.length := by rw [r1.length]; exact hl
      refine ⟨by rw [hvl]; omega, fun a ha => ⟨a, vs, by rw [List.append_nil], hvl, upd_same, fun d H' hd hda e1 e2 e3 => ⟨rfl, d, _, e1, e2, ?_, ?_⟩⟩⟩
      · rw [upd_ne hda] at hd; exact hd
      · have hd : H1 d = none := by rw [upd_ne hda] at hd; exact hd
        have eH : upd (del H' a) d (.xd (fs.zip vs).reverse) = upd H1 d (.xd (fs.zip vs).reverse) := by
          funext b
          by_cases hb : b = d
          · rw [hb, upd_same, upd_same]
          · rw [upd_ne hb, upd_ne hb]
            by_cases hba : b = a
            · rw [hba, del_same, ha]
            · rw [del_ne hba, e3 b hba hb, upd_ne hba]
        rw [eH]
        obtain ⟨R2, s2⟩ := R1.newF hd (.xd (fs.zip vs).reverse) fun ps z => by cases z
        refine lx _ M1 _ _ _ _ _ _ (s1.trans s2) R2 (rs.mono (s1.trans s2).le) ⟨rfl, .inr ⟨_, d, _, rfl, rfl, upd_same, relKs_rev (relKs_zip2 hl.symm (r1.mono s2.le))⟩⟩ q
    · cases h
  | .whil c body, X, C, W, s, O, hk, tk, hp, h => by
    unfold chkS at h
    split at h
    · simp only [Bool.and_eq_true] at h
      exact psI (ps_while hp (sE c O tk h.1).pt (sSs body O hk tk hp h.2)) fun K σ H q => while_lift q
    · cases h
theorem sSs : ∀ (c : CSs) {X : Cx} {C : Ctx} {W : WX} {s : List Stmt}, EnvOk X P C Φ κ → C.sc.kind = .function → Takes X W → PassesOwn (model X.prog X.w) X.A X.env X.xe → chkSs C c s = true → PSs X s (liS P W (rSs Φ κ c))
  | .nil, X, C, W, s, O, hk, tk, hp, h => by
    unfold chkSs at h
    split at h
    · refine pssI pss_nil fun K σ H q => ?_
      obtain ⟨w, M, sd, Kd, Ed, R, rs, l, lx, q⟩ := q
      exact l.nx w M H _ _ (.refl _ _) R rs q
    · cases h
  | .cons c cs, X, C, W, s, O, hk, tk, hp, h => by
    unfold chkSs at h
    split at h
    · simp only [Bool.and_eq_true] at h
      refine pssI (pss_cons (sS c O hk tk hp h.1) (sSs cs O hk tk hp h.2)) fun K σ H q => ?_
      obtain ⟨w, M, sd, Kd, Ed, R, rs, l, lx, q⟩ := q
      exact ⟨w, M, sd, { Kd with nx := rSs Φ κ cs Ed Kd }, Ed, R, rs, ⟨fun w1 M1 H1 sd1 σ1 s1 R1 rs1 q => ⟨w1, M1, sd1, Kd, Ed, R1, rs1, l.on s1, lx.on s1, q⟩, l.rt, l.bk, l.ct⟩, lx, q⟩
    · cases h
end
end
/-- what the text's defs and constants are, for calls k deep -/
structure Tab (Pg : Program) (w : World) (K : PySem.W.Frag) (mg : Str → Option Value) (base : Heap) (P : Pm) (G : List (Str × GD)) (B : List Str) (Φ : Nat → SpD) (κ : Nat → D) (k : Nat) : Prop where
  fun_ : ∀ x f, G.lookup x = some (.fn f) → ∃ j a fd ps, j ≤ k ∧ mg x = some (.ref a) ∧ PySem.W.keepIn K (.ref a) = true ∧ FnOk Pg w K mg base (L2.CX Pg w) j a fd ps (liSp P (Φ f)) ∧ Binds K fd ps []
  cst : ∀ x g, G.lookup x = some (.cst g) → ∃ u v, mg x = some u ∧ RelV v u ∧ ∀ w, RelD P w (κ g) v
  blt : ∀ x ∈ B, mg x = none
def startD (n : Nat) (ds : List D) : Std := ds.map some ++ List.replicate (n - ds.length) none
def endsD (n0 : Nat) (Q : QE) : EndsD := ⟨fun _ M => Fin n0 Q .non M, fun d M => Fin n0 Q d M, fun _ _ => False, fun _ _ => False⟩
theorem relSt_start {P : Pm} {w : Wd} {ds : List D} {vs : List V} (N : List Str) (r : RelDs P w ds vs) : RelSt P w (startD N.length ds) (L2.start N vs) := by
  have hl := r.length
  refine ⟨by unfold startD L2.start; rw [List.length_append, List.length_append, List.length_map, List.length_map, List.length_replicate, List.length_replicate, hl], fun i d h => ?_⟩
  unfold startD at h
  unfold L2.start
  by_cases hi : i < ds.length
  · rw [List.getElem?_append_left (by simpa using hi), List.getElem?_map] at h
    rw [List.getElem?_append_left (by rw [List.length_map, hl]; exact hi), List.getElem?_map]
    cases e : ds[i]? with
    | none => rw [e] at h; cases h
    | some d' =>
      rw [e] at h
      cases h
      obtain ⟨v, hv, rv⟩ := r.get e
      exact ⟨v, by rw [hv]; rfl, rv⟩
  · rw [List.getElem?_append_right (by simpa using hi), List.getElem?_replicate] at h
    split at h <;> cases h
end DL
namespace DL
open PySem L2
section
variable {Φ : Nat → SpD} {κ : Nat → D} {E : EX} {EE : EXS} {K : EndsD} {σ : Std} {M : Md} {Q : QE} {QT : Bool → Md → Prop} {QA : List D → Md → Prop} {QO : Option Int → Md → Prop} {QI : List D → Option Nat → Md → Prop}
def nxt (Φ : Nat → SpD) (κ : Nat → D) (r : CSs) (E : EXS) (K : EndsD) : Std → Md → Prop := rSs Φ κ r E K
theorem nxt_eq {r : CSs} : nxt Φ κ r EE K σ M = rSs Φ κ r EE K σ M := rfl
theorem nxt_nil : nxt Φ κ .nil EE K σ M = K.nx σ M := rfl
theorem rSs_nil : rSs Φ κ .nil EE K σ M = K.nx σ M := rfl
theorem rSs_cons {s r} : rSs Φ κ (.cons s r) EE K σ M = rS Φ κ s EE ⟨nxt Φ κ r EE K, K.rt, K.bk, K.ct⟩ σ M := rfl
theorem rSs_one {s} : rSs Φ κ (.cons s .nil) EE K σ M = rS Φ κ s EE ⟨K.nx, K.rt, K.bk, K.ct⟩ σ M := rfl
theorem rS_set {i e} : rS Φ κ (.set i e) EE K σ M = rE Φ κ e (fun x => EE x σ) σ M fun d M1 => K.nx (σ.set i (some d)) M1 := rfl
theorem rS_setP {is es} : rS Φ κ (.setP is es) EE K σ M = rds Φ κ es (fun x => EE x σ) σ M fun ds M1 => ds.length = is.length ∧ K.nx (setAll σ is ds) M1 := rfl
def tupQ (d : D) (n : Nat) (f : List D → Prop) : Prop := match d with
  | .tup ds => ds.length = n ∧ f ds
  | _ => False
theorem tupQ_tup {ds : List D} {n : Nat} {f : List D → Prop} : tupQ (.tup ds) n f = (ds.length = n ∧ f ds) := rfl
theorem rS_setTF {cf os e} : rS Φ κ (.setTF cf os e) EE K σ M = rE Φ κ e (fun x => EE x σ) σ M fun d M1 => tupQ d cf.length fun ds => setTFd Φ κ (fun x => EE x σ) σ cf os ds M1 fun M2 => K.nx σ M2 := rfl
theorem setTFd_nil {E : EX} {QM : Md → Prop} : setTFd Φ κ E σ [] .nil [] M QM = QM M := rfl
theorem setTFd_cons {E : EX} {QM : Md → Prop} {c f : Str} {r : List (Str × Str)} {o os} {d : D} {ds : List D} : setTFd Φ κ E σ ((c, f) :: r) (.cons o os) (d :: ds) M QM = rE Φ κ o E σ M fun x M1 => setFD c f x d M1 fun M2 => setTFd Φ κ E σ r os ds M2 QM := rfl
theorem rS_aug {i e} : rS Φ κ (.aug i e) EE K σ M = match σ[i]? with
    | some (some x) => rE Φ κ e (fun x => EE x σ) σ M fun y M1 => addI x y fun z => K.nx (σ.set i (some z)) M1
    | _ => False := rfl
theorem rS_augF {c o f e} : rS Φ κ (.augF c o f e) EE K σ M = rE Φ κ o (fun x => EE x σ) σ M fun x M1 => isRef x ∧ fldD c f x M1 fun v M2 => rE Φ κ e (fun x => EE x σ) σ M2 fun y M3 => addI v y fun z => setFD c f x z M3 fun M' => K.nx σ M' := rfl
theorem isRef_ref {k : Nat} : isRef (.ref k) = True := rfl
theorem addI_int {a b : Int} {f : D → Prop} : addI (.int a) (.int b) f = f (.int (a + b)) := rfl
theorem rS_setT {is e} : rS Φ κ (.setT is e) EE K σ M = rE Φ κ e (fun x => EE x σ) σ M fun d M1 => asgT (.tp is) d σ M1 K.nx := rfl
theorem rS_setIx {o i v} : rS Φ κ (.setIx o i v) EE K σ M = rE Φ κ v (fun x => EE x σ) σ M fun d M1 => rE Φ κ o (fun x => EE x σ) σ M1 fun x M2 => rE Φ κ i (fun x => EE x σ) σ M2 fun y M3 => setIxD x y d M3 fun M' => K.nx σ M' := by
  have e : ∀ x y d (M3 : Md), (match x with
    | .ref k => match M3[k]?, y with
      | some (.lst ds), .int j => match ixN ds.length j with
        | some j => K.nx σ (M3.set k (.lst (ds.set j d)))
        | none => False
      | some (.dct kvs), y => match keyD y with
        | some ky => kvs.length < sizeLine ∧ K.nx σ (M3.set k (.dct (dctPut kvs ky d)))
        | none => False
      | some (.dctT kvs), y => match tKey y with
        | some ky => kvs.length < sizeLine ∧ K.nx σ (M3.set k (.dctT (dctPutT kvs y ky d)))
        | none => False
      | _, _ => False
    | _ => False) = setIxD x y d M3 fun M' => K.nx σ M' := fun x y d M3 => rfl
  rfl
theorem rS_raise {c e} : rS Φ κ (.raise c e) EE K σ M = rE Φ κ e (fun x => EE x σ) σ M fun _ M1 => EE ⟨c, none⟩ σ M1 := rfl
theorem rS_raiseI {c fs es} : rS Φ κ (.raiseI c fs es) EE K σ M = rds Φ κ es (fun x => EE x σ) σ M fun ds M1 => ds.length = fs.length ∧ EE ⟨c, some (fs.zip ds).reverse⟩ σ M1 := rfl
def xhQ (o : Option (Option D)) (e : D) (Q : Str → List Str → List D → Prop) : Prop := match o, e with
  | some (some (.exc a od c ns ds)), .exc a' od' c' _ _ => a = a' ∧ od = od' ∧ c = c' ∧ Q c ns ds
  | _, _ => False
theorem xheld_eq {i : Nat} {e : D} {QX : Str → List Str → List D → Prop} : xheld σ i e QX = xhQ σ[i]? e QX := rfl
theorem xhQ_at {a : Addr} {od : Option Addr} {c : Str} {ns ns2 : List Str} {ds ds2 : List D} {QX : Str → List Str → List D → Prop} : xhQ (some (some (.exc a od c ns ds))) (.exc a od c ns2 ds2) QX = QX c ns ds := by
  unfold xhQ
  simp
theorem xdct_some {a d : Addr} {c : Str} {ns : List Str} {ds : List D} : xdct (.exc a (some d) c ns ds) = True := rfl
theorem rE_xis {i T} : rE Φ κ (.xis i T) E σ M Q = xheld σ i (κ 0) fun c _ _ => Q (.bl (xsub c T)) M := rfl
theorem rT_xis {i T} : rT Φ κ (.xis i T) E σ M QT = rE Φ κ (.xis i T) E σ M fun d M1 => truD d M1 fun k => QT k M1 := rfl
def lkQ (f : Str) (fs : List (Str × D)) (M : Md) (Q : QE) : Prop := match fs.lookup f with
  | some x => Q x M
  | none => False
theorem rE_gin {x kv a} : rE Φ κ (.gin x kv a) E σ M Q = rE Φ κ a E σ M fun d M1 => ginD kv d fun b => Q (.bl b) M1 := rfl
theorem rT_gin {x kv a} : rT Φ κ (.gin x kv a) E σ M QT = rE Φ κ a E σ M fun d M1 => ginD kv d fun b => QT b M1 := rfl
theorem rE_gidx {x kv a} : rE Φ κ (.gidx x kv a) E σ M Q = rE Φ κ a E σ M fun d M1 => gidxD kv d fun t => Q t M1 := rfl
theorem ginD_str {kv : List (Str × Str)} {s : Str} {QB : Bool → Prop} : ginD kv (.str s) QB = QB (kv.lookup s).isSome := rfl
def gidxO (o : Option Str) (Q : D → Prop) : Prop := match o with
  | some t => Q (.str t)
  | none => False
theorem gidxD_str {kv : List (Str × Str)} {s : Str} {QD : D → Prop} : gidxD kv (.str s) QD = gidxO (kv.lookup s) QD := rfl
theorem gidxO_some {t : Str} {QD : D → Prop} : gidxO (some t) QD = QD (.str t) := rfl
theorem rE_xfld {i k f} : rE Φ κ (.xfld i k f) E σ M Q = (xdct (κ 0) ∧ xheld σ i (κ 0) fun c ns ds => c = k ∧ lkQ f (ns.zip ds) M Q) := rfl
theorem lkQ_hd {f : Str} {x : D} {fs : List (Str × D)} : lkQ f ((f, x) :: fs) M Q = Q x M := by
  unfold lkQ
  rw [List.lookup_cons]
  simp
theorem lkQ_tl {f g : Str} {x : D} {fs : List (Str × D)} (h : (f == g) = false) : lkQ f ((g, x) :: fs) M Q = lkQ f fs M Q := by
  unfold lkQ
  rw [List.lookup_cons, h]
theorem xsub_V {c : Str} : xsub c "ValueError" = true := by
  unfold xsub
  rw [show ((("ValueError" : Str) == ("ValueError" : Str)) : Bool) = true from beq_self_eq_true _]
  simp
theorem xsub_F {c : Str} : xsub c "FirstwayError" = true := by
  unfold xsub
  rw [show ((("FirstwayError" : Str) == ("FirstwayError" : Str)) : Bool) = true from beq_self_eq_true _]
  simp
theorem xsub_self {c : Str} : xsub c c = true := by
  unfold xsub
  simp
theorem xsub_ne {c T : Str} (h1 : (c == T) = false) (h2 : (T == ("FirstwayError" : Str)) = false) (h3 : (T == ("ValueError" : Str)) = false) : xsub c T = false := by
  unfold xsub
  rw [h1, h2, h3]; rfl
theorem rS_expr {e} : rS Φ κ (.expr e) EE K σ M = rE Φ κ e (fun x => EE x σ) σ M fun _ M1 => K.nx σ M1 := rfl
theorem rS_ret {e} : rS Φ κ (.ret e) EE K σ M = rE Φ κ e (fun x => EE x σ) σ M K.rt := rfl
theorem rS_retN : rS Φ κ .retN EE K σ M = K.rt .non M := rfl
theorem rS_pass : rS Φ κ .pass EE K σ M = K.nx σ M := rfl
theorem rS_brk : rS Φ κ .brk EE K σ M = K.bk σ M := rfl
theorem rS_cont : rS Φ κ .cont EE K σ M = K.ct σ M := rfl
theorem rS_ifs {c a b} : rS Φ κ (.ifs c a b) EE K σ M = rT Φ κ c (fun x => EE x σ) σ M fun k M1 => if k = true then rSs Φ κ a EE K σ M1 else rSs Φ κ b EE K σ M1 := rfl
theorem rS_fors {t it body} : rS Φ κ (.fors t it body) EE K σ M = rdi Φ κ it (fun x => EE x σ) σ M fun ds lk M1 => loopD lk ds (asgT t) (rSs Φ κ body EE) K ds σ M1 := rfl
theorem rS_enums {t e body} : rS Φ κ (.enums t e body) EE K σ M = rE Φ κ e (fun x => EE x σ) σ M fun d M1 => enumQ d M1 fun ds lk M2 => loopD lk ds (asgT t) (rSs Φ κ body EE) K ds σ M2 := rfl
theorem enumQ_tup {ds : List D} {QI : List D → Option Nat → Md → Prop} : enumQ (.tup ds) M QI = QI (enumD ds) none M := rfl
theorem rS_whil {c body} : rS Φ κ (.whil c body) EE K σ M = ∃ n, whilD (fun σ M Q => rT Φ κ c (fun x => EE x σ) σ M Q) (rSs Φ κ body EE) K n σ M := rfl
theorem rE_var {i} : rE Φ κ (.var i) E σ M Q = match σ[i]? with
    | some (some d) => Q d M
    | _ => False := rfl
theorem rE_int {i} : rE Φ κ (.int i) E σ M Q = Q (.int i) M := rfl
theorem rE_str {i} : rE Φ κ (.str i) E σ M Q = Q (.str i) M := rfl
theorem rE_bl {i} : rE Φ κ (.bl i) E σ M Q = Q (.bl i) M := rfl
theorem rE_non : rE Φ κ .non E σ M Q = Q .non M := rfl
theorem rE_glob {g} : rE Φ κ (.glob g) E σ M Q = Q (κ g) M := rfl
theorem rE_bin {o a b} : rE Φ κ (.bin o a b) E σ M Q = rE Φ κ a E σ M fun x M1 => rE Φ κ b E σ M1 fun y M2 => opD o x y M2 Q := rfl
def negD (x : D) (M : Md) (Q : QE) : Prop := match x with
    | .int i => Q (.int (-i)) M
    | _ => False
theorem rE_neg {a} : rE Φ κ (.neg a) E σ M Q = rE Φ κ a E σ M fun x M1 => negD x M1 Q := rfl
theorem negD_int {i : Int} : negD (.int i) M Q = Q (.int (-i)) M := rfl
theorem rE_not {a} : rE Φ κ (.not a) E σ M Q = rE Φ κ a E σ M fun x M1 => truD x M1 fun k => Q (.bl (!k)) M1 := rfl
theorem rE_and {a b} : rE Φ κ (.and a b) E σ M Q = rE Φ κ a E σ M fun x M1 => truD x M1 fun k => if k = true then rE Φ κ b E σ M1 Q else Q x M1 := rfl
theorem rE_or {a b} : rE Φ κ (.or a b) E σ M Q = rE Φ κ a E σ M fun x M1 => truD x M1 fun k => if k = true then Q x M1 else rE Φ κ b E σ M1 Q := rfl
theorem rE_cmp {c a b} : rE Φ κ (.cmp c a b) E σ M Q = rE Φ κ a E σ M fun x M1 => rE Φ κ b E σ M1 fun y M2 => cpD c x y M2 fun k => Q (.bl k) M2 := rfl
theorem rE_chain {c1 c2 a b d} : rE Φ κ (.chain c1 c2 a b d) E σ M Q = rE Φ κ a E σ M fun x M1 => rE Φ κ b E σ M1 fun y M2 => cpD c1 x y M2 fun k => if k = true then rE Φ κ d E σ M2 fun z M3 => cpD c2 y z M3 fun k => Q (.bl k) M3 else Q (.bl false) M2 := rfl
theorem rE_ife {c a b} : rE Φ κ (.ife c a b) E σ M Q = rT Φ κ c E σ M fun k M1 => if k = true then rE Φ κ a E σ M1 Q else rE Φ κ b E σ M1 Q := rfl
theorem rE_tup {es} : rE Φ κ (.tup es) E σ M Q = rds Φ κ es E σ M fun ds M1 => ds.length ≤ sizeLine ∧ Q (.tup ds) M1 := rfl
theorem rE_lst {es} : rE Φ κ (.lst false es) E σ M Q = rds Φ κ es E σ M fun ds M1 => ds.length ≤ sizeLine ∧ Q (.lst ds) M1 := rfl
theorem rE_lstM {es} : rE Φ κ (.lst true es) E σ M Q = rds Φ κ es E σ M fun ds M1 => ds.length ≤ sizeLine ∧ Q (.ref M1.length) (M1 ++ [.lst ds]) := rfl
theorem rE_idx {a b} : rE Φ κ (.idx a b) E σ M Q = rE Φ κ a E σ M fun x M1 => rE Φ κ b E σ M1 fun y M2 => ixD x y M2 Q := rfl
theorem rE_slc {m a lo hi} : rE Φ κ (.slc m a lo hi) E σ M Q = rE Φ κ a E σ M fun x M1 => rdo Φ κ lo E σ M1 fun l M2 => rdo Φ κ hi E σ M2 fun h M3 => slD m x l h M3 Q := rfl
theorem rE_call {f es} : rE Φ κ (.call f es) E σ M Q = rds Φ κ es E σ M fun ds M1 => Φ f ds M1 Q E := rfl
theorem rE_blt {b es} : rE Φ κ (.blt b es) E σ M Q = rds Φ κ es E σ M fun ds M1 => btD b ds M1 Q := rfl
def fnQ (o : Option (Option D)) (c : Option (List D)) (M : Md) (n : Nat) (K : Nat → List D → Prop) : Prop := match o, c with
  | some (some (.ref k)), some cs => isFn M k n ∧ K k cs
  | _, _ => False
theorem fnQ_ref {k n : Nat} {cs : List D} {K : Nat → List D → Prop} : fnQ (some (some (.ref k))) (some cs) M n K = (isFn M k n ∧ K k cs) := rfl
theorem rE_calln {i n js es} : rE Φ κ (.calln i n js es) E σ M Q = fnQ σ[i]? (capsD σ js) M n fun k cs => rds Φ κ es E σ M fun ds M1 => isFn M1 k n ∧ Φ n (.ref k :: (cs ++ ds)) M1 Q E := by
  show (match σ[i]?, capsD σ js with
    | some (some (.ref k)), some cs => isFn M k n ∧ rds Φ κ es E σ M fun ds M1 => isFn M1 k n ∧ Φ n (.ref k :: (cs ++ ds)) M1 Q E
    | _, _ => False) = _
  unfold fnQ
  rfl
def capQ (o : Option (Option D)) (c : Option (List D)) : Option (List D) := match o, c with
  | some (some d), some ds => some (d :: ds)
  | _, _ => none
theorem capQ_some {d : D} {ds : List D} : capQ (some (some d)) (some ds) = some (d :: ds) := rfl
theorem capsD_nil {σ : Std} : capsD σ [] = some [] := rfl
theorem capsD_cons {σ : Std} {j : Nat} {js : List Nat} : capsD σ (j :: js) = capQ σ[j]? (capsD σ js) := rfl
theorem rE_mth {m o es} : rE Φ κ (.mth m o es) E σ M Q = rE Φ κ o E σ M fun x M1 => mtK m x M1 ∧ rds Φ κ es E σ M1 fun ds M2 => mtD m x ds M2 Q := rfl
theorem rE_comp {elt t it ifs own} : rE Φ κ (.comp false elt t it ifs own) E σ M Q = rdi Φ κ it E σ M fun ds lk M1 =>
      compD lk ds (fun d k M => asgT t d (wipeD σ own) M k) (fun σ M Q => rdt Φ κ ifs (fun _ _ => False) σ M Q) (fun σ M Q => rE Φ κ elt (fun _ _ => False) σ M Q) (fun acc M => Q (.lst acc) M) ds [] M1 := rfl
theorem rE_compM {elt t it ifs own} : rE Φ κ (.comp true elt t it ifs own) E σ M Q = rdi Φ κ it E σ M fun ds lk M1 =>
      compD lk ds (fun d k M => asgT t d (wipeD σ own) M k) (fun σ M Q => rdt Φ κ ifs (fun _ _ => False) σ M Q) (fun σ M Q => rE Φ κ elt (fun _ _ => False) σ M Q) (fun acc M => Q (.ref M.length) (M ++ [.lst acc])) ds [] M1 := rfl
theorem rE_dnewT : rE Φ κ .dnewT E σ M Q = Q (.ref M.length) (M ++ [.dctT []]) := rfl
theorem rE_dlit {ks : List Str} {es : CEs} : rE Φ κ (.dlit ks es) E σ M Q = rds Φ κ es E σ (M ++ [.dct []]) fun ds M1 => M1[M.length]? = some (.dct []) ∧ Q (.ref M.length) (M1.set M.length (.dct (dlitP ks ds []))) := rfl
theorem rE_dget {o k x : CE} : rE Φ κ (.dget o k x) E σ M Q = rE Φ κ o E σ M fun d M1 => isDct d M1 ∧ rE Φ κ k E σ M1 fun y M2 => rE Φ κ x E σ M2 fun z M3 => dgetD d y z M3 Q := rfl
theorem rE_dnew : rE Φ κ .dnew E σ M Q = Q (.ref M.length) (M ++ [.dct []]) := rfl
def lrQ (d : D) (M : Md) (Q : QE) : Prop := match d with
    | .int j => -(2 ^ 62) ≤ j ∧ j ≤ 16777216 ∧ Q (.lst (rngD 0 j)) M
    | _ => False
theorem rE_fld {c a f} : rE Φ κ (.fld c a f) E σ M Q = rE Φ κ a E σ M fun d M1 => fldD c f d M1 Q := rfl
theorem rE_meth {c m n o es} : rE Φ κ (.meth c m n o es) E σ M Q = rE Φ κ o E σ M fun x M1 => objD c m x M1 ∧ rds Φ κ es E σ M1 fun ds M2 => Φ n (x :: ds) M2 Q E := rfl
theorem objD_obj {c m c' : Str} {ns : List Str} {ds : List D} : objD c m (.obj c' ns ds) M = (c' = c ∧ ns.contains m = false) := rfl
theorem rT_meth {c m n o es} : rT Φ κ (.meth c m n o es) E σ M QT = rE Φ κ (.meth c m n o es) E σ M fun d M1 => truD d M1 fun k => QT k M1 := rfl
theorem rE_callK {f j es ks zs df} : rE Φ κ (.callK f j es ks zs df) E σ M Q = rds Φ κ es E σ M fun ds M1 => ds.length = j ∧ rds Φ κ zs E σ M1 fun us M2 => us.length = ks.length ∧ Φ f (ds ++ (us ++ df.map Sc.d)) M2 Q E := rfl
theorem rE_methK {c m n o j es ks zs df} : rE Φ κ (.methK c m n o j es ks zs df) E σ M Q = rE Φ κ o E σ M fun x M1 => objD c m x M1 ∧ rds Φ κ es E σ M1 fun ds M2 => ds.length = j ∧ rds Φ κ zs E σ M2 fun us M3 => us.length = ks.length ∧ Φ n (x :: (ds ++ (us ++ df.map Sc.d))) M3 Q E := rfl
theorem rE_makeK {n c j es ks zs df} : rE Φ κ (.makeK true n c j es ks zs df) E σ M Q = rds Φ κ es E σ M fun ds M0 => ds.length = j ∧ rds Φ κ zs E σ M0 fun us M1 => us.length = ks.length ∧ Φ n (.ref M1.length :: (ds ++ (us ++ df.map Sc.d))) (M1 ++ [.ins c []]) (fun d M2 => d = .non ∧ Q (.ref M1.length) M2) E := rfl
theorem Sc_non : Sc.d .non = .non := rfl
theorem Sc_bl {b : Bool} : Sc.d (.bl b) = .bl b := rfl
theorem Sc_int {i : Int} : Sc.d (.int i) = .int i := rfl
theorem Sc_str {i : Str} : Sc.d (.str i) = .str i := rfl
theorem rE_make {n c es} : rE Φ κ (.make true n c es) E σ M Q = rds Φ κ es E σ M fun ds M1 => Φ n (.ref M1.length :: ds) (M1 ++ [.ins c []]) (fun d M2 => d = .non ∧ Q (.ref M1.length) M2) E := rfl
def mkQ (c : Str) (M1 : Md) (Q : QE) (d : D) (M2 : Md) : Prop := d = .non ∧ ∃ fs, M2 = M1 ++ [.ins c fs] ∧ RLtM M1.length (.ins c fs) ∧ Q (.obj c (fs.map (·.1)) (fs.map (·.2))) M1
theorem rE_makeKS {n c j es ks zs df} : rE Φ κ (.makeK false n c j es ks zs df) E σ M Q = rds Φ κ es E σ M fun ds M0 => ds.length = j ∧ rds Φ κ zs E σ M0 fun us M1 => us.length = ks.length ∧ Φ n (.ref M1.length :: (ds ++ (us ++ df.map Sc.d))) (M1 ++ [.ins c []]) (mkQ c M1 Q) E := rfl
theorem rE_makeS {n c es} : rE Φ κ (.make false n c es) E σ M Q = rds Φ κ es E σ M fun ds M1 => Φ n (.ref M1.length :: ds) (M1 ++ [.ins c []]) (mkQ c M1 Q) E := rfl
def objQ (c c' f : Str) (ns : List Str) (ds : List D) (M : Md) (Q : QE) : Prop := c' = c ∧ match (ns.zip ds).lookup f with
    | some x => Q x M
    | none => False
theorem fld_obj {c c' f : Str} {ns : List Str} {ds : List D} : fldD c f (.obj c' ns ds) M Q = objQ c c' f ns ds M Q := rfl
theorem objQ_hd {c c' f : Str} {ns : List Str} {ds : List D} {d : D} : objQ c c' f (f :: ns) (d :: ds) M Q = (c' = c ∧ Q d M) := by
  unfold objQ
  rw [List.zip_cons_cons, List.lookup_cons, beq_self_eq_true]
theorem objQ_tl {c c' f g : Str} {ns : List Str} {ds : List D} {d : D} (h : (f == g) = false) : objQ c c' f (g :: ns) (d :: ds) M Q = objQ c c' f ns ds M Q := by
  unfold objQ
  rw [List.zip_cons_cons, List.lookup_cons, h]
theorem rS_setFld {c o f v} : rS Φ κ (.setFld c o f v) EE K σ M = rE Φ κ v (fun x => EE x σ) σ M fun d M1 => rE Φ κ o (fun x => EE x σ) σ M1 fun x M2 => setFD c f x d M2 fun M' => K.nx σ M' := rfl
theorem rE_listRg {a} : rE Φ κ (.listRg false a) E σ M Q = rE Φ κ a E σ M fun d M1 => lrQ d M1 Q := rfl
def lrQM (d : D) (M : Md) (Q : QE) : Prop := match d with
    | .int j => -(2 ^ 62) ≤ j ∧ j ≤ 16777216 ∧ Q (.ref M.length) (M ++ [.lst (rngD 0 j)])
    | _ => False
theorem rE_listRgM {a} : rE Φ κ (.listRg true a) E σ M Q = rE Φ κ a E σ M fun d M1 => lrQM d M1 Q := rfl
theorem lrQM_int {j : Int} : lrQM (.int j) M Q = (-(2 ^ 62) ≤ j ∧ j ≤ 16777216 ∧ Q (.ref M.length) (M ++ [.lst (rngD 0 j)])) := rfl
theorem lrQ_int {j : Int} : lrQ (.int j) M Q = (-(2 ^ 62) ≤ j ∧ j ≤ 16777216 ∧ Q (.lst (rngD 0 j)) M) := rfl
theorem rds_nil : rds Φ κ .nil E σ M QA = QA [] M := rfl
theorem rds_cons {e es} : rds Φ κ (.cons e es) E σ M QA = rE Φ κ e E σ M fun d M1 => rds Φ κ es E σ M1 fun ds M2 => QA (d :: ds) M2 := rfl
theorem rdo_none : rdo Φ κ .none E σ M QO = QO none M := rfl
def intO (d : D) (M : Md) (Q : Option Int → Md → Prop) : Prop := match d with
    | .int i => Q (some i) M
    | _ => False
theorem intO_int {i : Int} : intO (.int i) M QO = QO (some i) M := rfl
theorem rdo_some {e} : rdo Φ κ (.some e) E σ M QO = rE Φ κ e E σ M fun d M1 => intO d M1 QO := rfl
theorem rdt_none : rdt Φ κ .none E σ M QT = QT true M := rfl
theorem rdt_some {e} : rdt Φ κ (.some e) E σ M QT = rT Φ κ e E σ M QT := rfl
def walkD (d : D) (M : Md) (Q : List D → Option Nat → Md → Prop) : Prop := match seqOf d M with
    | some ds => Q ds (lkOf d) M
    | none => False
def chrQ (d : D) (M : Md) (Q : List D → Option Nat → Md → Prop) : Prop := match d with
  | .str s => Q (charsD s) none M
  | _ => False
theorem chrQ_str {s : Str} : chrQ (.str s) M QI = QI (charsD s) none M := rfl
theorem rdi_chars {e} : rdi Φ κ (.chars e) E σ M QI = rE Φ κ e E σ M fun d M1 => chrQ d M1 QI := rfl
theorem rdi_seq {e} : rdi Φ κ (.seq e) E σ M QI = rE Φ κ e E σ M fun d M1 => walkD d M1 QI := rfl
theorem walkD_tup {ds} : walkD (.tup ds) M QI = QI ds none M := rfl
theorem walkD_lst {ds} : walkD (.lst ds) M QI = QI ds none M := rfl
def rngQ (d : D) (M : Md) (Q : List D → Option Nat → Md → Prop) : Prop := match d with
    | .int j => -(2 ^ 62) ≤ j ∧ j < 2 ^ 62 ∧ Q (rngD 0 j) none M
    | _ => False
theorem rdi_rng1 {e} : rdi Φ κ (.rng1 e) E σ M QI = rE Φ κ e E σ M fun d M1 => rngQ d M1 QI := rfl
theorem rngQ_int {j} : rngQ (.int j) M QI = (-(2 ^ 62) ≤ j ∧ j < 2 ^ 62 ∧ QI (rngD 0 j) none M) := rfl
def rngQ2 (d e : D) (M : Md) (Q : List D → Option Nat → Md → Prop) : Prop := match d, e with
    | .int i, .int j => -(2 ^ 62) ≤ i ∧ i < 2 ^ 62 ∧ -(2 ^ 62) ≤ j ∧ j < 2 ^ 62 ∧ Q (rngD i j) none M
    | _, _ => False
theorem rdi_rng2 {a b} : rdi Φ κ (.rng2 a b) E σ M QI = rE Φ κ a E σ M fun d M1 => rE Φ κ b E σ M1 fun e M2 => rngQ2 d e M2 QI := rfl
theorem rngQ2_int {i j} : rngQ2 (.int i) (.int j) M QI = (-(2 ^ 62) ≤ i ∧ i < 2 ^ 62 ∧ -(2 ^ 62) ≤ j ∧ j < 2 ^ 62 ∧ QI (rngD i j) none M) := rfl
theorem rT_not {a} : rT Φ κ (.not a) E σ M QT = rT Φ κ a E σ M fun k M1 => QT (!k) M1 := rfl
theorem rT_and {a b} : rT Φ κ (.and a b) E σ M QT = rT Φ κ a E σ M fun k M1 => if k = true then rT Φ κ b E σ M1 QT else QT false M1 := rfl
theorem rT_or {a b} : rT Φ κ (.or a b) E σ M QT = rT Φ κ a E σ M fun k M1 => if k = true then QT true M1 else rT Φ κ b E σ M1 QT := rfl
theorem rT_cmp {c a b} : rT Φ κ (.cmp c a b) E σ M QT = rE Φ κ a E σ M fun x M1 => rE Φ κ b E σ M1 fun y M2 => cpD c x y M2 fun k => QT k M2 := rfl
theorem rT_chain {c1 c2 a b d} : rT Φ κ (.chain c1 c2 a b d) E σ M QT = rE Φ κ a E σ M fun x M1 => rE Φ κ b E σ M1 fun y M2 => cpD c1 x y M2 fun k => if k = true then rE Φ κ d E σ M2 fun z M3 => cpD c2 y z M3 fun k => QT k M3 else QT false M2 := rfl
theorem rT_var {i} : rT Φ κ (.var i) E σ M QT = rE Φ κ (.var i) E σ M fun d M1 => truD d M1 fun k => QT k M1 := rfl
theorem rT_glob {i} : rT Φ κ (.glob i) E σ M QT = rE Φ κ (.glob i) E σ M fun d M1 => truD d M1 fun k => QT k M1 := rfl
theorem rT_bl {i} : rT Φ κ (.bl i) E σ M QT = QT i M := rfl
theorem rT_bin {o a b} : rT Φ κ (.bin o a b) E σ M QT = rE Φ κ (.bin o a b) E σ M fun d M1 => truD d M1 fun k => QT k M1 := rfl
theorem rT_idx {a b} : rT Φ κ (.idx a b) E σ M QT = rE Φ κ (.idx a b) E σ M fun d M1 => truD d M1 fun k => QT k M1 := rfl
theorem rT_fld {c f a} : rT Φ κ (.fld c a f) E σ M QT = rE Φ κ (.fld c a f) E σ M fun d M1 => truD d M1 fun k => QT k M1 := rfl
theorem rT_slc {m a b c} : rT Φ κ (.slc m a b c) E σ M QT = rE Φ κ (.slc m a b c) E σ M fun d M1 => truD d M1 fun k => QT k M1 := rfl
theorem rT_call {a b} : rT Φ κ (.call a b) E σ M QT = rE Φ κ (.call a b) E σ M fun d M1 => truD d M1 fun k => QT k M1 := rfl
theorem rT_blt {a b} : rT Φ κ (.blt a b) E σ M QT = rE Φ κ (.blt a b) E σ M fun d M1 => truD d M1 fun k => QT k M1 := rfl
theorem rT_mth {a b c} : rT Φ κ (.mth a b c) E σ M QT = rE Φ κ (.mth a b c) E σ M fun d M1 => truD d M1 fun k => QT k M1 := rfl
theorem rT_comp {m a b c d e} : rT Φ κ (.comp m a b c d e) E σ M QT = rE Φ κ (.comp m a b c d e) E σ M fun d M1 => truD d M1 fun k => QT k M1 := rfl
theorem opD_add {i j : Int} : opD .add (.int i) (.int j) M Q = Q (.int (i + j)) M := rfl
theorem opD_adds {s t : Str} : opD .add (.str s) (.str t) M Q = (s.length + t.length ≤ sizeLine ∧ Q (.str (s ++ t)) M) := rfl
theorem opD_addt {a b : List D} : opD .add (.tup a) (.tup b) M Q = (a.length + b.length ≤ sizeLine ∧ Q (.tup (a ++ b)) M) := rfl
theorem opD_addl {a b : List D} : opD .add (.lst a) (.lst b) M Q = (a.length + b.length ≤ sizeLine ∧ Q (.lst (a ++ b)) M) := rfl
theorem opD_catl {a b : List D} : opD .cat (.lst a) (.lst b) M Q = (a.length + b.length ≤ sizeLine ∧ Q (.ref M.length) (M ++ [.lst (a ++ b)])) := rfl
theorem opD_sub {i j : Int} : opD .sub (.int i) (.int j) M Q = Q (.int (i - j)) M := rfl
theorem opD_muls {s : Str} {j : Int} : opD .mul (.str s) (.int j) M Q = (0 ≤ j ∧ 1 ≤ s.length ∧ s.length * j.toNat ≤ sizeLine ∧ Q (.str (repS s j.toNat)) M) := rfl
theorem opD_mul {i j : Int} : opD .mul (.int i) (.int j) M Q = (CMul i j ∧ Q (.int (i * j)) M) := rfl
theorem opD_fdivW {i j : Int} : opD .fdivW (.int i) (.int j) M Q = (CDivW i j ∧ Q (.int (i / j)) M) := rfl
theorem opD_fdiv {i j : Int} : opD .fdiv (.int i) (.int j) M Q = (CDiv i j ∧ Q (.int (i / j)) M) := rfl
theorem opD_mod {i j : Int} : opD .mod (.int i) (.int j) M Q = (0 < j ∧ Q (.int (i % j)) M) := rfl
theorem opD_pow {i j : Int} : opD .pow (.int i) (.int j) M Q = (CPow i j ∧ Q (.int (i ^ j.toNat)) M) := rfl
theorem opD_band {i j : Int} : opD .band (.int i) (.int j) M Q = Q (.int (Builtin.bitAnd i j)) M := rfl
section
variable {QB : Bool → Prop}
theorem cp_lt {i j : Int} : cpD .lt (.int i) (.int j) M QB = QB (decide (i < j)) := rfl
theorem cp_le {i j : Int} : cpD .le (.int i) (.int j) M QB = QB (decide (i ≤ j)) := rfl
theorem cp_gt {i j : Int} : cpD .gt (.int i) (.int j) M QB = QB (decide (j < i)) := rfl
theorem cp_ge {i j : Int} : cpD .ge (.int i) (.int j) M QB = QB (decide (j ≤ i)) := rfl
theorem cp_eq {i j : Int} : cpD .eq (.int i) (.int j) M QB = QB (decide (i = j)) := rfl
theorem cp_eqs {i j : Str} : cpD .eq (.str i) (.str j) M QB = QB (decide (i = j)) := rfl
theorem cp_eqb {i j : Bool} : cpD .eq (.bl i) (.bl j) M QB = QB (decide (i = j)) := rfl
theorem cp_eqn : cpD .eq .non .non M QB = QB true := rfl
theorem cp_eqni {i} : cpD .eq .non (.int i) M QB = QB false := rfl
theorem cp_eqin {i} : cpD .eq (.int i) .non M QB = QB false := rfl
theorem cp_ne {i j : Int} : cpD .ne (.int i) (.int j) M QB = QB (!decide (i = j)) := rfl
theorem cp_nes {i j : Str} : cpD .ne (.str i) (.str j) M QB = QB (!decide (i = j)) := rfl
theorem cp_neb {i j : Bool} : cpD .ne (.bl i) (.bl j) M QB = QB (!decide (i = j)) := rfl
theorem cp_nen : cpD .ne .non .non M QB = QB false := rfl
theorem cp_neni {i} : cpD .ne .non (.int i) M QB = QB true := rfl
theorem cp_nein {i} : cpD .ne (.int i) .non M QB = QB true := rfl
theorem cp_isN {d : D} : cpD .isN d .non M QB = QB (isNon d) := by
  show (isNon .non = true ∧ QB (isNon d)) = _
  exact propext ⟨fun h => h.2, fun h => ⟨rfl, h⟩⟩
theorem cp_notN {d : D} : cpD .notN d .non M QB = QB (!isNon d) := by
  show (isNon .non = true ∧ QB (!isNon d)) = _
  exact propext ⟨fun h => h.2, fun h => ⟨rfl, h⟩⟩
theorem cp_isB {a b : Bool} : cpD .isB (.bl a) (.bl b) M QB = QB (decide (a = b)) := rfl
theorem cp_notB {a b : Bool} : cpD .notB (.bl a) (.bl b) M QB = QB (!decide (a = b)) := rfl
theorem isNon_non : isNon .non = true := rfl
theorem isNon_int {i} : isNon (.int i) = false := rfl
theorem isNon_bl {i} : isNon (.bl i) = false := rfl
theorem isNon_str {i} : isNon (.str i) = false := rfl
theorem isNon_tup {i} : isNon (.tup i) = false := rfl
theorem isNon_lst {i} : isNon (.lst i) = false := rfl
theorem isNon_ref {i} : isNon (.ref i) = false := rfl
theorem tru_non : truD .non M QB = QB false := rfl
theorem tru_bl {b} : truD (.bl b) M QB = QB b := rfl
theorem tru_int {i} : truD (.int i) M QB = QB (i != 0) := rfl
theorem tru_str {s} : truD (.str s) M QB = (s.length ≤ sizeLine ∧ QB ((s.length : Int) != 0)) := rfl
theorem tru_tup {ds} : truD (.tup ds) M QB = QB (!ds.isEmpty) := rfl
theorem tru_lst {ds} : truD (.lst ds) M QB = QB (!ds.isEmpty) := rfl
theorem cp_inn_flat {x y : D} {ds : List D} (h1 : seqOf y M = some ds) (h2 : dGet y x M = none) (hx : flatD x = true) (hf : ds.all flatD = true) (hs : ∀ s t, ¬ (x = .str s ∧ y = .str t)) : cpD .inn x y M QB = QB (ds.any fun d => eqF d x) := by
  show inD x y M QB = _
  unfold inD
  split
  · exact absurd ⟨rfl, rfl⟩ (hs _ _)
  · rw [h2]
    simp only [h1, hx, hf, Bool.and_self, if_true]
theorem cp_nin_flat {x y : D} {ds : List D} (h1 : seqOf y M = some ds) (h2 : dGet y x M = none) (hx : flatD x = true) (hf : ds.all flatD = true) (hs : ∀ s t, ¬ (x = .str s ∧ y = .str t)) : cpD .nin x y M QB = QB (!ds.any fun d => eqF d x) := by
  show inD x y M (fun b => QB (!b)) = _
  unfold inD
  split
  · exact absurd ⟨rfl, rfl⟩ (hs _ _)
  · rw [h2]
    simp only [h1, hx, hf, Bool.and_self, if_true]
theorem cp_inn_tup {x : D} {ds : List D} (hx : flatD x = true) (hf : ds.all flatD = true) : cpD .inn x (.tup ds) M QB = QB (ds.any fun d => eqF d x) := cp_inn_flat rfl rfl hx hf (by rintro s t ⟨_, h⟩; cases h)
theorem cp_nin_tup {x : D} {ds : List D} (hx : flatD x = true) (hf : ds.all flatD = true) : cpD .nin x (.tup ds) M QB = QB (!ds.any fun d => eqF d x) := cp_nin_flat rfl rfl hx hf (by rintro s t ⟨_, h⟩; cases h)
end
def atQ (ds : List D) (i : Int) (M : Md) (Q : QE) : Prop := match atI ds i with
  | some d => Q d M
  | none => False
theorem ix_tup' {ds i} : ixD (.tup ds) (.int i) M Q = atQ ds i M Q := rfl
theorem ix_lst' {ds i} : ixD (.lst ds) (.int i) M Q = atQ ds i M Q := rfl
theorem ix_scr {ns i} : ixD (.scr ns) (.int i) M Q = atQ (ns.map .int) i M Q := rfl
theorem ix_ref {k ds i} (h : M[k]? = some (.lst ds)) : ixD (.ref k) (.int i) M Q = atQ ds i M Q := by
  simp only [ixD, dGet, seqOf, h, atQ]
  try rfl
theorem atQ_some {ds : List D} {i : Int} {d : D} (h : atI ds i = some d) : atQ ds i M Q = Q d M := by simp only [atQ, h]
theorem atI_0 {α : Type} {x : α} {xs : List α} : atI (x :: xs) 0 = some x := by
  have : atI (x :: xs) ((0 : Nat) : Int) = some x := atI_nat rfl
  exact this
theorem atI_1 {α : Type} {x y : α} {xs : List α} : atI (x :: y :: xs) 1 = some y := by
  have : atI (x :: y :: xs) ((1 : Nat) : Int) = some y := atI_nat rfl
  exact this
theorem atI_2 {α : Type} {x y z : α} {xs : List α} : atI (x :: y :: z :: xs) 2 = some z := by
  have : atI (x :: y :: z :: xs) ((2 : Nat) : Int) = some z := atI_nat rfl
  exact this
theorem atI_3 {α : Type} {x y z u : α} {xs : List α} : atI (x :: y :: z :: u :: xs) 3 = some u := by
  have : atI (x :: y :: z :: u :: xs) ((3 : Nat) : Int) = some u := atI_nat rfl
  exact this
theorem atI_4 {α : Type} {x y z u v : α} {xs : List α} : atI (x :: y :: z :: u :: v :: xs) 4 = some v := by
  have : atI (x :: y :: z :: u :: v :: xs) ((4 : Nat) : Int) = some v := atI_nat rfl
  exact this
theorem atI_m1 {α : Type} {xs : List α} {x : α} : atI (xs ++ [x]) (-1) = some x := atI_last xs x
theorem atQ_0 {x : D} {xs} : atQ (x :: xs) 0 M Q = Q x M := atQ_some atI_0
theorem atQ_1 {x y : D} {xs} : atQ (x :: y :: xs) 1 M Q = Q y M := atQ_some atI_1
theorem atQ_2 {x y z : D} {xs} : atQ (x :: y :: z :: xs) 2 M Q = Q z M := atQ_some atI_2
theorem atQ_3 {x y z u : D} {xs} : atQ (x :: y :: z :: u :: xs) 3 M Q = Q u M := atQ_some atI_3
theorem atQ_4 {x y z u v : D} {xs} : atQ (x :: y :: z :: u :: v :: xs) 4 M Q = Q v M := atQ_some atI_4
theorem atQ_m1 {x : D} {xs} : atQ (xs ++ [x]) (-1) M Q = Q x M := atQ_some atI_m1
theorem atI_ofNat {α : Type} {xs : List α} {i : Int} {x : α} (h0 : 0 ≤ i) (h : xs[i.toNat]? = some x) : atI xs i = some x := by
  have : atI xs ((i.toNat : Nat) : Int) = some x := atI_nat h
  rwa [Int.toNat_of_nonneg h0] at this
theorem bt_len_str {s : Str} : btD .len [.str s] M Q = (s.length ≤ sizeLine ∧ Q (.int s.length) M) := rfl
theorem bt_len_tup {ds} : btD .len [.tup ds] M Q = Q (.int ds.length) M := rfl
theorem bt_len_lst {ds} : btD .len [.lst ds] M Q = Q (.int ds.length) M := rfl
theorem bt_len_scr {ns} : btD .len [.scr ns] M Q = Q (.int ns.length) M := by
  show Q (.int (ns.map D.int).length) M = _
  rw [List.length_map]
theorem bt_list_tup {ds} : btD .list [.tup ds] M Q = Q (.lst ds) M := rfl
theorem bt_list_lst {ds} : btD .list [.lst ds] M Q = Q (.lst ds) M := rfl
theorem bt_listM_tup {ds} : btD .listM [.tup ds] M Q = Q (.ref M.length) (M ++ [.lst ds]) := rfl
theorem bt_listM_lst {ds} : btD .listM [.lst ds] M Q = Q (.ref M.length) (M ++ [.lst ds]) := rfl
theorem bt_tuple_tup {ds} : btD .tuple [.tup ds] M Q = Q (.tup ds) M := rfl
theorem bt_tuple_lst {ds} : btD .tuple [.lst ds] M Q = Q (.tup ds) M := rfl
theorem bt_max2 {i j : Int} : btD .max2 [.int i, .int j] M Q = Q (.int (if j > i then j else i)) M := rfl
theorem bt_min2 {i j : Int} : btD .min2 [.int i, .int j] M Q = Q (.int (if j < i then j else i)) M := rfl
theorem bt_int_int {i : Int} : btD .int [.int i] M Q = Q (.int i) M := rfl
theorem bt_int_str {s n} (h : PySem.intText? s = some n) (hl : s.length ≤ 640) (q : Q (.int n) M) : btD .int [.str s] M Q := ⟨n, h, hl, q⟩
theorem bt_int_bl {b} : btD .int [.bl b] M Q = Q (.int (if b then 1 else 0)) M := rfl
def srtQ (o : Option MO) (Q : List D → Prop) : Prop := match o with
  | some (.dct kvs) => ∃ ns : List Int, kvs.map (·.1) = ns.map (fun n => some (.inl n)) ∧ Q (sortD (ns.map D.int))
  | _ => False
theorem srt_dct {k : Nat} : btD .sortedD [.ref k] M Q = srtQ M[k]? fun ds => Q (.lst ds) M := rfl
theorem bt_sorted_lst {ds} : btD .sorted [.lst ds] M Q = (SortOk ds ∧ Q (.lst (sortD ds)) M) := by
  show ((∀ es, D.lst ds ≠ .tup es) ∧ SortOk ds ∧ Q (.lst (sortD ds)) M) = _
  exact propext ⟨fun h => h.2, fun h => ⟨(by intro _ h; cases h), h⟩⟩
theorem bt_ord' {s : Str} : btD .ord [.str s] M Q = (s.length = 1 ∧ Q (.int (s.cps.getD 0 0 : Nat)) M) := rfl
theorem bt_str' {i : Int} : btD .str [.int i] M Q = (i.natAbs.log2 < 1920 ∧ Q (.str (toString i)) M) := rfl
def isiQ (t T : String) (M : Md) (Q : QE) : Prop := match kitB t T with
  | some b => Q (.bl b) M
  | none => False
theorem isi_non {T} : btD (.isi T) [.non] M Q = isiQ "NoneType" T M Q := rfl
theorem isi_bl {T b} : btD (.isi T) [.bl b] M Q = isiQ "bool" T M Q := rfl
theorem isi_int {T b} : btD (.isi T) [.int b] M Q = isiQ "int" T M Q := rfl
theorem isi_str {T b} : btD (.isi T) [.str b] M Q = isiQ "str" T M Q := rfl
theorem isi_tup {T b} : btD (.isi T) [.tup b] M Q = isiQ "tuple" T M Q := rfl
theorem isi_lst {T b} : btD (.isi T) [.lst b] M Q = isiQ "list" T M Q := rfl
theorem isiQ_eq {t T : String} {b : Bool} (h : kitB t T = some b) : isiQ t T M Q = Q (.bl b) M := by simp only [isiQ, h]
theorem kit_bb : kitB "bool" "bool" = some true := by decide +kernel
theorem kit_bi : kitB "bool" "int" = some true := by decide +kernel
theorem kit_bs : kitB "bool" "str" = some false := by decide +kernel
theorem kit_bt : kitB "bool" "tuple" = some false := by decide +kernel
theorem kit_bl : kitB "bool" "list" = some false := by decide +kernel
theorem kit_ib : kitB "int" "bool" = some false := by decide +kernel
theorem kit_ii : kitB "int" "int" = some true := by decide +kernel
theorem kit_is : kitB "int" "str" = some false := by decide +kernel
theorem kit_it : kitB "int" "tuple" = some false := by decide +kernel
theorem kit_il : kitB "int" "list" = some false := by decide +kernel
theorem kit_sb : kitB "str" "bool" = some false := by decide +kernel
theorem kit_si : kitB "str" "int" = some false := by decide +kernel
theorem kit_ss : kitB "str" "str" = some true := by decide +kernel
theorem kit_st : kitB "str" "tuple" = some false := by decide +kernel
theorem kit_sl : kitB "str" "list" = some false := by decide +kernel
theorem kit_tb : kitB "tuple" "bool" = some false := by decide +kernel
theorem kit_ti : kitB "tuple" "int" = some false := by decide +kernel
theorem kit_ts : kitB "tuple" "str" = some false := by decide +kernel
theorem kit_tt : kitB "tuple" "tuple" = some true := by decide +kernel
theorem kit_tl : kitB "tuple" "list" = some false := by decide +kernel
theorem kit_lb : kitB "list" "bool" = some false := by decide +kernel
theorem kit_li : kitB "list" "int" = some false := by decide +kernel
theorem kit_ls : kitB "list" "str" = some false := by decide +kernel
theorem kit_lt : kitB "list" "tuple" = some false := by decide +kernel
theorem kit_ll : kitB "list" "list" = some true := by decide +kernel
theorem kit_nb : kitB "NoneType" "bool" = some false := by decide +kernel
theorem kit_ni : kitB "NoneType" "int" = some false := by decide +kernel
theorem kit_ns : kitB "NoneType" "str" = some false := by decide +kernel
theorem kit_nt : kitB "NoneType" "tuple" = some false := by decide +kernel
theorem kit_nl : kitB "NoneType" "list" = some false := by decide +kernel
theorem mt_app {k ds d} (h : M[k]? = some (.lst ds)) : mtD .append (.ref k) [d] M Q = (ds.length < sizeLine ∧ Q .non (M.set k (.lst (ds ++ [d])))) := by simp only [mtD, mutOf, h]
theorem mtK_str {m : Mt} {s : Str} (hm : ¬ mtT m = "list") : mtK m (.str s) M = True := by
  unfold mtK
  rw [if_neg hm]
  exact propext ⟨fun _ => trivial, fun _ => ⟨s, rfl⟩⟩
theorem mtK_join {s} : mtK .join (.str s) M = True := mtK_str (by decide)
theorem mtK_find {s} : mtK .find (.str s) M = True := mtK_str (by decide)
theorem mtK_lower {s} : mtK .lower (.str s) M = True := mtK_str (by decide)
theorem mt_joinl {s ds ys} (h : strsOf ds = some ys) : mtD .join (.str s) [.lst ds] M Q = ((ys.map (·.length)).sum + ys.length * s.length ≤ 16777216 ∧ Q (.str (Txt.join s ys)) M) := by simp only [mtD, seqOf, Option.bind_some, h]
theorem mt_find' {s t} : mtD .find (.str s) [.str t] M Q = Q (.int (Txt.find s t)) M := rfl
theorem mt_lower' {s} : mtD .lower (.str s) [] M Q = (s.length ≤ 5592405 ∧ Q (.str (Txt.lower s)) M) := rfl
theorem sl_tup' {m ds lo hi} : slD m (.tup ds) lo hi M Q = Q (.tup (cutD ds lo hi)) M := rfl
theorem sl_lst' {ds lo hi} : slD false (.lst ds) lo hi M Q = Q (.lst (cutD ds lo hi)) M := rfl
theorem sl_str' {m s lo hi} : slD m (.str s) lo hi M Q = (s.length ≤ sizeLine ∧ Q (.str ⟨(cutD s.cps.toList lo hi).toArray⟩) M) := rfl
section
variable {QS : Std → Md → Prop}
theorem asg_nm {i d} : asgT (.nm i) d σ M QS = QS (σ.set i (some d)) M := rfl
theorem asg_tp {is ds} : asgT (.tp is) (.tup ds) σ M QS = (ds.length = is.length ∧ QS (setAll σ is ds) M) := rfl
theorem setAll_cons {i is d ds} : setAll σ (i :: is) (d :: ds) = setAll (σ.set i (some d)) is ds := rfl
theorem setAll_nil {ds} : setAll σ [] ds = σ := by cases ds <;> rfl
end
theorem at_new0 {l : Md} : (M ++ l)[M.length]? = l[0]? := by
  rw [List.getElem?_append_right (Nat.le_refl _), Nat.sub_self]
theorem at_new {l : Md} {i : Nat} : (M ++ l)[M.length + i]? = l[i]? := by
  rw [List.getElem?_append_right (Nat.le_add_right _ _), Nat.add_sub_cancel_left]
theorem at_old {l : Md} {k : Nat} {m : MO} (h : M[k]? = some m) : (M ++ l)[k]? = some m := by
  rw [List.getElem?_append_left (List.getElem?_eq_some_iff.mp h).1]; exact h
theorem at_set {k : Nat} {m m' : MO} (h : M[k]? = some m) : (M.set k m')[k]? = some m' := List.getElem?_set_self (List.getElem?_eq_some_iff.mp h).1
theorem at_set_ne {k j : Nat} {m m' : MO} (h : M[j]? = some m) (hn : k ≠ j) : (M.set k m')[j]? = some m := by rw [List.getElem?_set_ne hn]; exact h
theorem set_new0 {l : Md} {m : MO} : (M ++ l).set M.length m = M ++ l.set 0 m := by
  rw [List.set_append_right _ _ (Nat.le_refl _), Nat.sub_self]
theorem set_new {l : Md} {i : Nat} {m : MO} : (M ++ l).set (M.length + i) m = M ++ l.set i m := by
  rw [List.set_append_right _ _ (Nat.le_add_right _ _), Nat.add_sub_cancel_left]
theorem set_old {l : Md} {k : Nat} {m m' : MO} (h : M[k]? = some m) : (M ++ l).set k m' = M.set k m' ++ l := List.set_append_left _ _ (List.getElem?_eq_some_iff.mp h).1
theorem len_set {k : Nat} {m : MO} : (M.set k m).length = M.length := List.length_set ..
end
/-- own changing objects are let go -/
theorem Fin.tail {n0 : Nat} {Q : QE} {d : D} {M l : Md} (hn : M.length = n0) (hd : RLt M.length d) (hM : MOk M) (q : Q d M) : Fin n0 Q d (M ++ l) := by
  have e : (M ++ l).take M.length = M := by simp
  refine .drop M.length (by omega) (by simp) hd (by rw [e]; exact hM) ?_
  rw [e]
  exact .keep q
theorem MOk.set {M : Md} (h : MOk M) {k : Nat} {m : MO} (hm : RLtM M.length m) : MOk (M.set k m) := fun x hx => by
  rw [List.length_set]
  rcases List.mem_or_eq_of_mem_set hx with z | z
  · exact h x z
  · rw [z]; exact hm
mutual
def noRef : D → Bool
  | .ref _ => false
  | .tup ds => noRefs ds
  | .lst ds => noRefs ds
  | .obj _ _ ds => noRefs ds
  | .exc _ _ _ _ ds => noRefs ds
  | _ => true
def noRefs : List D → Bool
  | [] => true
  | d :: ds => noRef d && noRefs ds
end
mutual
theorem noRef_lt {n : Nat} : ∀ {d : D}, noRef d = true → RLt n d
  | .ref _, h => by cases h
  | .tup ds, h => noRefs_lt (ds := ds) h
  | .lst ds, h => noRefs_lt (ds := ds) h
  | .non, _ => trivial
  | .bl _, _ => trivial
  | .int _, _ => trivial
  | .str _, _ => trivial
  | .scr _, _ => trivial
  | .obj _ _ ds, h => noRefs_lt (ds := ds) h
  | .exc _ _ _ _ ds, h => noRefs_lt (ds := ds) h
theorem noRefs_lt {n : Nat} : ∀ {ds : List D}, noRefs ds = true → RLts n ds
  | [], _ => trivial
  | d :: ds, h => by
    have h : (noRef d && noRefs ds) = true := h
    rw [Bool.and_eq_true] at h
    exact ⟨noRef_lt h.1, noRefs_lt h.2⟩
end
theorem noRefs_map {α : Type} {f : α → D} {xs : List α} (h : ∀ x ∈ xs, noRef (f x) = true) : noRefs (xs.map f) = true := by
  induction xs with
  | nil => rfl
  | cons x xs ih =>
    show (noRef (f x) && noRefs (xs.map f)) = true
    rw [h x List.mem_cons_self, ih fun y hy => h y (List.mem_cons_of_mem _ hy)]; rfl
end DL
namespace DL
open PySem PySem.Spec PyProof.Rows L2
section
variable {Pg : Program} {w : World} {K : PySem.W.Frag} {mg : Str → Option Value} {base : Heap} {P : Pm} {Φ : Nat → SpD} {κ : Nat → D} {k : Nat}
abbrev OkD (Pg : Program) (w : World) (K : PySem.W.Frag) (mg : Str → Option Value) (base : Heap) (P : Pm) (k : Nat) (f : Addr) (fd : FuncData) (ps : List Str) (sp : SpD) : Prop := FnOk Pg w K mg base (L2.CX Pg w) k f fd ps (liSp P sp)
theorem OkD.no {f : Addr} {fd : FuncData} {ps : List Str} : OkD Pg w K mg base P k f fd ps fun _ _ _ _ => False :=
  ⟨fun _ _ _ _ ⟨_, _, _, _, _, _, _, _, _, q⟩ => q.elim, fun _ _ _ _ _ _ _ _ _ _ _ _ _ ⟨_, _, _, _, _, _, _, _, _, q⟩ => q.elim⟩
theorem OkD.imp {f : Addr} {fd : FuncData} {ps : List Str} {sp sp' : SpD} (F : OkD Pg w K mg base P k f fd ps sp) (h : ∀ ds M Q E, sp' ds M Q E → sp ds M Q E) : OkD Pg w K mg base P k f fd ps sp' :=
  FnOk.imp F fun _ _ _ _ ⟨w, M, ds, Qd, Ed, R, r, l, lx, q⟩ => ⟨w, M, ds, Qd, Ed, R, r, l, lx, h _ _ _ _ q⟩
theorem Tab.nil {B : List Str} (hB : ∀ x ∈ B, mg x = none) : Tab Pg w K mg base P [] B Φ κ k :=
  .mk (fun x f h => absurd h (by simp [List.lookup])) (fun x g h => absurd h (by simp [List.lookup])) hB
theorem Tab.consF {G : List (Str × GD)} {B : List Str} {x : Str} {n j : Nat} {a : Addr} {fd : FuncData} {ps : List Str} (T : Tab Pg w K mg base P G B Φ κ k) (hj : j ≤ k) (hg : mg x = some (.ref a)) (hk : PySem.W.keepIn K (.ref a) = true)
    (F : OkD Pg w K mg base P j a fd ps (Φ n)) (b : Binds K fd ps []) : Tab Pg w K mg base P ((x, .fn n) :: G) B Φ κ k := by
  refine ⟨fun y f h => ?_, fun y g h => ?_, T.blt⟩
  · rw [List.lookup_cons] at h
    split at h
    · next e =>
      cases h
      rw [eq_of_beq e]
      exact ⟨j, a, fd, ps, hj, hg, hk, F, b⟩
    · exact T.fun_ y f h
  · rw [List.lookup_cons] at h
    split at h
    · cases h
    · exact T.cst y g h
theorem Tab.consC {G : List (Str × GD)} {B : List Str} {x : Str} {n : Nat} (T : Tab Pg w K mg base P G B Φ κ k) (c : ∃ u v, mg x = some u ∧ RelV v u ∧ ∀ w, RelD P w (κ n) v) : Tab Pg w K mg base P ((x, .cst n) :: G) B Φ κ k := by
  refine ⟨fun y f h => ?_, fun y g h => ?_, T.blt⟩
  · rw [List.lookup_cons] at h
    split at h
    · cases h
    · exact T.fun_ y f h
  · rw [List.lookup_cons] at h
    split at h
    · next e =>
      cases h
      rw [eq_of_beq e]
      exact c
    · exact T.cst y g h
/-- what stands of a law's own exceptions -/
structure XOk (Pg : Program) (w : World) (K : PySem.W.Frag) (mg : Str → Option Value) (base : Heap) (P : Pm) (XC : XCtx) (k : Nat) : Prop where
  hot : XC.hot = false
  xs : ∀ T ∈ XC.xs, mg T = some (.ref (P.cls T)) ∧ ExcN K (P.cls T) ∧ PySem.W.kitOne K (.ref (P.cls T)) (.type "ValueError") = some true ∧ ∀ c ∈ XC.xs, PySem.W.kitOne K (.ref (P.cls c)) (.ref (P.cls T)) = some (xsub c T) ∧ PySem.W.exmOne K (.ref (P.cls c)) (.ref (P.cls T)) = some (xsub c T)
  xr : ∀ c ∈ XC.xr, mg c = some (.ref (P.cls c)) ∧ RaisN K (P.cls c)
  xi : ∀ q ∈ XC.xi, mg q.1 = some (.ref (P.cls q.1)) ∧ OexC K (P.cls q.1) ∧ ∃ j f fd, j + 1 ≤ k ∧ PySem.W.findIn K (.ref (P.cls q.1)) "__init__" = some (some (.ref f)) ∧ PySem.W.typeIn K (.ref f) = some (.type "function") ∧ FnOk Pg w K mg base (L2.CX Pg w) j f fd ("self" :: q.2) (initSp (P.cls q.1) q.2) ∧ Binds K fd ("self" :: q.2) []
  xf : ∀ q ∈ XC.xf, q.1 ∈ XC.xs ∧ PySem.W.findIn K (.ref (P.cls q.1)) q.2 = some none
  kd : ∀ q ∈ XC.kd, ∃ a es n, mg q.1 = some (.ref a) ∧ KDict K w a es n ∧ TabV K a q.2
theorem XOk.none {base : Heap} : XOk Pg w K mg base P {} k := ⟨rfl, fun _ h => (by cases h), fun _ h => (by cases h), fun _ h => (by cases h), fun _ h => (by cases h), fun _ h => (by cases h)⟩
/-- a body's reading, sound -/
def BodyOk (P : Pm) (C : Ctx) (Φ : Nat → SpD) (κ : Nat → D) (bodyS : List Stmt) (rr : RS) : Prop := ∀ (X : Cx) (W : WX), EnvOk X P C Φ κ → C.sc.kind = .function → Takes X W → PassesOwn (model X.prog X.w) X.A X.env X.xe → X.stack = X.env :: X.outer → X.env.frame = some X.env.locals → PSs X bodyS (liS P W rr)
theorem BodyOk.of {C : Ctx} {bodyS : List Stmt} {cde : CSs} (h : chkSs C cde bodyS = true) : BodyOk P C Φ κ bodyS (rSs Φ κ cde) := fun X W O hk tk hp _ _ => sSs cde O hk tk hp h
/-- THE RULE of a def, of a head's facts, with calls by keywords, with exceptions -/
theorem okDX {G : List (Str × GD)} {B : List Str} {x qual : Str} {params : Arguments} {bodyS : List Stmt} {scope : Scope} {f : Addr} {fd : FuncData} {dvs : List V} {kws : List (Str × V)} {N ps : List Str} {rr : RS} {XC : XCtx} {sp : SpD} {FL : List (Str × Str)} {MK : List (Str × Nat × Str)} {MT : List (Str × Str × Nat)} {KF : List (Str × Nat × Nat × List Str × List Sc)} {KM : List (Str × (Nat × Str) × Nat × List Str × List Sc)} {KT : List ((Str × Str) × Nat × Nat × List Str × List Sc)}
    (hK : P.K = K) (hpg : P.pg = Pg) (hwl : P.wl = w) (T : Tab Pg w K mg base P G B Φ κ k) (F : FunD K x qual params bodyS scope dvs kws f fd) (S : FnScope N ps scope) (hX : XOk Pg w K mg base P XC k) (hc : BodyOk P ⟨N, scope, fun _ => true, G, B, FL, MK, MT, KF, KM, KT, [], XC⟩ Φ κ bodyS rr)
    (hF : ∀ q ∈ FL, Cls K (P.cls q.1) ∧ NoAttr K (P.cls q.1) q.2) (hM : ∀ q ∈ MK, ∃ j f fd ps, j + 1 ≤ k ∧ mg q.1 = some (.ref (P.cls q.2.2)) ∧ Mk K (P.cls q.2.2) f ∧ OkD Pg w K mg base P j f fd ps (Φ q.2.1) ∧ Binds K fd ps [])
    (hT : ∀ q ∈ MT, ∃ j f fd ps, j ≤ k ∧ Cls K (P.cls q.1) ∧ Meth K (P.cls q.1) q.2.1 f ∧ OkD Pg w K mg base P j f fd ps (Φ q.2.2) ∧ Binds K fd ps [])
    (hKF : ∀ q ∈ KF, ∃ j a fd ps g, j ≤ k ∧ mg q.1 = some (.ref a) ∧ PySem.W.keepIn K (.ref a) = true ∧ OkD Pg w K mg base P j a fd ps (Φ q.2.1) ∧ KBn K fd ps q.2.2.1 q.2.2.2.1 g (fun vs zs => vs ++ (zs ++ q.2.2.2.2.map Sc.v)))
    (hKM : ∀ q ∈ KM, ∃ j f fd ps g, j + 1 ≤ k ∧ mg q.1 = some (.ref (P.cls q.2.1.2)) ∧ Mk K (P.cls q.2.1.2) f ∧ OkD Pg w K mg base P j f fd ps (Φ q.2.1.1) ∧ KBn K fd ps (q.2.2.1 + 1) q.2.2.2.1 g (fun vs zs => vs ++ (zs ++ q.2.2.2.2.map Sc.v)))
    (hKT : ∀ q ∈ KT, ∃ j f fd ps g, j ≤ k ∧ Cls K (P.cls q.1.1) ∧ Meth K (P.cls q.1.1) q.1.2 f ∧ OkD Pg w K mg base P j f fd ps (Φ q.2.1) ∧ KBn K fd ps (q.2.2.1 + 1) q.2.2.2.1 g (fun vs zs => vs ++ (zs ++ q.2.2.2.2.map Sc.v)))
    (len : ∀ ds M Q E, sp ds M Q E → ds.length = ps.length)
    (body : ∀ ds M Q E, MOk M → RLts M.length ds → sp ds M Q E → rr (fun x _ M => E x M) (endsD M.length Q) (startD N.length ds) M) :
    OkD Pg w K mg base P (k + 1) f fd ps sp := by
  refine F.ok (CX := L2.CX Pg w) S (fun vs H Q E h => ?_) (fun cdv A outer s H vs Q E hr h => ?_)
  · obtain ⟨w, M, ds, Qd, Ed, R, r, l, lx, q⟩ := h
    rw [r.length]; exact len _ _ _ _ q
  · obtain ⟨wd, M, ds, Qd, Ed, R, r, l, lx, q⟩ := h
    have O : EnvOk (cxOf (L2.CX Pg w) Pg w K mg base N qual scope f cdv A outer s H E) P ⟨N, scope, fun _ => true, G, B, FL, MK, MT, KF, KM, KT, [], XC⟩ Φ κ := by
      refine ⟨hK, hpg, hwl, fun _ => rfl, rfl, S.nd, rfl, fun _ _ => rfl, ?_, fun x f hx => ?_, T.cst, T.blt, hF, fun q hq => ?_, fun q hq => ?_, fun q hq => ?_, fun q hq => ?_, fun q hq => ?_, hX.xs, hX.xr, fun q hq => ?_, hX.xf, hX.kd, fun h => (by rw [show (Ctx.X _).hot = false from hX.hot] at h; cases h), fun _ h => by cases h⟩
      · have := hr.un
        show (A.deeper (envOfC qual scope s.heap.objs.size f cdv)).units + 65 < cLine
        omega
      · obtain ⟨j, a, fd, ps, hj, h1, h2, h3, h4⟩ := T.fun_ x f hx
        exact ⟨j, a, fd, ps, h1, h2, h3, hr.mono hj, h4⟩
      · obtain ⟨j, f, fd, ps, hj, h1, h2, h3, h4⟩ := hM q hq
        exact ⟨j, f, fd, ps, h1, h2, h3, hr.mono hj, h4⟩
      · obtain ⟨j, f, fd, ps, hj, h1, h2, h3, h4⟩ := hT q hq
        exact ⟨j, f, fd, ps, h1, h2, h3, hr.mono hj, h4⟩
      · obtain ⟨j, f, fd, ps, g, hj, h1, h2, h3, h4⟩ := hKF q hq
        exact ⟨j, f, fd, ps, g, h1, h2, h3, hr.mono hj, h4⟩
      · obtain ⟨j, f, fd, ps, g, hj, h1, h2, h3, h4⟩ := hKM q hq
        exact ⟨j, f, fd, ps, g, h1, h2, h3, hr.mono hj, h4⟩
      · obtain ⟨j, f, fd, ps, g, hj, h1, h2, h3, h4⟩ := hKT q hq
        exact ⟨j, f, fd, ps, g, h1, h2, h3, hr.mono hj, h4⟩
      · obtain ⟨h1, h2, j, f, fd, hj, h3, h4, h5, h6⟩ := hX.xi q hq
        exact ⟨h1, h2, j, f, fd, h3, h4, h5, hr.mono hj, h6⟩
    refine ⟨_, hc _ (fun cls d _ H => E cls d H) O S.kind (takes_of rfl rfl rfl rfl) (passes_of rfl) rfl rfl, ?_⟩
    have ok := R.ok
    have rl := r.rlt
    rw [← R.len] at rl
    refine ⟨wd, M, _, endsD M.length Qd, fun x _ M => Ed x M, R, relSt_start N r, ⟨?_, ?_, ?_, ?_⟩, fun w' M' H' sd σ x cls dd s' R' rs' rx q => lx w' M' H' x cls dd s' R' rx q, body ds M Qd Ed ok rl q⟩
    · intro w' M' H' sd σ s' R' rs' q
      obtain ⟨d', M2, w2, s2, R2, r2, q2⟩ := Fin.run (d := .non) (v := .non) q (Nat.le_of_eq R.len.symm) s' R' rfl
      exact l w2 M2 H' d' .non s2 R2 r2 q2
    · intro w' M' H' d v s' R' r' q
      obtain ⟨d', M2, w2, s2, R2, r2, q2⟩ := Fin.run q (Nat.le_of_eq R.len.symm) s' R' r'
      exact l w2 M2 H' d' v s2 R2 r2 q2
    · intro w' M' H' sd σ s' R' rs' q
      exact q.elim
    · intro w' M' H' sd σ s' R' rs' q
      exact q.elim
/-- THE RULE of a def, of a head's facts, with calls by keywords -/
theorem okDK {G : List (Str × GD)} {B : List Str} {x qual : Str} {params : Arguments} {bodyS : List Stmt} {scope : Scope} {f : Addr} {fd : FuncData} {dvs : List V} {kws : List (Str × V)} {N ps : List Str} {code : CSs} {sp : SpD} {FL : List (Str × Str)} {MK : List (Str × Nat × Str)} {MT : List (Str × Str × Nat)} {KF : List (Str × Nat × Nat × List Str × List Sc)} {KM : List (Str × (Nat × Str) × Nat × List Str × List Sc)} {KT : List ((Str × Str) × Nat × Nat × List Str × List Sc)}
    (hK : P.K = K) (hpg : P.pg = Pg) (hwl : P.wl = w) (T : Tab Pg w K mg base P G B Φ κ k) (F : FunD K x qual params bodyS scope dvs kws f fd) (S : FnScope N ps scope) (hc : chkSs ⟨N, scope, fun _ => true, G, B, FL, MK, MT, KF, KM, KT, [], {}⟩ code bodyS = true)
    (hF : ∀ q ∈ FL, Cls K (P.cls q.1) ∧ NoAttr K (P.cls q.1) q.2) (hM : ∀ q ∈ MK, ∃ j f fd ps, j + 1 ≤ k ∧ mg q.1 = some (.ref (P.cls q.2.2)) ∧ Mk K (P.cls q.2.2) f ∧ OkD Pg w K mg base P j f fd ps (Φ q.2.1) ∧ Binds K fd ps [])
    (hT : ∀ q ∈ MT, ∃ j f fd ps, j ≤ k ∧ Cls K (P.cls q.1) ∧ Meth K (P.cls q.1) q.2.1 f ∧ OkD Pg w K mg base P j f fd ps (Φ q.2.2) ∧ Binds K fd ps [])
    (hKF : ∀ q ∈ KF, ∃ j a fd ps g, j ≤ k ∧ mg q.1 = some (.ref a) ∧ PySem.W.keepIn K (.ref a) = true ∧ OkD Pg w K mg base P j a fd ps (Φ q.2.1) ∧ KBn K fd ps q.2.2.1 q.2.2.2.1 g (fun vs zs => vs ++ (zs ++ q.2.2.2.2.map Sc.v)))
    (hKM : ∀ q ∈ KM, ∃ j f fd ps g, j + 1 ≤ k ∧ mg q.1 = some (.ref (P.cls q.2.1.2)) ∧ Mk K (P.cls q.2.1.2) f ∧ OkD Pg w K mg base P j f fd ps (Φ q.2.1.1) ∧ KBn K fd ps (q.2.2.1 + 1) q.2.2.2.1 g (fun vs zs => vs ++ (zs ++ q.2.2.2.2.map Sc.v)))
    (hKT : ∀ q ∈ KT, ∃ j f fd ps g, j ≤ k ∧ Cls K (P.cls q.1.1) ∧ Meth K (P.cls q.1.1) q.1.2 f ∧ OkD Pg w K mg base P j f fd ps (Φ q.2.1) ∧ KBn K fd ps (q.2.2.1 + 1) q.2.2.2.1 g (fun vs zs => vs ++ (zs ++ q.2.2.2.2.map Sc.v)))
    (len : ∀ ds M Q E, sp ds M Q E → ds.length = ps.length)
    (body : ∀ ds M Q E, MOk M → RLts M.length ds → sp ds M Q E → rSs Φ κ code (fun x _ M => E x M) (endsD M.length Q) (startD N.length ds) M) :
    OkD Pg w K mg base P (k + 1) f fd ps sp := okDX hK hpg hwl T F S .none (.of hc) hF hM hT hKF hKM hKT len body
/-- THE RULE of a def, of a head's facts -/
theorem okDM {G : List (Str × GD)} {B : List Str} {x qual : Str} {params : Arguments} {bodyS : List Stmt} {scope : Scope} {f : Addr} {fd : FuncData} {dvs : List V} {kws : List (Str × V)} {N ps : List Str} {code : CSs} {sp : SpD} {FL : List (Str × Str)} {MK : List (Str × Nat × Str)} {MT : List (Str × Str × Nat)}
    (hK : P.K = K) (hpg : P.pg = Pg) (hwl : P.wl = w) (T : Tab Pg w K mg base P G B Φ κ k) (F : FunD K x qual params bodyS scope dvs kws f fd) (S : FnScope N ps scope) (hc : chkSs ⟨N, scope, fun _ => true, G, B, FL, MK, MT, [], [], [], [], {}⟩ code bodyS = true)
    (hF : ∀ q ∈ FL, Cls K (P.cls q.1) ∧ NoAttr K (P.cls q.1) q.2) (hM : ∀ q ∈ MK, ∃ j f fd ps, j + 1 ≤ k ∧ mg q.1 = some (.ref (P.cls q.2.2)) ∧ Mk K (P.cls q.2.2) f ∧ OkD Pg w K mg base P j f fd ps (Φ q.2.1) ∧ Binds K fd ps [])
    (hT : ∀ q ∈ MT, ∃ j f fd ps, j ≤ k ∧ Cls K (P.cls q.1) ∧ Meth K (P.cls q.1) q.2.1 f ∧ OkD Pg w K mg base P j f fd ps (Φ q.2.2) ∧ Binds K fd ps [])
    (len : ∀ ds M Q E, sp ds M Q E → ds.length = ps.length)
    (body : ∀ ds M Q E, MOk M → RLts M.length ds → sp ds M Q E → rSs Φ κ code (fun x _ M => E x M) (endsD M.length Q) (startD N.length ds) M) :
    OkD Pg w K mg base P (k + 1) f fd ps sp := okDK hK hpg hwl T F S hc hF hM hT (fun _ h => by cases h) (fun _ h => by cases h) (fun _ h => by cases h) len body
/-- the same, without methods -/
theorem okDC {G : List (Str × GD)} {B : List Str} {x qual : Str} {params : Arguments} {bodyS : List Stmt} {scope : Scope} {f : Addr} {fd : FuncData} {dvs : List V} {kws : List (Str × V)} {N ps : List Str} {code : CSs} {sp : SpD} {FL : List (Str × Str)} {MK : List (Str × Nat × Str)}
    (hK : P.K = K) (hpg : P.pg = Pg) (hwl : P.wl = w) (T : Tab Pg w K mg base P G B Φ κ k) (F : FunD K x qual params bodyS scope dvs kws f fd) (S : FnScope N ps scope) (hc : chkSs ⟨N, scope, fun _ => true, G, B, FL, MK, [], [], [], [], [], {}⟩ code bodyS = true)
    (hF : ∀ q ∈ FL, Cls K (P.cls q.1) ∧ NoAttr K (P.cls q.1) q.2) (hM : ∀ q ∈ MK, ∃ j f fd ps, j + 1 ≤ k ∧ mg q.1 = some (.ref (P.cls q.2.2)) ∧ Mk K (P.cls q.2.2) f ∧ OkD Pg w K mg base P j f fd ps (Φ q.2.1) ∧ Binds K fd ps [])
    (len : ∀ ds M Q E, sp ds M Q E → ds.length = ps.length)
    (body : ∀ ds M Q E, MOk M → RLts M.length ds → sp ds M Q E → rSs Φ κ code (fun x _ M => E x M) (endsD M.length Q) (startD N.length ds) M) :
    OkD Pg w K mg base P (k + 1) f fd ps sp := okDM hK hpg hwl T F S hc hF hM (fun _ h => by cases h) len body
/-- the same, without classes -/
theorem okD {G : List (Str × GD)} {B : List Str} {x qual : Str} {params : Arguments} {bodyS : List Stmt} {scope : Scope} {f : Addr} {fd : FuncData} {dvs : List V} {kws : List (Str × V)} {N ps : List Str} {code : CSs} {sp : SpD}
    (hK : P.K = K) (hpg : P.pg = Pg) (hwl : P.wl = w) (T : Tab Pg w K mg base P G B Φ κ k) (F : FunD K x qual params bodyS scope dvs kws f fd) (S : FnScope N ps scope) (hc : chkSs ⟨N, scope, fun _ => true, G, B, [], [], [], [], [], [], [], {}⟩ code bodyS = true)
    (len : ∀ ds M Q E, sp ds M Q E → ds.length = ps.length)
    (body : ∀ ds M Q E, MOk M → RLts M.length ds → sp ds M Q E → rSs Φ κ code (fun x _ M => E x M) (endsD M.length Q) (startD N.length ds) M) :
    OkD Pg w K mg base P (k + 1) f fd ps sp := okDC hK hpg hwl T F S hc (fun _ h => by cases h) (fun _ h => by cases h) len body
end
theorem hcInt {P : Pm} {mg : Str → Option Value} {x : Str} {i : Int} (h : ∃ t, mg x = some (.int i t)) : ∃ u v, mg x = some u ∧ RelV v u ∧ ∀ w, RelD P w (.int i) v :=
  let ⟨t, e⟩ := h; ⟨_, .int i, e, ⟨t, rfl⟩, fun _ => rfl⟩
theorem hcStr {P : Pm} {mg : Str → Option Value} {x z : Str} (h : ∃ t, mg x = some (.str z t)) : ∃ u v, mg x = some u ∧ RelV v u ∧ ∀ w, RelD P w (.str z) v :=
  let ⟨t, e⟩ := h; ⟨_, .str z, e, ⟨t, rfl⟩, fun _ => rfl⟩
/-- what a law's own def promises -/
def spLaw (n : Nat) : SpD := fun ds M Q _ => ∃ ns : List Int, ns.length ≤ n ∧ ds = [.scr ns] ∧ M = [] ∧ ∀ M', Q (.bl true) M'
theorem relScr {P : Pm} {H : Hp} {a : Addr} {ns : List Int} (hS : SqL P.K H a (ns.map V.int)) : ∃ F : Hp, (∀ b o, F b = some o → H b = some o) ∧ (∀ b ps, F b ≠ some (.tbl ps)) ∧ SqL P.K F a (ns.map V.int) := by
  rcases hS with (h | ⟨o, h⟩) | h
  · refine ⟨fun b => if b = a then H a else none, fun b o e => ?_, fun b ps e => ?_, .inl (.inl ((if_pos rfl).trans h))⟩
    · have e : (if b = a then H a else none) = some o := e
      by_cases hb : b = a
      · rw [if_pos hb] at e; rw [hb]; exact e
      · rw [if_neg hb] at e; cases e
    · have e : (if b = a then H a else none) = some (.tbl ps) := e
      by_cases hb : b = a
      · rw [if_pos hb, h] at e; cases e
      · rw [if_neg hb] at e; cases e
  · refine ⟨fun b => if b = a then H a else none, fun b o e => ?_, fun b ps e => ?_, .inl (.inr ⟨o, (if_pos rfl).trans h⟩)⟩
    · have e : (if b = a then H a else none) = some _ := e
      by_cases hb : b = a
      · rw [if_pos hb] at e; rw [hb]; exact e
      · rw [if_neg hb] at e; cases e
    · have e : (if b = a then H a else none) = some (.tbl ps) := e
      by_cases hb : b = a
      · rw [if_pos hb, h] at e; cases e
      · rw [if_neg hb] at e; cases e
  · exact ⟨fun _ => none, (fun _ _ e => by cases e), (fun _ _ e => by cases e), .inr h⟩
theorem liLaw {P : Pm} {n : Nat} {H : Hp} {a : Addr} {ns : List Int} (hl : ns.length ≤ n) (hT : P.T = []) (hS : SqL P.K H a (ns.map V.int)) : liSp P (spLaw n) [.ref a] H (fun v _ => v = .bl true) fun _ _ _ => False := by
  obtain ⟨F, hF, hn, hS⟩ := relScr hS
  refine ⟨⟨F, []⟩, [], [.scr ns], fun d _ => d = .bl true, fun _ _ => False, ⟨hF, rfl, .nil, (by intro p hp; cases hp), (fun k m p h => by cases h), ⟨fun t ht => (by rw [hT] at ht; cases ht), hn, (fun b hb => by cases hb)⟩⟩, ⟨.ref a, [], rfl, ⟨a, rfl, hS⟩, rfl⟩, fun w' M' H' d v _ _ r q => ?_, fun _ _ _ _ _ _ _ _ _ q => q.elim, ns, hl, rfl, rfl, fun _ => rfl⟩
  cases q
  exact r
/-- a law's end: of the facts its def's promise over every base -/
theorem walk_ofX {l : PySem.W.OpenLaw} {n k : Nat} {q : Program} {loose : List Str} {XP : (Str → Option Value) → Heap → Prop} {YP : World → Heap → Prop} {d : DefRec} {x : Str}
    (hn : l.most = some n) (hn2 : n ≤ sizeLine) (hdf : d.params.defaults = []) (hr : Room k callerA)
    (F : ∀ (w : World) (mg : Str → Option Value) (fa : Addr) (h : Heap), YP w h → h.Ns mainGlobals mg → mg d.name = some (.ref fa) →
      ∃ (P : Pm) (fd : FuncData), P.T = [] ∧ P.K.In h ∧ (∀ (s : Shared) (u : Value), BindsTo s fd ⟨[u], []⟩ [(x, u)]) ∧ ∀ base : Heap, P.K.In base → base.Ns mainGlobals mg → OkD l.prog w P.K mg base P k fa fd [x] (spLaw n)) :
    PySem.W.WalkO q loose XP YP l.row.toRowW d [] (fun f vs => PySem.call f vs) :=
  Att.attach_call hn hdf fun w s₀ s₁ mg mb fa o pm cd doc a vs ns G Y ho hd hcd hmg hobj hints hlen hg => by
    obtain ⟨P, fd, hT, KX, hb, hF⟩ := F w mg fa _ Y G.T.g hmg
    exact law_call (sp := liSp P (spLaw n)) KX G.T.g G.T.b G.T.builtins G.T.nolimit hg hobj hints (Nat.le_trans hlen hn2) hr hF hb (fun H _ hS => liLaw hlen hT hS) fun H e s' h => by
      obtain ⟨_, _, _, _, _, _, _, _, _, _, _, _, q⟩ := h
      exact q
end DL
namespace DL
open PySem L2
section
variable {lk : Option Nat} {all : List D} {asg : D → Std → Md → (Std → Md → Prop) → Prop} {body : EndsD → Std → Md → Prop} {K : EndsD}
theorem loop_list (Inv : List D → Std → Md → Prop) (hl : ∀ ds σ M, Inv ds σ M → lkOk lk all M)
    (step : ∀ d ds σ M (nx : Std → Md → Prop), Inv (d :: ds) σ M → (∀ σ' M', Inv ds σ' M' → nx σ' M') → asg d σ M fun σ1 M1 => body ⟨nx, K.rt, K.nx, nx⟩ σ1 M1)
    (fin : ∀ σ M, Inv [] σ M → K.nx σ M) : ∀ ds σ M, Inv ds σ M → loopD lk all asg body K ds σ M
  | [], σ, M, h => ⟨hl _ _ _ h, fin _ _ h⟩
  | d :: ds, σ, M, h => ⟨hl _ _ _ h, step d ds σ M _ h fun σ' M' h' => loop_list Inv hl step fin ds σ' M' h'⟩
end
section
variable {lk : Option Nat} {all : List D} {asg : D → (Std → Md → Prop) → Md → Prop} {tst : Std → Md → (Bool → Md → Prop) → Prop} {elt : Std → Md → QE → Prop} {Q : List D → Md → Prop}
theorem comp_inv (Inv : List D → List D → Md → Prop) (hl : ∀ ds acc M, Inv ds acc M → lkOk lk all M)
    (step : ∀ d ds acc M (C : List D → Md → Prop), Inv (d :: ds) acc M → (∀ acc' M', Inv ds acc' M' → C acc' M') →
      asg d (fun σ1 M1 => tst σ1 M1 fun k M2 => if k = true then elt σ1 M2 fun y M3 => acc.length < sizeLine ∧ C (acc ++ [y]) M3 else C acc M2) M)
    (fin : ∀ acc M, Inv [] acc M → Q acc M) : ∀ ds acc M, Inv ds acc M → compD lk all asg tst elt Q ds acc M
  | [], acc, M, h => ⟨hl _ _ _ h, fin _ _ h⟩
  | d :: ds, acc, M, h => ⟨hl _ _ _ h, step d ds acc M (fun a m => compD lk all asg tst elt Q ds a m) h fun acc' M' h' => comp_inv Inv hl step fin ds acc' M' h'⟩
theorem comp_map {α : Type} {xs : List α} {M : Md} (enc : α → D) (f : α → D) (hl : lkOk lk all M) (hs : xs.length ≤ sizeLine)
    (step : ∀ x ∈ xs, ∀ (yes : D → Md → Prop) (no : Md → Prop), yes (f x) M → asg (enc x) (fun σ1 M1 => tst σ1 M1 fun k M2 => if k = true then elt σ1 M2 yes else no M2) M)
    (fin : Q (xs.map f) M) : compD lk all asg tst elt Q (xs.map enc) [] M := by
  have key : ∀ (ys : List α) (acc : List α), (∀ y ∈ ys, y ∈ xs) → acc.length + ys.length ≤ sizeLine → acc ++ ys = xs → compD lk all asg tst elt Q (ys.map enc) (acc.map f) M := by
    intro ys
    induction ys with
    | nil => intro acc _ _ e; rw [List.append_nil] at e; rw [e]; exact ⟨hl, fin⟩
    | cons y ys ih =>
      intro acc hm hlen e
      have hlen : acc.length + (ys.length + 1) ≤ sizeLine := hlen
      refine ⟨hl, step y (hm y List.mem_cons_self) _ _ ⟨by rw [List.length_map]; omega, ?_⟩⟩
      have := ih (acc ++ [y]) (fun z hz => hm z (List.mem_cons_of_mem _ hz)) (by rw [List.length_append]; show acc.length + 1 + ys.length ≤ _; omega) (by rw [← e, List.append_assoc]; rfl)
      rw [List.map_append] at this
      exact this
  exact key xs [] (fun _ h => h) (by simpa using hs) rfl
end
theorem endsD_nx {n : Nat} {Q : QE} {σ : Std} {M : Md} : (endsD n Q).nx σ M = Fin n Q .non M := rfl
theorem endsD_rt {n : Nat} {Q : QE} {d : D} {M : Md} : (endsD n Q).rt d M = Fin n Q d M := rfl
/-- a def's code reads as promised -/
def RdOk (Φ : Nat → SpD) (κ : Nat → D) (c : CSs) (n : Nat) (sp : SpD) : Prop := ∀ ds M Q E, MOk M → RLts M.length ds → sp ds M Q E → rSs Φ κ c (fun x _ M => E x M) (endsD M.length Q) (startD n ds) M
/-- what stands still to be run of a def -/
abbrev At (Φ : Nat → SpD) (κ : Nat → D) (E : EX) (n : Nat) (Q : QE) (c : CSs) (σ : Std) (M : Md) : Prop := nxt Φ κ c (fun x _ M => E x M) (endsD n Q) σ M
end DL
namespace DL
open PySem L2
section
variable {M R l : Md} {Q : QE} {QB : Bool → Prop} {QM : Md → Prop} {k : Nat} {ds es : List D} {kvs : List (Option Key × D)} {QI : List D → Option Nat → Md → Prop}
def optQ {α : Type} (o : Option α) (f : α → Prop) : Prop := match o with
  | some a => f a
  | none => False
theorem optQ_some {α : Type} {a : α} {f : α → Prop} : optQ (some a) f = f a := rfl
def seqQ (o : Option (List D)) (f : List D → Prop) : Prop := match o with
  | some ds => f ds
  | none => False
theorem seqQ_some {f : List D → Prop} : seqQ (some ds) f = f ds := rfl
def intsQ (o : Option (List Int)) (f : List Int → Prop) : Prop := match o with
  | some ds => f ds
  | none => False
theorem intsQ_some {f : List Int → Prop} {ns} : intsQ (some ns) f = f ns := rfl
def blsQ (o : Option (List Bool)) (f : List Bool → Prop) : Prop := match o with
  | some ds => f ds
  | none => False
theorem blsQ_some {f : List Bool → Prop} {ns} : blsQ (some ns) f = f ns := rfl
def strQ (o : Option String) (f : String → Prop) : Prop := match o with
  | some ds => f ds
  | none => False
theorem strQ_some {f : String → Prop} {t} : strQ (some t) f = f t := rfl
def seqR (o : Option MO) : Option (List D) := match o with
  | some (.lst ds) => some ds
  | _ => none
theorem seqR_lst : seqR (some (.lst ds)) = some ds := rfl
theorem seqOf_R : seqOf (.ref k) M = seqR M[k]? := rfl
theorem lstOf_R : lstOf (.ref k) M = seqR M[k]? := rfl
def ixR (o : Option MO) (k : Nat) (y : D) (M : Md) (Q : QE) : Prop := match o, y with
  | some (.lst ds), .int i => atQ ds i M Q
  | some (.dct kvs), y => optQ (keyD y) fun ky => optQ (dctVal kvs ky) fun d => Q d M
  | some (.dctT kvs), y => optQ (tKey y) fun ky => optQ (dctValT kvs ky) fun d => Q d M
  | _, _ => ixD (.ref k) y M Q
theorem ix_R {y : D} : ixD (.ref k) y M Q = ixR M[k]? k y M Q := by
  unfold ixR
  cases h : M[k]? with
  | none => rfl
  | some m =>
    cases m with
    | lst ds =>
      cases y with
      | int i => exact ix_ref h
      | _ => rfl
    | dct kvs =>
      cases e : keyD y with
      | none => cases y <;> simp only [ixD, dGet, h, e, optQ, Option.map_none, seqOf]
      | some ky => cases e2 : dctVal kvs ky <;> cases y <;> simp only [ixD, dGet, h, e, optQ, Option.map_some, e2]
    | dctT kvs =>
      cases e : tKey y with
      | none => cases y <;> simp only [ixD, dGet, h, e, optQ, Option.map_none, seqOf]
      | some ky => cases e2 : dctValT kvs ky <;> cases y <;> simp only [ixD, dGet, h, e, optQ, Option.map_some, e2]
    | _ => rfl
theorem ixR_lst {i : Int} : ixR (some (.lst ds)) k (.int i) M Q = atQ ds i M Q := rfl
theorem ixR_dct {y : D} : ixR (some (.dct kvs)) k y M Q = optQ (keyD y) fun ky => optQ (dctVal kvs ky) fun d => Q d M := by
  cases y <;> rfl
theorem ixR_dctT {kvs : List (D × D)} {y : D} : ixR (some (.dctT kvs)) k y M Q = optQ (tKey y) fun ky => optQ (dctValT kvs ky) fun d => Q d M := by
  cases y <;> rfl
/-- x in a changing object -/
def inR (o : Option MO) (k : Nat) (x : D) (M : Md) (Q : Bool → Prop) : Prop := match o with
  | some (.dct kvs) => optQ (keyD x) fun ky => Q (dctVal kvs ky).isSome
  | some (.dctT kvs) => optQ (tKey x) fun ky => Q (dctValT kvs ky).isSome
  | _ => inD x (.ref k) M Q
theorem inD_R {x : D} : inD x (.ref k) M QB = inR M[k]? k x M QB := by
  unfold inR
  cases h : M[k]? with
  | none => rfl
  | some m =>
    cases m with
    | dct kvs =>
      cases e : keyD x with
      | none => cases x <;> simp only [inD, dGet, h, e, optQ, Option.map_none, seqOf]
      | some ky => cases x <;> simp only [inD, dGet, h, e, optQ, Option.map_some]
    | dctT kvs =>
      cases e : tKey x with
      | none => cases x <;> simp only [inD, dGet, h, e, optQ, Option.map_none, seqOf]
      | some ky => cases x <;> simp only [inD, dGet, h, e, optQ, Option.map_some]
    | _ => rfl
theorem cp_inn_R {x : D} : cpD .inn x (.ref k) M QB = inR M[k]? k x M QB := inD_R
theorem cp_nin_R {x : D} : cpD .nin x (.ref k) M QB = inR M[k]? k x M fun b => QB (!b) := inD_R (QB := fun b => QB (!b))
theorem inR_dct {x : D} : inR (some (.dct kvs)) k x M QB = optQ (keyD x) fun ky => QB (dctVal kvs ky).isSome := rfl
theorem inR_dctT {kvs : List (D × D)} {x : D} : inR (some (.dctT kvs)) k x M QB = optQ (tKey x) fun ky => QB (dctValT kvs ky).isSome := rfl
theorem keyD_non : keyD .non = some none := rfl
theorem keyD_int {i : Int} : keyD (.int i) = some (some (.inl i)) := rfl
theorem keyD_str {i : Str} : keyD (.str i) = some (some (.inr i)) := rfl
def truR (o : Option MO) (QB : Bool → Prop) : Prop := match o with
  | some (.lst ds) => QB (!ds.isEmpty)
  | _ => False
theorem tru_R : truD (.ref k) M QB = truR M[k]? QB := rfl
theorem truR_lst : truR (some (.lst ds)) QB = QB (!ds.isEmpty) := rfl
theorem walk_R : walkD (.ref k) M QI = seqQ (seqR M[k]?) fun ds => QI ds (some k) M := rfl
theorem walk_scr {ns} : walkD (.scr ns) M QI = QI (ns.map .int) none M := rfl
theorem len_R : btD .len [.ref k] M Q = seqQ (seqR M[k]?) fun ds => Q (.int ds.length) M := rfl
theorem list_R : btD .list [.ref k] M Q = seqQ (seqR M[k]?) fun ds => Q (.lst ds) M := rfl
theorem listM_R : btD .listM [.ref k] M Q = seqQ (seqR M[k]?) fun ds => Q (.ref M.length) (M ++ [.lst ds]) := rfl
theorem tuple_R : btD .tuple [.ref k] M Q = seqQ (seqR M[k]?) fun ds => Q (.tup ds) M := rfl
theorem list_scr {ns} : btD .list [.scr ns] M Q = Q (.lst (ns.map .int)) M := rfl
theorem tuple_scr {ns} : btD .tuple [.scr ns] M Q = Q (.tup (ns.map .int)) M := rfl
theorem sorted_R : btD .sorted [.ref k] M Q = seqQ (seqR M[k]?) fun ds => SortOk ds ∧ Q (.lst (sortD ds)) M := by
  show ((∀ es, D.ref k ≠ .tup es) ∧ seqQ (seqR M[k]?) fun ds => SortOk ds ∧ Q (.lst (sortD ds)) M) = _
  exact propext ⟨fun h => h.2, fun h => ⟨(by intro _ h; cases h), h⟩⟩
theorem sortedM_lst : btD .sortedM [.lst ds] M Q = (SortOk ds ∧ Q (.ref M.length) (M ++ [.lst (sortD ds)])) := by
  show ((∀ es, D.lst ds ≠ .tup es) ∧ SortOk ds ∧ Q (.ref M.length) (M ++ [.lst (sortD ds)])) = _
  exact propext ⟨fun h => h.2, fun h => ⟨(by intro _ h; cases h), h⟩⟩
theorem sortedM_R : btD .sortedM [.ref k] M Q = seqQ (seqR M[k]?) fun ds => SortOk ds ∧ Q (.ref M.length) (M ++ [.lst (sortD ds)]) := by
  show ((∀ es, D.ref k ≠ .tup es) ∧ seqQ (seqR M[k]?) fun ds => SortOk ds ∧ Q (.ref M.length) (M ++ [.lst (sortD ds)])) = _
  exact propext ⟨fun h => h.2, fun h => ⟨(by intro _ h; cases h), h⟩⟩
theorem sum_lst : btD .sum [.lst ds] M Q = intsQ (intsOf ds) fun ns => Q (.int ns.sum) M := by
  show ((∀ es, D.lst ds ≠ .tup es) ∧ intsQ (intsOf ds) fun ns => Q (.int ns.sum) M) = _
  exact propext ⟨fun h => h.2, fun h => ⟨(by intro _ h; cases h), h⟩⟩
theorem any_lst : btD .any [.lst ds] M Q = blsQ (blsOf ds) fun bs => Q (.bl (bs.any id)) M := by
  show ((∀ es, D.lst ds ≠ .tup es) ∧ blsQ (blsOf ds) fun bs => Q (.bl (bs.any id)) M) = _
  exact propext ⟨fun h => h.2, fun h => ⟨(by intro _ h; cases h), h⟩⟩
theorem all_lst : btD .all [.lst ds] M Q = blsQ (blsOf ds) fun bs => Q (.bl (bs.all id)) M := by
  show ((∀ es, D.lst ds ≠ .tup es) ∧ blsQ (blsOf ds) fun bs => Q (.bl (bs.all id)) M) = _
  exact propext ⟨fun h => h.2, fun h => ⟨(by intro _ h; cases h), h⟩⟩
def tyR (o : Option MO) : Option String := match o with
  | some (.lst _) => some "list"
  | _ => none
theorem tyR_lst : tyR (some (.lst ds)) = some "list" := rfl
theorem isi_R {T : String} : btD (.isi T) [.ref k] M Q = strQ (tyR M[k]?) fun t => isiQ t T M Q := rfl
theorem isi_scr {T : String} {ns} : btD (.isi T) [.scr ns] M Q = isiQ "list" T M Q := rfl
def sxR (o : Option MO) (k : Nat) (y d : D) (M : Md) (Q : Md → Prop) : Prop := match o, y with
  | some (.lst ds), .int i => optQ (ixN ds.length i) fun j => Q (M.set k (.lst (ds.set j d)))
  | some (.dct kvs), y => optQ (keyD y) fun ky => kvs.length < sizeLine ∧ Q (M.set k (.dct (dctPut kvs ky d)))
  | some (.dctT kvs), y => optQ (tKey y) fun ky => kvs.length < sizeLine ∧ Q (M.set k (.dctT (dctPutT kvs y ky d)))
  | _, _ => False
theorem sx_R {y d : D} : setIxD (.ref k) y d M QM = sxR M[k]? k y d M QM := by
  unfold sxR
  cases h : M[k]? with
  | none => simp only [setIxD, h]
  | some m =>
    cases m with
    | lst ds =>
      cases y with
      | int i => cases e : ixN ds.length i <;> simp only [setIxD, h, e, optQ]
      | _ => simp only [setIxD, h]
    | dct kvs => cases e : keyD y <;> simp only [setIxD, h, e, optQ]
    | dctT kvs => cases e : tKey y <;> simp only [setIxD, h, e, optQ]
    | _ => simp only [setIxD, h]
theorem sxR_lst {i : Int} {d : D} : sxR (some (.lst ds)) k (.int i) d M QM = optQ (ixN ds.length i) fun j => QM (M.set k (.lst (ds.set j d))) := rfl
theorem sxR_dct {y d : D} : sxR (some (.dct kvs)) k y d M QM = optQ (keyD y) fun ky => kvs.length < sizeLine ∧ QM (M.set k (.dct (dctPut kvs ky d))) := by
  cases y <;> rfl
theorem sxR_dctT {kvs : List (D × D)} {y d : D} : sxR (some (.dctT kvs)) k y d M QM = optQ (tKey y) fun ky => kvs.length < sizeLine ∧ QM (M.set k (.dctT (dctPutT kvs y ky d))) := by
  cases y <;> rfl
theorem ixN_pos {n : Nat} {i : Int} (h : 0 ≤ i) (h2 : i < n) : ixN n i = some i.toNat := by
  unfold ixN
  rw [if_pos h, if_pos h2]
theorem ixN_0 {n : Nat} : ixN (n + 1) 0 = some 0 := ixN_pos (Int.le_refl 0) (by omega)
theorem ixN_1 {n : Nat} : ixN (n + 1 + 1) 1 = some 1 := ixN_pos (by omega) (by omega)
theorem ixN_m1 {n : Nat} : ixN (n + 1) (-1) = some n := by
  unfold ixN
  rw [if_neg (by omega), if_pos (by omega)]
  congr 1
  omega
theorem mtK_R {m : Mt} (h : mtT m = "list") : mtK m (.ref k) M = ((seqR M[k]?).isSome = true) := by
  unfold mtK
  rw [if_pos h]
  exact propext ⟨fun h => h.1, fun h => ⟨h, by intro _ h; cases h⟩⟩
theorem mtKa : mtK .append (.ref k) M = ((seqR M[k]?).isSome = true) := mtK_R rfl
theorem mtKe : mtK .extend (.ref k) M = ((seqR M[k]?).isSome = true) := mtK_R rfl
theorem mtKp : mtK .pop (.ref k) M = ((seqR M[k]?).isSome = true) := mtK_R rfl
theorem mtKpa : mtK .popAt (.ref k) M = ((seqR M[k]?).isSome = true) := mtK_R rfl
theorem mtKx : mtK .index (.ref k) M = ((seqR M[k]?).isSome = true) := mtK_R rfl
theorem mtKxl {ds : List D} : mtK .index (.lst ds) M = True := by
  show (if "list" = "list" then (seqOf (D.lst ds) M).isSome = true ∧ ∀ es, D.lst ds ≠ D.tup es else ∃ s, D.lst ds = D.str s) = True
  rw [if_pos rfl]
  exact propext ⟨fun _ => trivial, fun _ => ⟨rfl, fun _ h => by cases h⟩⟩
def idxQ (o : Option (List D)) (y : D) (M : Md) (Q : QE) : Prop := seqQ o fun ds => flatD y = true ∧ ds.all flatD = true ∧ match idxF y ds with
  | some j => Q (.int j) M
  | none => False
theorem idx_eq {x y : D} : mtD .index x [y] M Q = idxQ (lstOf x M) y M Q := by
  unfold idxQ
  show (match lstOf x M, [y] with
    | some ds, [y] => _
    | _, _ => False) = _
  cases lstOf x M <;> rfl
theorem rev_R {m : Bool} {a : CE} {Φ κ E σ} : rE Φ κ (.rev m a) E σ M Q = rE Φ κ a E σ M fun x M1 => seqQ (lstOf x M1) fun ds => if m = true then Q (.ref M1.length) (M1 ++ [.lst ds.reverse]) else Q (.lst ds.reverse) M1 := by
  show (rE Φ κ a E σ M fun x M1 => match lstOf x M1 with
    | some ds => if m = true then Q (.ref M1.length) (M1 ++ [.lst ds.reverse]) else Q (.lst ds.reverse) M1
    | none => False) = _
  congr 1
  try (funext x M1; cases lstOf x M1 <;> rfl)
theorem mtKi : mtK .insert (.ref k) M = ((seqR M[k]?).isSome = true) := mtK_R rfl
theorem mtKr : mtK .reverse (.ref k) M = ((seqR M[k]?).isSome = true) := mtK_R rfl
theorem app_R {d : D} : mtD .append (.ref k) [d] M Q = seqQ (seqR M[k]?) fun ds => ds.length < sizeLine ∧ Q .non (M.set k (.lst (ds ++ [d]))) := by
  cases e : seqR M[k]? with
  | none =>
    show (match mutOf (.ref k) M, [d] with
      | some (k, ds), [d] => ds.length < sizeLine ∧ Q .non (M.set k (.lst (ds ++ [d])))
      | _, _ => False) = False
    unfold seqR at e
    unfold mutOf
    cases h : M[k]? with
    | none => simp only [h, seqQ]
    | some m =>
      cases m with
      | lst ds => rw [h] at e; cases e
      | _ => simp only [h, seqQ]
  | some ds =>
    have h : M[k]? = some (.lst ds) := by
      unfold seqR at e
      split at e
      · next h => cases e; exact h
      · cases e
    exact mt_app h
theorem ext_R {d : D} (h : M[k]? = some (.lst ds)) : mtD .extend (.ref k) [d] M Q = seqQ (extOf d M) fun es => ds.length + es.length ≤ sizeLine ∧ Q .non (M.set k (.lst (ds ++ es))) := by
  simp only [mtD, mutOf, h]
  cases extOf d M <;> rfl
theorem pop_R (h : M[k]? = some (.lst ds)) : mtD .pop (.ref k) [] M Q = optQ ds.getLast? fun d => Q d (M.set k (.lst ds.dropLast)) := by
  simp only [mtD, mutOf, h]
  cases ds.getLast? <;> rfl
theorem addR : opD .add (.ref k) (.lst es) M Q = seqQ (seqR M[k]?) fun ds => ds.length + es.length ≤ sizeLine ∧ Q (.lst (ds ++ es)) M := by
  show (match seqR M[k]?, some es with
    | some a, some b => a.length + b.length ≤ sizeLine ∧ Q (.lst (a ++ b)) M
    | _, _ => False) = _
  cases seqR M[k]? <;> rfl
theorem catR : opD .cat (.ref k) (.lst es) M Q = seqQ (seqR M[k]?) fun ds => ds.length + es.length ≤ sizeLine ∧ Q (.ref M.length) (M ++ [.lst (ds ++ es)]) := by
  show (match seqR M[k]?, some es with
    | some a, some b => a.length + b.length ≤ sizeLine ∧ Q (.ref M.length) (M ++ [MO.lst (a ++ b)])
    | _, _ => False) = _
  cases seqR M[k]? <;> rfl
theorem sorted_l {a : D} (h : lstOf a M = some ds) : btD .sorted [a] M Q = (SortOk ds ∧ Q (.lst (sortD ds)) M) := by
  cases a with
  | lst _ => cases h; exact bt_sorted_lst
  | ref k =>
    rw [lstOf_R] at h
    rw [sorted_R, h]; rfl
  | _ => cases h
theorem set_snoc {α : Type} {xs : List α} {x d : α} : (xs ++ [x]).set xs.length d = xs ++ [d] := by
  rw [List.set_append_right _ _ (Nat.le_refl _), Nat.sub_self]; rfl
theorem emp_snoc {α : Type} {xs : List α} {x : α} : (xs ++ [x]).isEmpty = false := by cases xs <;> rfl
theorem emp_cons {α : Type} {xs : List α} {x : α} : (x :: xs).isEmpty = false := rfl
theorem emp_nil {α : Type} : ([] : List α).isEmpty = true := rfl
theorem sz0 : (0 ≤ sizeLine) = True := by decide
theorem sz1 : (1 ≤ sizeLine) = True := by decide
theorem sz2 : (2 ≤ sizeLine) = True := by decide
theorem sz3 : (3 ≤ sizeLine) = True := by decide
theorem sz4 : (4 ≤ sizeLine) = True := by decide
theorem sz5 : (5 ≤ sizeLine) = True := by decide
theorem sz6 : (6 ≤ sizeLine) = True := by decide
theorem size_eq : sizeLine = 16777216 := by decide
theorem wipe_nil {σ : Std} : wipeD σ [] = σ := rfl
theorem wipe_cons {σ : Std} {v vs} : wipeD σ (v :: vs) = (wipeD σ vs).set v none := rfl
end
theorem lnLaw {n : Nat} : ∀ ds M Q E, spLaw n ds M Q E → ds.length = 1 := by
  rintro _ _ _ _ ⟨_, _, rfl, _⟩; rfl
end DL
namespace DL
open PySem PySem.Spec PyProof.Rows L2
mutual
def relC (K : PySem.W.Frag) : D → Value → Bool
  | .non, .none => true
  | .bl b, .bool c => b == c
  | .int i, .int j _ => decide (i = j)
  | .str s, .str t _ => decide (s = t)
  | .tup ds, .ref p => match K.lookup p with
    | some ⟨.type c, _, .seq its _, _⟩ => decide (c = "tuple") && (decide (its.size ≤ sizeLine) && relCs K ds its.toList)
    | _ => false
  | _, _ => false
def relCs (K : PySem.W.Frag) : List D → List Value → Bool
  | [], [] => true
  | d :: ds, u :: us => relC K d u && relCs K ds us
  | _, _ => false
end
mutual
theorem relC_ok {P : Pm} : ∀ {d : D} {u : Value}, relC P.K d u = true → ∃ v, RelV v u ∧ ∀ w, RelD P w d v
  | .non, u, h => by
    cases u <;> first | (cases h; done) | exact ⟨.non, rfl, fun _ => rfl⟩
  | .bl b, u, h => by
    cases u <;> first | (cases h; done) | exact ⟨.bl b, by rw [eq_of_beq (show (b == _) = true from h)]; rfl, fun _ => rfl⟩
  | .int i, u, h => by
    cases u with
    | int j t => exact ⟨.int i, ⟨t, by rw [of_decide_eq_true (show decide (i = j) = true from h)]⟩, fun _ => rfl⟩
    | _ => cases h
  | .str i, u, h => by
    cases u with
    | str j t => exact ⟨.str i, ⟨t, by rw [of_decide_eq_true (show decide (i = j) = true from h)]⟩, fun _ => rfl⟩
    | _ => cases h
  | .tup ds, u, h => by
    cases u with
    | ref p =>
      unfold relC at h
      cases q : P.K.lookup p with
      | none => rw [q] at h; cases h
      | some o =>
        obtain ⟨oc, od, dt, osl⟩ := o
        rw [q] at h
        cases oc with
        | type c =>
          cases dt with
          | seq its n =>
            have h : (decide (c = "tuple") && (decide (its.size ≤ sizeLine) && relCs P.K ds its.toList)) = true := h
            simp only [Bool.and_eq_true, decide_eq_true_eq] at h
            obtain ⟨h1, h2, h3⟩ := h
            obtain ⟨vs, r, hr⟩ := relCs_ok h3
            exact ⟨.ref p, rfl, fun w => ⟨p, vs, rfl, .inr ⟨_, its, n, q, congrArg Value.type h1, rfl, h2, r⟩, hr w⟩⟩
          | _ => cases h
        | _ => cases dt <;> cases h
    | _ => cases h
  | .lst _, u, h => by cases u <;> cases h
  | .scr _, u, h => by cases u <;> cases h
  | .ref _, u, h => by cases u <;> cases h
  | .obj _ _ _, u, h => by cases u <;> cases h
  | .exc _ _ _ _ _, u, h => by cases u <;> cases h
theorem relCs_ok {P : Pm} : ∀ {ds : List D} {us : List Value}, relCs P.K ds us = true → ∃ vs, Vals vs us ∧ ∀ w, RelDs P w ds vs
  | [], us, h => by
    cases us with
    | nil => exact ⟨[], .nil, fun _ => rfl⟩
    | cons _ _ => cases h
  | d :: ds, us, h => by
    cases us with
    | nil => cases h
    | cons u us =>
      have h : (relC P.K d u && relCs P.K ds us) = true := h
      rw [Bool.and_eq_true] at h
      obtain ⟨v, r1, r2⟩ := relC_ok h.1
      obtain ⟨vs, r3, r4⟩ := relCs_ok h.2
      exact ⟨v :: vs, .cons r1 r3, fun w => ⟨v, vs, rfl, r2 w, r4 w⟩⟩
end
/-- the module's name is this constant -/
def cstB0 (K : PySem.W.Frag) (c : Str × D) : Bool := match PySem.W.nsIn K mainGlobals c.1 with
  | some (some u) => relC K c.2 u
  | _ => false
/-- own exception classes: what isinstance and except ask of them -/
def xnB (K : PySem.W.Frag) (C : Addr) : Bool := (PySem.W.clsIn K C).isSome && (He.eqO (PySem.W.findIn K (.ref C) "__getattribute__") (some (some (.builtin "BaseException.__getattribute__"))) && (He.eqO (PySem.W.findIn K (.ref C) "__getattr__") (some none) &&
  (decide (PySem.W.subIn K (.ref C) (.type "BaseException") = some true) && (He.eqO (PySem.W.findIn K (.ref C) "__class__") (some (some (.builtin "object.__class__"))) && (He.eqO (PySem.W.specialIn K (.builtin "object.__class__") "__get__") (some (some (.builtin "getset_descriptor.__get__"))) &&
  (decide (PySem.W.takesIn K (.builtin "object.__class__") = some true) && (decide (PySem.W.mroIn K C (.type "object") = some true) && PySem.W.hasDictIn K C)))))))
def xpB (K : PySem.W.Frag) (x T : Str) : Bool := decide (PySem.W.kitOne K (.ref (He.ga K x)) (.ref (He.ga K T)) = some (xsub x T)) && decide (PySem.W.exmOne K (.ref (He.ga K x)) (.ref (He.ga K T)) = some (xsub x T))
def oexB (K : PySem.W.Frag) (C : Addr) : Bool := match K.lookup C with
  | some ⟨.type tn, _, .cls cd, sl⟩ => (match cd.mro, sl.toList with
    | .ref C' :: bm, [_, _, _, _, some (.builtin n), _] => decide (tn = "type") && (C' == C && (n == "ValueError.__new__" && (!cd.hasDel && (cd.hasDict && PySem.HandSPX.refsVE bm))))
    | _, _ => false)
  | _ => false
def xcB (K : PySem.W.Frag) (x k : Str) (ns : List Str) : Bool :=
  if k = ("s" : Str) then xnB K (He.ga K x) && (decide (PySem.W.kitOne K (.ref (He.ga K x)) (.type "ValueError") = some true) && ns.all (xpB K x))
  else if k = ("r" : Str) then PySem.W.excIn K (He.ga K x) He.veBase "ValueError.__new__" && (PySem.W.keepIn K (.ref (He.ga K x)) && (decide (PySem.W.subIn K (.ref (He.ga K x)) (.type "BaseException") = some true) && decide (PySem.W.typeIn K (.ref (He.ga K x)) = some (.type "type"))))
  else if k = ("f" : Str) then ns.all fun f => He.eqO (PySem.W.findIn K (.ref (He.ga K x)) f) (some none)
  else if k = ("i" : Str) then oexB K (He.ga K x) && (He.eqO (PySem.W.findIn K (.ref (He.ga K x)) "__setattr__") (some (some (.builtin "object.__setattr__"))) && (decide (PySem.W.subIn K (.ref (He.ga K x)) (.type "BaseException") = some true) && (decide (PySem.W.typeIn K (.ref (He.ga K x)) = some (.type "type")) && (PySem.W.keepIn K (.ref (He.ga K x)) &&
    (He.eqO (PySem.W.findIn K (.ref (He.ga K x)) "__init__") (some (some (.ref (He.ma K (He.ga K x) "__init__")))) && decide (PySem.W.typeIn K (.ref (He.ma K (He.ga K x) "__init__")) = some (.type "function")))))))
  else false
def cstB (K : PySem.W.Frag) (c : Str × D) : Bool := match c.2 with
  | .exc _ _ k ns _ => xcB K c.1 k ns
  | _ => cstB0 K c
theorem cstB_0 {K : PySem.W.Frag} {x : Str} {d : D} (c : cstB K (x, d) = true) (h : ∀ a od k ns ds, d ≠ .exc a od k ns ds) : cstB0 K (x, d) = true := by
  unfold cstB at c
  cases d with
  | exc a od k ns ds => exact absurd rfl (h a od k ns ds)
  | _ => exact c
section
variable {K : PySem.W.Frag} {x : Str} {ns : List Str}
theorem xs_ok (c : cstB K (x, .exc 0 none "s" ns []) = true) : ExcN K (He.ga K x) ∧ PySem.W.kitOne K (.ref (He.ga K x)) (.type "ValueError") = some true ∧ ∀ T ∈ ns, PySem.W.kitOne K (.ref (He.ga K x)) (.ref (He.ga K T)) = some (xsub x T) ∧ PySem.W.exmOne K (.ref (He.ga K x)) (.ref (He.ga K T)) = some (xsub x T) := by
  have c : xcB K x "s" ns = true := c
  unfold xcB at c
  rw [if_pos rfl] at c
  unfold xnB at c
  simp only [Bool.and_eq_true, decide_eq_true_eq] at c
  obtain ⟨⟨c1, c2, c3, c4, c5, c6, c7, c8, c9⟩, c10, c11⟩ := c
  refine ⟨⟨c1, He.eqO_ok c2, He.eqO_ok c3, c4, He.eqO_ok c5, He.eqO_ok c6, c7, c8, c9⟩, c10, fun T hT => ?_⟩
  have := List.all_eq_true.mp c11 T hT
  unfold xpB at this
  simp only [Bool.and_eq_true, decide_eq_true_eq] at this
  exact this
theorem xr_ok (c : cstB K (x, .exc 0 none "r" ns []) = true) : RaisN K (He.ga K x) := by
  have c : xcB K x "r" ns = true := c
  unfold xcB at c
  rw [if_neg (by decide), if_pos rfl] at c
  simp only [Bool.and_eq_true, decide_eq_true_eq] at c
  exact ⟨c.1, c.2.1, c.2.2.1, c.2.2.2⟩
theorem xf_ok (c : cstB K (x, .exc 0 none "f" ns []) = true) : ∀ f ∈ ns, PySem.W.findIn K (.ref (He.ga K x)) f = some none := fun f hf => by
  have c : xcB K x "f" ns = true := c
  unfold xcB at c
  rw [if_neg (by decide), if_neg (by decide), if_pos rfl] at c
  exact He.eqO_ok (List.all_eq_true.mp c f hf)
theorem xi_ok (c : cstB K (x, .exc 0 none "i" ns []) = true) : OexC K (He.ga K x) ∧ PySem.W.findIn K (.ref (He.ga K x)) "__init__" = some (some (.ref (He.fAd K (x, some "__init__")))) ∧ PySem.W.typeIn K (.ref (He.fAd K (x, some "__init__"))) = some (.type "function") := by
  have c : xcB K x "i" ns = true := c
  unfold xcB at c
  rw [if_neg (by decide), if_neg (by decide), if_neg (by decide), if_pos rfl] at c
  simp only [Bool.and_eq_true, decide_eq_true_eq] at c
  obtain ⟨c1, c2, c3, c4, c5, c6, c7⟩ := c
  refine ⟨⟨?_, He.eqO_ok c2, c3, c4, c5⟩, He.eqO_ok c6, c7⟩
  unfold oexB at c1
  split at c1
  · rename_i tn dd cd sl ho
    split at c1
    · rename_i C' bm k0 k1 k2 k3 n k5 hm hs
      simp only [Bool.and_eq_true, decide_eq_true_eq, beq_iff_eq, Bool.not_eq_true'] at c1
      obtain ⟨e1, e2, e3, e4, e5, e6⟩ := c1
      obtain ⟨nm, bs, mro, n1, qn, hd, sn, sub, ab, col, del⟩ := cd
      dsimp only at hm e4 e5
      subst hm e4 e5 e1 e2 e3
      have hsl : sl = #[k0, k1, k2, k3, some (.builtin "ValueError.__new__"), k5] := by
        obtain ⟨l⟩ := sl
        simp only at hs
        rw [hs]
      subst hsl
      exact ⟨nm, qn, n1, bs, bm, sn, sub, ab, col, dd, k0, k1, k2, k3, k5, ho, e6⟩
    · cases c1
  · cases c1
end
theorem hcC {P : Pm} {h : Heap} {mg : Str → Option Value} {x : Str} {d : D} (X : P.K.In h) (G : h.Ns mainGlobals mg) (c : cstB0 P.K (x, d) = true) : ∃ u v, mg x = some u ∧ RelV v u ∧ ∀ w, RelD P w d v := by
  unfold cstB0 at c
  cases q : PySem.W.nsIn P.K mainGlobals x with
  | none => simp only [q] at c; cases c
  | some o =>
    cases o with
    | none => simp only [q] at c; cases c
    | some u =>
      simp only [q] at c
      obtain ⟨v, r1, r2⟩ := relC_ok c
      exact ⟨u, v, PySem.W.mg_of X G q, r1, r2⟩
end DL
namespace DL
open PySem L2
def truB : D → Option Bool
  | .non => some false
  | .bl b => some b
  | .int i => some (i != 0)
  | .tup ds => some (!ds.isEmpty)
  | .lst ds => some (!ds.isEmpty)
  | _ => none
def cmpB (c : Cp) (x y : D) : Option Bool := match c, x, y with
  | .lt, .int i, .int j => some (decide (i < j))
  | .le, .int i, .int j => some (decide (i ≤ j))
  | .gt, .int i, .int j => some (decide (j < i))
  | .ge, .int i, .int j => some (decide (j ≤ i))
  | .eq, x, y => eqS x y
  | .ne, x, y => (eqS x y).map (!·)
  | .isN, x, .non => some (isNon x)
  | .notN, x, .non => some (!isNon x)
  | _, _, _ => none
def binB (o : Op) (x y : D) : Option D := match o, x, y with
  | .add, .int i, .int j => some (.int (i + j))
  | .sub, .int i, .int j => some (.int (i - j))
  | _, _, _ => none
def negB : D → Option D
  | .int i => some (.int (-i))
  | _ => none
def ev (σ : Std) : CE → Option D
  | .var i => (σ[i]?).bind id
  | .int i => some (.int i)
  | .str i => some (.str i)
  | .bl i => some (.bl i)
  | .non => some .non
  | .neg a => (ev σ a).bind negB
  | .not a => ((ev σ a).bind truB).map fun k => .bl (!k)
  | .and a b => (ev σ a).bind fun x => (truB x).bind fun k => if k then ev σ b else some x
  | .or a b => (ev σ a).bind fun x => (truB x).bind fun k => if k then some x else ev σ b
  | .cmp c a b => (ev σ a).bind fun x => (ev σ b).bind fun y => (cmpB c x y).map .bl
  | .bin o a b => (ev σ a).bind fun x => (ev σ b).bind fun y => binB o x y
  | _ => none
end DL
namespace DL
open PySem L2
/-- a text of codes -/
abbrev tx (l : List Nat) : Str := SX.S l
theorem tx_len {l : List Nat} : (tx l).length = l.length := SX.S_len l
theorem joinL_ones (cs : List Nat) : TL.joinL [] (cs.map fun c => [c]) = cs := by
  induction cs with
  | nil => rfl
  | cons c cs ih =>
    cases cs with
    | nil => rfl
    | cons d cs =>
      show [c] ++ ([] ++ TL.joinL [] ((d :: cs).map fun c => [c])) = _
      rw [ih]; rfl
theorem strsOf_map {α : Type} {f : α → Str} {xs : List α} : strsOf (xs.map fun x => D.str (f x)) = some (xs.map f) := by
  induction xs with
  | nil => rfl
  | cons x xs ih => simp only [List.map_cons, strsOf, ih, Option.map_some]
theorem join_ones {cs : List Nat} {M : Md} {Q : QE} (h : cs.length ≤ 16777216) (q : Q (.str (tx cs)) M) : mtD .join (.str "") [.lst (cs.map fun c => D.str (tx [c]))] M Q := by
  rw [mt_joinl strsOf_map]
  refine ⟨?_, ?_⟩
  · have e : ((cs.map fun c => tx [c]).map (·.length)).sum = cs.length := by
      rw [List.map_map]
      clear h q
      induction cs with
      | nil => rfl
      | cons c cs ih =>
        rw [List.map_cons, List.sum_cons, ih, List.length_cons]
        show 1 + cs.length = _
        omega
    rw [e]
    show cs.length + _ * 0 ≤ _
    omega
  · have e : Txt.join "" (cs.map fun c => tx [c]) = tx cs := by
      have := SX.join_S [] (cs.map fun c => [c])
      rw [List.map_map, joinL_ones] at this
      exact this
    rw [e]
    exact q
theorem ix_s {s : Str} {i : Int} {c : Nat} {M : Md} {Q : QE} (h : s.length ≤ sizeLine) (hc : atI s.cps.toList i = some c) (q : Q (.str ⟨#[c]⟩) M) : ixD (.str s) (.int i) M Q := by
  show s.length ≤ sizeLine ∧ _
  refine ⟨h, ?_⟩
  rw [hc]
  exact q
theorem joinL_flat (ls : List (List Nat)) : TL.joinL [] ls = ls.flatten := by
  induction ls with
  | nil => rfl
  | cons c cs ih =>
    cases cs with
    | nil => show c = [c].flatten; simp
    | cons d cs =>
      show c ++ ([] ++ TL.joinL [] (d :: cs)) = _
      rw [ih]; rfl
/-- ''.join(..) -/
theorem join_tx {ls : List (List Nat)} {M : Md} {Q : QE} (h : (ls.map List.length).sum ≤ 16777216) (q : Q (.str (tx ls.flatten)) M) : mtD .join (.str "") [.lst (ls.map fun c => D.str (tx c))] M Q := by
  rw [mt_joinl strsOf_map]
  refine ⟨?_, ?_⟩
  · have e : (ls.map fun c => tx c).map (·.length) = ls.map List.length := by
      rw [List.map_map]
      apply List.map_congr_left
      intro c _
      exact tx_len
    rw [e]
    show _ + _ * 0 ≤ _
    omega
  · have e : Txt.join "" (ls.map fun c => tx c) = tx ls.flatten := by
      have := SX.join_S [] ls
      rw [joinL_flat] at this
      exact this
    rw [e]
    exact q
theorem eq_self {d : D} {M : Md} {y : PyData} {QB : Bool → Prop} (hs : eqS d d = none) (hp : pyD (rsD d M) = some y) (sh : SeqAt.shaped y = true) (q : QB true) : cpD .eq d d M QB := by
  show eqQ d d M QB
  unfold eqQ
  rw [hs, hp]
  refine ⟨sh, sh, ?_⟩
  rw [PySem.SeqAt.eqv_refl _ (SeqAt.canLay_of_shaped sh)]
  exact q
end DL
namespace DL
open PySem L2
section
variable {Φ : Nat → SpD} {κ : Nat → D} {E : EX} {EE : EXS} {K : EndsD} {σ : Std} {M : Md} {Q : QE}
theorem nxt_of {c : CSs} (h : rSs Φ κ c EE K σ M) : nxt Φ κ c EE K σ M := h
theorem rS_ifsN {c a b} : rS Φ κ (.ifs c a b) EE K σ M = rT Φ κ c (fun x => EE x σ) σ M fun k M1 => if k = true then nxt Φ κ a EE K σ M1 else nxt Φ κ b EE K σ M1 := rfl
theorem rS_forsN {t it body} : rS Φ κ (.fors t it body) EE K σ M = rdi Φ κ it (fun x => EE x σ) σ M fun ds lk M1 => loopD lk ds (asgT t) (nxt Φ κ body EE) K ds σ M1 := rfl
theorem rS_enumsN {t e body} : rS Φ κ (.enums t e body) EE K σ M = rE Φ κ e (fun x => EE x σ) σ M fun d M1 => enumQ d M1 fun ds lk M2 => loopD lk ds (asgT t) (nxt Φ κ body EE) K ds σ M2 := rfl
theorem rS_whilN {c body} : rS Φ κ (.whil c body) EE K σ M = ∃ n, whilD (fun σ M Q => rT Φ κ c (fun x => EE x σ) σ M Q) (nxt Φ κ body EE) K n σ M := rfl
theorem iteI {c : Prop} [Decidable c] {A B : Prop} (h1 : c → A) (h2 : ¬ c → B) : if c then A else B := by
  split
  · next h => exact h1 h
  · next h => exact h2 h
end
section
variable {M : Md} {Q : QE} {QB : Bool → Prop} {k : Nat} {ds : List D}
theorem seqR_some {o : Option MO} {ds : List D} (e : seqR o = some ds) : o = some (.lst ds) := by
  unfold seqR at e
  split at e
  · cases e; rfl
  · cases e
theorem extOf_R {k : Nat} {M : Md} : extOf (.ref k) M = seqR M[k]? := lstOf_R
theorem extOf_tup {ds : List D} {M : Md} : extOf (.tup ds) M = some ds := rfl
theorem extOf_lst {ds : List D} {M : Md} : extOf (.lst ds) M = some ds := rfl
theorem ext_RR {d : D} : mtD .extend (.ref k) [d] M Q = seqQ (seqR M[k]?) fun ds => seqQ (extOf d M) fun es => ds.length + es.length ≤ sizeLine ∧ Q .non (M.set k (.lst (ds ++ es))) := by
  cases e : seqR M[k]? with
  | none =>
    unfold seqR at e
    simp only [mtD, mutOf]
    cases h : M[k]? with
    | none => simp only [seqQ]
    | some m =>
      cases m with
      | lst ds => rw [h] at e; cases e
      | _ => simp only [seqQ]
  | some ds => exact ext_R (seqR_some e)
theorem pop_RR : mtD .pop (.ref k) [] M Q = seqQ (seqR M[k]?) fun ds => optQ ds.getLast? fun d => Q d (M.set k (.lst ds.dropLast)) := by
  cases e : seqR M[k]? with
  | none =>
    unfold seqR at e
    simp only [mtD, mutOf]
    cases h : M[k]? with
    | none => simp only [seqQ]
    | some m =>
      cases m with
      | lst ds => rw [h] at e; cases e
      | _ => simp only [seqQ]
  | some ds => exact pop_R (seqR_some e)
theorem lstOf_lst : lstOf (.lst ds) M = some ds := rfl
theorem seqOf_lst : seqOf (.lst ds) M = some ds := rfl
theorem seqOf_tup : seqOf (.tup ds) M = some ds := rfl
/-- x in a list of flat things -/
theorem in_flat {x y : D} (h1 : seqOf y M = some ds) (hy : ∀ t, y ≠ .str t) (h2 : dGet y x M = none) (hx : flatD x = true) (hf : ds.all flatD = true) : inD x y M QB = QB (ds.any fun d => eqF d x) := by
  unfold inD
  split
  · exact absurd rfl (hy _)
  · rw [h2]
    simp only [h1, hx, hf, Bool.and_self, if_true]
theorem inR_flat {x : D} (h : M[k]? = some (.lst ds)) (hx : flatD x = true) (hf : ds.all flatD = true) : inR (some (.lst ds)) k x M QB = QB (ds.any fun d => eqF d x) :=
  in_flat (by rw [seqOf_R, h]; rfl) (by intro _ z; cases z) (by simp only [dGet, h]) hx hf
end
/-- a text in a tuple of two -/
theorem cp_inn2 {s a b : Str} {M : Md} {QB : Bool → Prop} : cpD .inn (.str s) (.tup [.str a, .str b]) M QB = QB (decide (a = s) || decide (b = s)) := by
  rw [cp_inn_tup rfl rfl]
  simp only [List.any_cons, List.any_nil, Bool.or_false]
  apply congrArg
  show (a == s || b == s) = _
  rw [Bool.eq_iff_iff]
  simp
/-- slots set anew -/
def setM (σ : Std) (J : List Nat) (vs : List (Option D)) : Std := (J.zip vs).foldl (fun σ p => σ.set p.1 p.2) σ
theorem setM_cons {σ i is v vs} : setM σ (i :: is) (v :: vs) = setM (σ.set i v) is vs := rfl
theorem setM_nil {σ vs} : setM σ [] vs = σ := rfl
section
variable {lk : Option Nat} {all : List D} {asg : D → Std → Md → (Std → Md → Prop) → Prop} {body : EndsD → Std → Md → Prop} {K : EndsD} {σ0 : Std} {M : Md}
/-- for x in xs, a settled list; J the slots that are set in the loop -/
theorem for_list {X : Type} {enc : X → D} {xs : List X} (J : List Nat) (Inv : List X → List (Option D) → Md → Prop)
    (h0 : ∃ js, setM σ0 J js = σ0 ∧ Inv xs js M)
    (step : ∀ x r js M' (nx : Std → Md → Prop), Inv (x :: r) js M' → (∀ js' M'', Inv r js' M'' → nx (setM σ0 J js') M'') → asg (enc x) (setM σ0 J js) M' fun σ1 M1 => body ⟨nx, K.rt, K.nx, nx⟩ σ1 M1)
    (fin : ∀ js M', Inv [] js M' → K.nx (setM σ0 J js) M') : loopD none all asg body K (xs.map enc) σ0 M := by
  obtain ⟨js, h1, h2⟩ := h0
  have key : ∀ ys js M, Inv ys js M → loopD none all asg body K (ys.map enc) (setM σ0 J js) M := by
    intro ys
    induction ys with
    | nil => intro js M h; exact ⟨trivial, fin _ _ h⟩
    | cons y ys ih => intro js M h; exact ⟨trivial, step y ys js M _ h fun js' M'' h' => ih js' M'' h'⟩
  have := key xs js M h2
  rwa [h1] at this
/-- while: Inv m holds where m turns at most are left -/
theorem while_at {tst : Std → Md → (Bool → Md → Prop) → Prop} (J : List Nat) (Inv : Nat → List (Option D) → Md → Prop)
    (h0 : ∃ m js, setM σ0 J js = σ0 ∧ Inv m js M)
    (step : ∀ m js M' (nx : Std → Md → Prop), Inv m js M' → (∀ m' js' M'', m = m' + 1 → Inv m' js' M'' → nx (setM σ0 J js') M'') → tst (setM σ0 J js) M' fun k M1 => if k = true then body ⟨nx, K.rt, K.nx, nx⟩ (setM σ0 J js) M1 else K.nx (setM σ0 J js) M1) : ∃ n, whilD tst body K n σ0 M := by
  obtain ⟨m, js, h1, h2⟩ := h0
  have key : ∀ m js M, Inv m js M → whilD tst body K (m + 1) (setM σ0 J js) M := by
    intro m
    induction m with
    | zero =>
      intro js M h
      exact step 0 js M (whilD tst body K 0) h fun m' js' M'' hlt h' => by omega
    | succ m ih =>
      intro js M h
      exact step (m + 1) js M (whilD tst body K (m + 1)) h fun m' js' M'' hlt h' => by
        have e : m' = m := by omega
        subst e
        exact ih js' M'' h'
  have := key m js M h2
  rw [h1] at this
  exact ⟨_, this⟩
end
/-- a list of its own is handed back -/
theorem Fin.lst {n0 : Nat} {Q : QE} {M L : Md} {k : Nat} {ds : List D} (hn : M.length = n0) (hM : MOk M) (hk : (M ++ L)[k]? = some (.lst ds)) (h : M.length ≤ k) (hd : noRefs ds = true) (q : Q (.lst ds) M) : Fin n0 Q (.ref k) (M ++ L) := by
  refine .settle hk ?_
  rw [List.set_append_right _ _ h]
  exact Fin.tail hn (noRefs_lt hd) hM q
/-- a value is handed back -/
theorem Fin.val {n0 : Nat} {Q : QE} {M L : Md} {d : D} (hn : M.length = n0) (hM : MOk M) (hd : noRef d = true) (q : Q d M) : Fin n0 Q d (M ++ L) := Fin.tail hn (noRef_lt hd) hM q
section
variable {M : Md} {Q : QE} {QM : Md → Prop} {k : Nat} {c c' f g : Str} {d x : D} {r fs : List (Str × D)}
def lookQ (fs : List (Str × D)) (f : Str) (M : Md) (Q : QE) : Prop := match fs.lookup f with
  | some x => Q x M
  | none => False
theorem lookQ_hd : lookQ ((f, d) :: r) f M Q = Q d M := by
  unfold lookQ
  rw [List.lookup_cons, beq_self_eq_true]
theorem lookQ_tl (h : (f == g) = false) : lookQ ((g, d) :: r) f M Q = lookQ r f M Q := by
  unfold lookQ
  rw [List.lookup_cons, h]
def fldR (o : Option MO) (c f : Str) (M : Md) (Q : QE) : Prop := match o with
  | some (.ins c' fs) => c' = c ∧ lookQ fs f M Q
  | _ => False
theorem fldD_R : fldD c f (.ref k) M Q = fldR M[k]? c f M Q := rfl
theorem fldR_ins : fldR (some (.ins c' fs)) c f M Q = (c' = c ∧ lookQ fs f M Q) := rfl
def setFR (o : Option MO) (c f : Str) (k : Nat) (d : D) (M : Md) (Q : Md → Prop) : Prop := match o with
  | some (.ins c' fs) => c' = c ∧ fs.length < 1000 ∧ Q (M.set k (.ins c (putFD f d fs)))
  | _ => False
theorem setFD_R : setFD c f (.ref k) d M QM = setFR M[k]? c f k d M QM := rfl
theorem setFR_ins : setFR (some (.ins c' fs)) c f k d M QM = (c' = c ∧ fs.length < 1000 ∧ QM (M.set k (.ins c (putFD f d fs)))) := rfl
theorem putFD_nil : putFD f d [] = [(f, d)] := rfl
theorem putFD_hd : putFD f d ((f, x) :: r) = (f, d) :: r := by unfold putFD; rw [if_pos rfl]
theorem putFD_tl (h : ¬ g = f) : putFD f d ((g, x) :: r) = (g, x) :: putFD f d r := by rw [putFD, if_neg h]
end
end DL
namespace DL
open PySem PySem.Spec PyProof.Rows L2 NdefX LamX
theorem pssL_cons {X : Cx} {P : Pm} {W : WX} {s : Stmt} {ss : List Stmt} {r r2 : RS} (h : PS X s (liS P W r)) (h2 : PSs X ss (liS P W r2)) : PSs X (s :: ss) (liS P W fun E K σ M => r E { K with nx := r2 E K } σ M) := by
  refine pssI (pss_cons h h2) fun K σ H q => ?_
  obtain ⟨w, M, sd, Kd, Ed, R, rs, l, lx, q⟩ := q
  exact ⟨w, M, sd, { Kd with nx := r2 Ed Kd }, Ed, R, rs, ⟨fun w1 M1 H1 sd1 σ1 s1 R1 rs1 q => ⟨w1, M1, sd1, Kd, Ed, R1, rs1, l.on s1, lx.on s1, q⟩, l.rt, l.bk, l.ct⟩, lx, q⟩
end DL
namespace DL
open PySem PySem.Spec PyProof.Rows L2
/-- one clause: its class, the slot of its name, its suite -/
abbrev HEnt := Value × Option Nat × (Addr → Value → Option Addr → TS)
def clrK (i : Nat) (K : Ends) : Ends := { nx := fun τ G => K.nx (τ.set i none) G, rt := K.rt, bk := fun τ G => K.bk (τ.set i none) G, ct := fun τ G => K.ct (τ.set i none) G }
def suW (K : Ends) (a : Addr) (e : HEnt) (cls : Value) (od : Option Addr) (τ : L2.St) (G : Hp) : Prop := match e.2.1 with
  | none => e.2.2 a cls od K τ G
  | some i => e.2.2 a cls od (clrK i K) (τ.set i (some (.ref a))) G
/-- what a row of clauses asks of an exception -/
def wMix (F : PySem.W.Frag) (Wo : WX) (K : Ends) : List HEnt → WX
  | [] => Wo
  | e :: es => fun cls od τ G => ∃ k, PySem.W.exmOne F cls e.1 = some k ∧ (k = true → ∀ a, G a = none → suW K a e cls od τ G) ∧ (k = false → wMix F Wo K es cls od τ G)
inductive HdsMx (X : Cx) : List ExceptHandler → List HEnt → Prop
  | nil : HdsMx X [] []
  | bare {y : Str} {v : Value} {f : Addr → Value → Option Addr → TS} {g : Stmt} {gs : List Stmt} {p1 p2 : Pos} {es : List ExceptHandler} {l : List HEnt} : Names X y v →
      (∀ (a : Addr) (o : Obj) (cls : Value) (od : Option Addr) (pn : List (Addr × Obj)), Zc cls od o → (∃ us, o.data = .fields us) → PSs (X.suite a ((a, o) :: pn)) (g :: gs) (f a cls od)) → HdsMx X es l → HdsMx X (.ExceptHandler (some (.Name y p1)) none (g :: gs) p2 :: es) ((v, none, f) :: l)
  | named {y z : Str} {i : Nat} {v : Value} {f : Addr → Value → Option Addr → TS} {g : Stmt} {gs : List Stmt} {p1 p2 : Pos} {es : List ExceptHandler} {l : List HEnt} : X.N[i]? = some z → X.env.kindOf z = some .local → Names X y v →
      (∀ (a : Addr) (o : Obj) (cls : Value) (od : Option Addr) (pn : List (Addr × Obj)), Zc cls od o → (∃ us, o.data = .fields us) → PSs (X.suite a ((a, o) :: pn)) (g :: gs) (f a cls od)) → HdsMx X es l → HdsMx X (.ExceptHandler (some (.Name y p1)) (some z) (g :: gs) p2 :: es) ((v, some i, f) :: l)
theorem names_ev {X : Cx} {y : Str} {v : Value} (hy : Names X y v) {pn : List (Addr × Obj)} {a : Addr} {p1 : Pos} {τ : L2.St} {G : Hp} {s : Shared} (S : Inv (X.suite a pn) [] τ G s) {Q : Value → Shared → Prop} {E : Value → Shared → Prop} (q : Q v s) :
    wpAny (model X.prog X.w) (X.A.mark (some (.ref a))) (eval (.Name y p1) X.env) Q E s := by
  rcases hy with ⟨g1, g2, g3 | ⟨g3, g4, g5⟩⟩
  · exact ld_glob (X := X.suite a pn) S g1 g3 q g2
  · exact ld_blt (X := X.suite a pn) S g1 g3 g4 q g5 g2
variable {X : Cx} {bd : List Stmt} {e0 : ExceptHandler} {es0 : List ExceptHandler} {l0 : List HEnt} {ps : Pos} {tb : WX → TS} {Wo : WX}
/-- THE RULE of a try with several clauses, named or not -/
theorem ps_try_mx (hst : X.stack = X.env :: X.outer) (hfr : X.env.frame = some X.env.locals) (nd : X.N.Nodup) (tk : Takes X Wo)
    (hbd : ∀ (V : WX) (pn : List (Addr × Obj)) (xe : Value → Shared → Prop), Takes (X.tr pn xe) V → PassesOwn (model X.prog X.w) X.A X.env xe → PSs (X.tr pn xe) bd (tb V))
    (hh : HdsMx X (e0 :: es0) l0) : PS X (.Try bd (e0 :: es0) [] [] ps) (fun K τ G => tb (wMix X.K Wo K l0) K τ G) := by
  constructor
  intro pins s τ G K I h
  have ok := I.ok
  have frms : X.A.frames = some (X.env :: X.outer) := ok.frames.trans (congrArg some hst)
  apply wpAny_Try_except
  let xe' : Value → Shared → Prop := fun e t => wpAny (model X.prog X.w) X.A (noteFrame e X.env) (fun _ t2 => wpAny (model X.prog X.w) X.A (setFlight e none) (fun _ t3 => wpAny (model X.prog X.w) X.A (handleBy e X.env (e0 :: es0)) (SP X pins K) X.xe t3) X.xe t2) X.xe t
  have catch_ : Takes (X.tr (X.pn ++ pins) xe') (wMix X.K Wo K l0) := by
    rintro u s' ⟨a, B, sI, pins', τ', G', cls, od, rfl, J', nb, up, sky, na, os, ag, w⟩
    have J := J'.ofTry ok
    rw [show (X.tr (X.pn ++ pins) xe').stack = X.env :: X.outer from hst] at sky
    show wpAny (model X.prog X.w) X.A (noteFrame (.ref a) X.env) _ _ _
    apply Sky.land Zc.steady frms hfr sky
    intro h3 fl3 up3
    have J3 := J.landed (s' := { s' with heap := h3 }) nb fl3.1 (up.trans up3) os ag
    obtain ⟨o3, us3, i3, z3, d3⟩ := fl3.there
    have far : ∀ e ∈ X.env :: X.outer, e.frame ≠ some a := by
      intro e he q
      obtain ⟨_, o', q', hnf⟩ := fl3.2.2.1.mem (List.mem_filterMap.mpr ⟨e, he, q⟩)
      have := i3.symm.trans q'
      cases this
      exact hnf _ d3
    have nL : a ≠ X.env.locals := fun z => far _ List.mem_cons_self (by rw [hfr, z])
    have nF : a ∉ X.fs := fun hm => by
      obtain ⟨e, he, q⟩ := List.mem_filterMap.mp hm
      exact far e (List.mem_cons_of_mem _ he) q
    have S3 := J3.suite i3 d3 na nL nF
    have look : PySem.W.Looks (model X.prog X.w) h3 (typeOf (.ref a)) cls := by
      intro A Q E t k q
      refine wpAny_typeOf_ref (k _ _ i3) ?_
      rw [z3.1]; exact q
    suffices row : ∀ {es : List ExceptHandler} {l : List HEnt}, HdsMx X es l → wMix X.K Wo K l cls od τ' G' → wpAny (model X.prog X.w) X.A (handleBy (.ref a) X.env es) (SP X pins K) X.xe { s' with heap := h3 } from row hh w
    intro es l hm
    induction hm with
    | nil =>
      intro w
      apply wpAny_handleBy_nil
      obtain ⟨_, _, _, o, us, T, _, _, i1, _, d1, t1, _⟩ := id fl3
      unfold PySem.passOn
      apply wpAny_bind
      refine wpAny_field i1 d1 t1 ?_
      rw [if_neg (by simp : ¬ ((Value.ref T == Value.none) = true))]
      have away : wpAny (model X.prog X.w) X.A (setFlight (.ref a) X.env.frame) (fun _ t => wpAny (model X.prog X.w) X.A (throw (.ref a) : Sem Flow) (SP X pins K) X.xe t) X.xe { s' with heap := h3 } := by
        rw [hfr]
        apply HandSPX.setFlight_upZ fl3
        intro h4 hh4 up4
        apply wpAny_throw
        apply tk
        refine ⟨a, B, sI, pins, τ', G', cls, od, rfl, J, nb, (up.trans up3).trans up4, .inr (.inr ?_), na, os, ag, w⟩
        rw [hst]; exact hh4
      first
        | exact wpAny_bind away
        | exact wpAny_bind (wpAny_pure (wpAny_bind away))
    | @bare y v f g gs p1 p2 es l hy hsu _ ih =>
      rintro ⟨k, k1, ky, kn⟩
      refine wpAny_handleBy_cons (codeAny_handlers_test ?_) (fun q => by cases q)
      refine names_ev hy S3 ((PySem.W.exm_one (M := model X.prog X.w) J3.kIn look k1).here ?_)
      cases k with
      | false => exact ih (kn rfl)
      | true =>
        apply codeAny_handlers_suite
        apply HandSPX.lands_againZ fl3
        intro h4 fl4 up4
        obtain ⟨o4, us4, i4, z4, d4⟩ := fl4.there
        have S4 := (J.landed (s' := { s' with heap := h4 }) nb fl4.1 ((up.trans up3).trans up4) os ag).suite i4 d4 na nL nF
        refine wpAny_mono ((hsu a o4 cls od (X.pn ++ pins) z4 ⟨_, d4⟩).run [] _ _ G' _ S4 (ky rfl a na)) (fun fl t ht => ?_) (fun _ _ z => z.elim)
        cases fl with
        | ret u => obtain ⟨u', t', G2, I2, r2, q2⟩ := ht; exact ⟨_, _, _, I2.unsuite ok, r2, q2⟩
        | next => obtain ⟨t', G2, I2, q2⟩ := ht; exact ⟨_, _, I2.unsuite ok, q2⟩
        | brk => obtain ⟨t', G2, I2, q2⟩ := ht; exact ⟨_, _, I2.unsuite ok, q2⟩
        | cont => obtain ⟨t', G2, I2, q2⟩ := ht; exact ⟨_, _, I2.unsuite ok, q2⟩
    | @named y z i v f g gs p1 p2 es l hi hz hy hsu _ ih =>
      rintro ⟨k, k1, ky, kn⟩
      refine wpAny_handleBy_cons (codeAny_handlers_test ?_) (fun q => by cases q)
      refine names_ev hy S3 ((PySem.W.exm_one (M := model X.prog X.w) J3.kIn look k1).here ?_)
      cases k with
      | false => exact ih (kn rfl)
      | true =>
        apply codeAny_handlers_suite_as
        apply HandSPX.lands_againZ fl3
        intro h4 fl4 up4
        obtain ⟨o4, us4, i4, z4, d4⟩ := fl4.there
        have S4 := (J.landed (s' := { s' with heap := h4 }) nb fl4.1 ((up.trans up3).trans up4) os ag).suite i4 d4 na nL nF
        have hl : Loc X.env.scope z := .inl hz
        refine store_ok (X := X.suite a ((a, o4) :: (X.pn ++ pins))) (v := .ref a) S4 nd hi hl rfl (fun t5 S5 => ?_) (.inr hz)
        refine wpAny_mono ((hsu a o4 cls od (X.pn ++ pins) z4 ⟨_, d4⟩).run [] t5 _ G' _ S5 (ky rfl a na)) (fun fl t ht => ?_) (fun _ _ z => z.elim)
        have gone : ∀ {τ6 : L2.St} {G6 : Hp} {Q : Shared → Prop}, Inv (X.suite a ((a, o4) :: (X.pn ++ pins))) [] τ6 G6 t → (∀ t7, Inv X pins (τ6.set i none) G6 t7 → Q t7) →
            wpAny (model X.prog X.w) X.A (do bindName X.env z .none; unbindBehindTheSuite X.env z p2) (fun _ t7 => Q t7) X.xe t := fun S6 hq => gone_ok (S6.unsuite ok) nd hi hz hq
        cases fl with
        | ret u => obtain ⟨u', t', G2, I2, r2, q2⟩ := ht; exact gone I2 fun t7 I7 => ⟨_, _, _, I7, r2, q2⟩
        | next => obtain ⟨t', G2, I2, q2⟩ := ht; exact gone I2 fun t7 I7 => ⟨_, _, I7, q2⟩
        | brk => obtain ⟨t', G2, I2, q2⟩ := ht; exact gone I2 fun t7 I7 => ⟨_, _, I7, q2⟩
        | cont => obtain ⟨t', G2, I2, q2⟩ := ht; exact gone I2 fun t7 I7 => ⟨_, _, I7, q2⟩
  refine wpAny_mono ((hbd (wMix X.K Wo K l0) (X.pn ++ pins) xe' catch_ PassesOwn.looking).run [] s τ G K (I.toTry _) h) (fun fl t ht => ?_) (fun _ _ z => z)
  cases fl with
  | ret u => obtain ⟨u', t', G2, I2, r2, q2⟩ := ht; exact ⟨_, _, _, I2.ofTry ok, r2, q2⟩
  | next => obtain ⟨t', G2, I2, q2⟩ := ht; exact wpAny_execs_nil ⟨_, _, I2.ofTry ok, q2⟩
  | brk => obtain ⟨t', G2, I2, q2⟩ := ht; exact ⟨_, _, I2.ofTry ok, q2⟩
  | cont => obtain ⟨t', G2, I2, q2⟩ := ht; exact ⟨_, _, I2.ofTry ok, q2⟩
end DL
namespace DL
open PySem PySem.Spec PyProof.Rows L2
/-- an exception, held at a; its dict at od -/
def XD.held (x : XD) (a : Addr) (od : Option Addr) : D := match x.fs with
  | none => .exc a none x.cls [] []
  | some fs => .exc a od x.cls (fs.map (·.1)) (fs.map (·.2))
/-- one clause: its class, the name's slot, its suite -/
structure Hd where
  T : Str
  i : Option Nat
  su : CSs
inductive TBk where
  | one (s : CS)
  | tr (body : CSs) (hs : List Hd)
def clrE (i : Nat) (K : EndsD) : EndsD := ⟨fun σ M => K.nx (σ.set i none) M, K.rt, fun σ M => K.bk (σ.set i none) M, fun σ M => K.ct (σ.set i none) M⟩
section
variable (Φ : Nat → SpD) (κ : Nat → D) (xs : List Str)
/-- a clause's suite, the exception d in hand -/
def suR (h : Hd) (d : D) (K : EndsD) (σ : Std) (M : Md) : Prop := match h.i with
  | some i => rSs Φ (fun _ => d) h.su (fun _ _ _ => False) (clrE i K) (σ.set i (some d)) M
  | none => rSs Φ (fun _ => d) h.su (fun _ _ _ => False) K σ M
def hdsR (E : EXS) (K : EndsD) : List Hd → EXS
  | [] => E
  | h :: r => fun x σ M => x.cls ∈ xs ∧ if xsub x.cls h.T = true then (∀ a o, suR Φ h (x.held a (some o)) K σ M) else hdsR E K r x σ M
def rB : TBk → RS
  | .one s => rSs Φ κ (.cons s .nil)
  | .tr body hs => fun E K σ M => rSs Φ κ body (hdsR Φ xs E K hs) K σ M
def rBs : List TBk → RS
  | [] => fun _ K σ M => K.nx σ M
  | b :: r => fun E K σ M => rB Φ κ xs b E { K with nx := rBs r E K } σ M
end
def hotC (C : Ctx) : Ctx := { N := C.N, sc := C.sc, fn := C.fn, G := [], B := C.B, X := { hot := true, xs := C.X.xs, xf := C.X.xf } }
def chkH (C : Ctx) (h : Hd) : ExceptHandler → Bool
  | .ExceptHandler (some (.Name x _)) n (b :: su) _ => (x == h.T) && okGlob C x && C.X.xs.contains h.T && chkSs (hotC C) h.su (b :: su) && (match h.i, n with
    | none, none => true
    | some i, some y => (C.N[i]? == some y) && (C.sc.names.lookup y == some .local)
    | _, _ => false)
  | _ => false
def chkHs (C : Ctx) : List Hd → List ExceptHandler → Bool
  | [], [] => true
  | h :: hs, e :: es => chkH C h e && chkHs C hs es
  | _, _ => false
def oneNm : List Hd → Bool
  | [] => false
  | _ :: _ => true
def chkTr (C : Ctx) (xs : List Str) (body : CSs) (hs : List Hd) : Stmt → Bool
  | .Try b es [] [] _ => (!C.X.hot && C.NS.isEmpty && decide (xs = C.X.xs)) && chkSs C body b && chkHs C hs es && oneNm hs
  | _ => false
def chkB (C : Ctx) (xs : List Str) : TBk → Stmt → Bool
  | .one s, st => chkSs C (.cons s .nil) [st]
  | .tr body hs, st => chkTr C xs body hs st
def chkBs (C : Ctx) (xs : List Str) : List TBk → List Stmt → Bool
  | [], [] => true
  | b :: bs, s :: ss => chkB C xs b s && chkBs C xs bs ss
  | _, _ => false
section
variable {P : Pm} {Φ : Nat → SpD} {κ : Nat → D} {C : Ctx} {X : Cx} {W : WX}
theorem EnvOk.tr (O : EnvOk X P C Φ κ) (hot : C.X.hot = false) (hn : C.NS = []) (pn : List (Addr × Obj)) (xe : Value → Shared → Prop) : EnvOk (X.tr pn xe) P C Φ κ :=
  ⟨O.K, O.pg, O.wl, O.calm, O.N, O.nd, O.sc, O.fn, O.hu, O.fun_, O.cst, O.blt, O.fl, O.mkr, O.mt, O.kf, O.km, O.kt, O.xs, O.xr, O.xi, O.xf, O.kd, fun h => (by rw [hot] at h; cases h), fun n h => (by rw [hn] at h; cases h)⟩
theorem EnvOk.suite (O : EnvOk X P C Φ κ) {a : Addr} {oe : Obj} {od : Option Addr} {c : Str} {ns : List Str} {ds : List D} (pn : List (Addr × Obj)) (hc : c ∈ C.X.xs) (hz : Zc (.ref (P.cls c)) od oe) (hf : ∃ vs, oe.data = .fields vs) :
    EnvOk (X.suite a ((a, oe) :: pn)) P (hotC C) Φ (fun _ => .exc a od c ns ds) :=
  ⟨O.K, O.pg, O.wl, fun h => (by cases h), O.N, O.nd, O.sc, O.fn, O.hu, fun _ _ h => (by cases h), fun _ _ h => (by cases h), O.blt, fun _ h => (by cases h), fun _ h => (by cases h), fun _ h => (by cases h), fun _ h => (by cases h), fun _ h => (by cases h), fun _ h => (by cases h), O.xs, fun _ h => (by cases h), fun _ h => (by cases h), O.xf, fun _ h => (by cases h), fun _ => ⟨a, od, c, ns, ds, oe, rfl, hc, List.mem_cons_self, hz, hf⟩, fun _ h => (by cases h)⟩
/-- the suite of a clause: what it wants of an exception in hand -/
def suT (P : Pm) (Φ : Nat → SpD) (C : Ctx) (su : CSs) (a : Addr) (cls : Value) (od : Option Addr) : TS := fun K σ H => ∃ c ns ds, cls = .ref (P.cls c) ∧ c ∈ C.X.xs ∧ liS P W0 (rSs Φ (fun _ => .exc a od c ns ds) su) K σ H
theorem su_ok (O : EnvOk X P C Φ κ) (hk : C.sc.kind = .function) {su : CSs} {b : Stmt} {ss : List Stmt} (h : chkSs (hotC C) su (b :: ss) = true) (a : Addr) (oe : Obj) (cls : Value) (d : Option Addr) (pn : List (Addr × Obj)) (hz : Zc cls d oe) (hf : ∃ vs, oe.data = .fields vs) :
    PSs (X.suite a ((a, oe) :: pn)) (b :: ss) (suT P Φ C su a cls d) := by
  refine ⟨fun pins s σ H K I q => ?_⟩
  obtain ⟨c, ns, ds, e, hc, q⟩ := q
  subst e
  exact (sSs su (O.suite (ns := ns) (ds := ds) pn hc hz hf) hk takes0 PassesOwn.never h).run pins s σ H K I q
theorem glob_nm (O : EnvOk X P C Φ κ) {x : Str} (h1 : okGlob C x = true) (h2 : C.X.xs.contains x = true) : Names X x (.ref (P.cls x)) := by
  obtain ⟨g1, g2⟩ := glob_of O h1
  exact ⟨g1, g2, .inl (O.xs x (List.elem_iff.mp h2)).1⟩
theorem relSt_none {w : Wd} {sd : Std} {σ : L2.St} (r : RelSt P w sd σ) (i : Nat) : RelSt P w (sd.set i none) (σ.set i none) := by
  refine ⟨by simp [r.1], fun j d h => ?_⟩
  by_cases hj : j = i
  · subst hj
    rw [List.getElem?_set] at h
    simp at h
  · rw [List.getElem?_set_ne (fun z => hj z.symm)] at h ⊢
    exact r.2 j d h
/-- the exception in hand, as data -/
theorem held_rel {w : Wd} {x : XD} {dd : Option Addr} {H : Hp} {a : Addr} (r : RelX P w x (.ref (P.cls x.cls)) dd H) : ∃ o ns ds, x.held a (some o) = .exc a dd x.cls ns ds ∧ RelD P w (.exc a dd x.cls ns ds) (.ref a) := by
  obtain ⟨_, r⟩ := r
  rcases r with ⟨e1, e2⟩ | ⟨fs, o, us, e1, e2, hF, hr⟩
  · subst e2
    exact ⟨0, [], [], by unfold XD.held; rw [e1], [], rfl, fun d h => (by cases h), rfl, rfl⟩
  · subst e2
    obtain ⟨h1, h2⟩ := relKs_zip hr
    exact ⟨o, _, _, by unfold XD.held; rw [e1], us.map (·.2), rfl, fun d h => by cases h; rw [← h1]; exact hF, by rw [List.length_map, List.length_map], h2⟩
theorem LkK.clr {w : Wd} {H : Hp} {Kd : EndsD} {K : Ends} (l : LkK P w H Kd K) (i : Nat) : LkK P w H (clrE i Kd) { nx := fun σ' H' => K.nx (σ'.set i none) H', rt := K.rt, bk := fun σ' H' => K.bk (σ'.set i none) H', ct := fun σ' H' => K.ct (σ'.set i none) H' } :=
  ⟨fun w' M' H' sd σ s R r q => l.nx w' M' H' _ _ s R (relSt_none r i) q, l.rt, fun w' M' H' sd σ s R r q => l.bk w' M' H' _ _ s R (relSt_none r i) q, fun w' M' H' sd σ s R r q => l.ct w' M' H' _ _ s R (relSt_none r i) q⟩
theorem lkXS0 {w : Wd} {H : Hp} : LkXS P w H (fun _ _ _ => False) W0 := fun _ _ _ _ _ _ _ _ _ _ _ _ q => q.elim
theorem chkH_inv {h : Hd} {e : ExceptHandler} (hc : chkH C h e = true) : ∃ x np n b su p, e = .ExceptHandler (some (.Name x np)) n (b :: su) p ∧ x = h.T ∧ okGlob C x = true ∧ C.X.xs.contains h.T = true ∧ chkSs (hotC C) h.su (b :: su) = true ∧ ((h.i = none ∧ n = none) ∨ ∃ i y, h.i = some i ∧ n = some y ∧ C.N[i]? = some y ∧ C.sc.names.lookup y = some .local) := by
  unfold chkH at hc
  split at hc
  · rename_i x np n b su p
    simp only [Bool.and_eq_true, beq_iff_eq] at hc
    obtain ⟨⟨⟨⟨g1, g2⟩, g3⟩, g4⟩, g5⟩ := hc
    refine ⟨x, np, n, b, su, p, rfl, g1, g2, g3, g4, ?_⟩
    split at g5
    · next e => exact .inl ⟨e, rfl⟩
    · next i y e =>
      rw [Bool.and_eq_true, beq_iff_eq, beq_iff_eq] at g5
      exact .inr ⟨i, y, e, rfl, g5.1, g5.2⟩
    · cases g5
  · cases hc
/-- what a clause's suite gets -/
theorem su_lift (O : EnvOk X P C Φ κ) {w : Wd} {M : Md} {H : Hp} {sd : Std} {σ : L2.St} {Kd : EndsD} {K : Ends} {x : XD} {dd : Option Addr} {h : Hd} (R : RepM P w M H) (rs : RelSt P w sd σ) (l : LkK P w H Kd K) (r : RelX P w x (.ref (P.cls x.cls)) dd H) (hx : x.cls ∈ C.X.xs) (hi : h.i = none) (a : Addr)
    (q : ∀ a o, suR Φ h (x.held a (some o)) Kd sd M) : suT P Φ C h.su a (.ref (P.cls x.cls)) dd K σ H := by
  obtain ⟨o, ns, ds, e, rd⟩ := held_rel (a := a) r
  have q := q a o
  unfold suR at q
  rw [hi, e] at q
  exact ⟨x.cls, ns, ds, rfl, hx, w, M, sd, Kd, _, R, rs, l, lkXS0, q⟩
theorem su_liftA (O : EnvOk X P C Φ κ) {w : Wd} {M : Md} {H : Hp} {sd : Std} {σ : L2.St} {Kd : EndsD} {K : Ends} {x : XD} {dd : Option Addr} {h : Hd} {i : Nat} (R : RepM P w M H) (rs : RelSt P w sd σ) (l : LkK P w H Kd K) (r : RelX P w x (.ref (P.cls x.cls)) dd H) (hx : x.cls ∈ C.X.xs) (hi : h.i = some i) (a : Addr)
    (q : ∀ a o, suR Φ h (x.held a (some o)) Kd sd M) : suT P Φ C h.su a (.ref (P.cls x.cls)) dd { nx := fun σ' H' => K.nx (σ'.set i none) H', rt := K.rt, bk := fun σ' H' => K.bk (σ'.set i none) H', ct := fun σ' H' => K.ct (σ'.set i none) H' } (σ.set i (some (.ref a))) H := by
  obtain ⟨o, ns, ds, e, rd⟩ := held_rel (a := a) r
  have q := q a o
  unfold suR at q
  rw [hi, e] at q
  exact ⟨x.cls, ns, ds, rfl, hx, w, M, _, _, _, R, relSt_set rs i rd, l.clr i, lkXS0, q⟩
theorem chkHs_T : ∀ {hs : List Hd} {es : List ExceptHandler}, chkHs C hs es = true → ∀ h ∈ hs, h.T ∈ C.X.xs
  | [], _, _, _, hh => by cases hh
  | h :: hs, [], hc, _, _ => by cases hc
  | h :: hs, e :: es, hc, h', hh => by
    rw [chkHs, Bool.and_eq_true] at hc
    rcases List.mem_cons.mp hh with z | z
    · obtain ⟨_, _, _, _, _, _, _, _, _, g3, _⟩ := chkH_inv hc.1
      rw [z]; exact List.elem_iff.mp g3
    · exact chkHs_T hc.2 h' z
/-- clauses with names and without -/
theorem hds_mx (O : EnvOk X P C Φ κ) (hk : C.sc.kind = .function) : ∀ {hs : List Hd} {es : List ExceptHandler}, chkHs C hs es = true → HdsMx X es (hs.map fun h => (.ref (P.cls h.T), h.i, suT P Φ C h.su))
  | [], [], _ => .nil
  | ⟨T, i, su⟩ :: hs, e :: es, hc => by
    rw [chkHs, Bool.and_eq_true] at hc
    obtain ⟨x, np, n, b, su', p, e1, e2, g2, g3, g4, g5⟩ := chkH_inv hc.1
    have r := hds_mx O hk hc.2
    rcases g5 with ⟨e4, e3⟩ | ⟨j, y, e4, e3, g6, g7⟩
    · have e4 : i = none := e4
      subst e1 e2 e3 e4
      exact .bare (glob_nm O g2 g3) (fun a oe cls d pn hz hf => su_ok O hk g4 a oe cls d pn hz hf) r
    · have e4 : i = some j := e4
      subst e1 e2 e3 e4
      exact .named (by rw [O.N]; exact g6) (by show X.env.scope.names.lookup y = _; rw [O.sc]; exact g7) (glob_nm O g2 g3) (fun a oe cls d pn hz hf => su_ok O hk g4 a oe cls d pn hz hf) r
  | [], _ :: _, hc => by cases hc
  | _ :: _, [], hc => by cases hc
theorem mix_lift (O : EnvOk X P C Φ κ) {w : Wd} {H : Hp} {Kd : EndsD} {K : Ends} {E : EXS} (l : LkK P w H Kd K) (lx : LkXS P w H E W) : ∀ {hs : List Hd}, (∀ h ∈ hs, h.T ∈ C.X.xs) → LkXS P w H (hdsR Φ C.X.xs E Kd hs) (wMix X.K W K (hs.map fun h => (.ref (P.cls h.T), h.i, suT P Φ C h.su)))
  | [], _ => lx
  | h :: hs, hT => by
    intro w' M' H' sd σ x cls dd s R rs r q
    obtain ⟨q1, q⟩ := q
    have ec : cls = .ref (P.cls x.cls) := r.1
    subst ec
    refine ⟨xsub x.cls h.T, ((O.xs _ (hT h List.mem_cons_self)).2.2.2 _ q1).2, fun hb a _ => ?_, fun hb => ?_⟩
    · rw [if_pos hb] at q
      unfold suW
      dsimp only
      cases hi : h.i with
      | none => exact su_lift O R rs (l.on s) r q1 hi a q
      | some i => exact su_liftA O R rs (l.on s) r q1 hi a q
    · rw [if_neg (by rw [hb]; decide)] at q
      exact mix_lift O l lx (fun h' hh => hT h' (List.mem_cons_of_mem _ hh)) w' M' H' sd σ x _ dd s R rs r q
theorem sB {xs : List Str} {b : TBk} {st : Stmt} (O : EnvOk X P C Φ κ) (hk : C.sc.kind = .function) (tk : Takes X W) (hp : PassesOwn (model X.prog X.w) X.A X.env X.xe) (hs : X.stack = X.env :: X.outer) (hf : X.env.frame = some X.env.locals) (h : chkB C xs b st = true) : PS X st (liS P W (rB Φ κ xs b)) := by
  cases b with
  | one s =>
    have h : (chkS C s st && true) = true := h
    rw [Bool.and_true] at h
    exact psI (sS s O hk tk hp h) fun K σ H q => q
  | tr body hs' =>
    have h : chkTr C xs body hs' st = true := h
    unfold chkTr at h
    split at h
    · rename_i bb es p _
      simp only [Bool.and_eq_true, Bool.not_eq_true', decide_eq_true_eq, List.isEmpty_iff] at h
      obtain ⟨⟨⟨⟨⟨h1, h2⟩, h3⟩, h4⟩, h5⟩, h6⟩ := h
      subst h3
      have one : PS X (.Try bb es [] [] p) (liS P W (rB Φ κ C.X.xs (.tr body hs'))) := by
        have hbody : ∀ (W : WX) (pn : List (Addr × Obj)) (xe : Value → Shared → Prop), Takes (X.tr pn xe) W → PassesOwn (model X.prog X.w) X.A X.env xe → PSs (X.tr pn xe) bb (liS P W (rSs Φ κ body)) := fun W pn xe tk hp => sSs body (O.tr h1 h2 pn xe) hk tk hp h4
        cases es with
        | nil => cases hs' with
          | nil => cases h6
          | cons _ _ => cases h5
        | cons e es =>
          refine psI (ps_try_mx hs hf (by rw [O.N]; exact O.nd) tk hbody (hds_mx O hk h5)) fun K σ H q => ?_
          obtain ⟨w, M, sd, Kd, Ed, R, rs, l, lx, q⟩ := q
          exact ⟨w, M, sd, Kd, _, R, rs, l, mix_lift O l lx (chkHs_T h5), q⟩
      exact one
    · cases h
theorem sBs {xs : List Str} (O : EnvOk X P C Φ κ) (hk : C.sc.kind = .function) (tk : Takes X W) (hp : PassesOwn (model X.prog X.w) X.A X.env X.xe) (hs : X.stack = X.env :: X.outer) (hf : X.env.frame = some X.env.locals) : ∀ {bs : List TBk} {ss : List Stmt}, chkBs C xs bs ss = true → PSs X ss (liS P W (rBs Φ κ xs bs))
  | [], [], _ => by
    refine pssI pss_nil fun K σ H q => ?_
    obtain ⟨w, M, sd, Kd, Ed, R, rs, l, lx, q⟩ := q
    exact l.nx w M H sd σ (.refl _ _) R rs q
  | b :: bs, s :: ss, h => by
    rw [chkBs, Bool.and_eq_true] at h
    exact pssL_cons (r := rB Φ κ xs b) (r2 := rBs Φ κ xs bs) (sB O hk tk hp hs hf h.1) (sBs O hk tk hp hs hf h.2)
  | [], _ :: _, h => by cases h
  | _ :: _, [], h => by cases h
theorem BodyOk.blocks {xs : List Str} {bs : List TBk} {ss : List Stmt} (h : chkBs C xs bs ss = true) : BodyOk P C Φ κ ss (rBs Φ κ xs bs) := fun _ _ O hk tk hp hs hf => sBs O hk tk hp hs hf h
end
def tI (K : PySem.W.Frag) : List (Str × Nat) → TS
  | [] => tNext
  | p :: r => tSeq (tOst K p.1 (tVar 0) (tVar p.2)) (tI K r)
def ctxI (N : List Str) (scope : Scope) : Ctx := { N := N, sc := scope, fn := fun _ => true, G := [], B := [] }
def chkI1 (C : Ctx) (p : Str × Nat) : Stmt → Bool
  | .Assign [.Attribute (.Name x _) g _] (.Name y _) _ => (p.1 == g) && okVar C 0 x && okVar C p.2 y
  | _ => false
def chkIs (C : Ctx) : List (Str × Nat) → List Stmt → Bool
  | [], [] => true
  | p :: r, s :: ss => chkI1 C p s && chkIs C r ss
  | _, _ => false
theorem vis_of0 {X : Cx} {C : Ctx} (hN : X.N = C.N) (hs : X.env.scope = C.sc) {i : Nat} {x : Str} (h : okVar C i x = true) : X.N[i]? = some x ∧ Vis X.env.scope x ∧ (x == ("__debug__" : Str)) = false ∧ (x == ("__classdict__" : Str)) = false := by
  unfold okVar nodbg at h
  simp only [Bool.and_eq_true, Bool.not_eq_true', beq_iff_eq] at h
  obtain ⟨⟨h1, h2, h3⟩, h4⟩ := h
  refine ⟨by rw [hN]; exact h1, ?_, h2, h3⟩
  unfold Vis
  rw [hs]
  split at h4
  · rename_i e; exact .inl e
  · rename_i e; exact .inr (.inl e)
  · rename_i e; exact .inr (.inr e)
  · cases h4
theorem tI_ps {X : Cx} {C : Ctx} (hN : X.N = C.N) (hs : X.env.scope = C.sc) : ∀ {r : List (Str × Nat)} {ss : List Stmt}, chkIs C r ss = true → PSs X ss (tI X.K r)
  | [], [], _ => pss_nil
  | p :: r, s :: ss, h => by
    rw [chkIs, Bool.and_eq_true] at h
    obtain ⟨h1, h2⟩ := h
    refine pss_cons ?_ (tI_ps hN hs h2)
    unfold chkI1 at h1
    split at h1
    · simp only [Bool.and_eq_true, beq_iff_eq] at h1
      obtain ⟨⟨h1, h3⟩, h4⟩ := h1
      obtain ⟨a1, a2, a3, a4⟩ := vis_of0 hN hs h3
      obtain ⟨b1, b2, b3, b4⟩ := vis_of0 hN hs h4
      rw [h1]
      exact ps_ost (pe_var a1 a2 a3 a4) (pe_var b1 b2 b3 b4)
    · cases h1
  | [], _ :: _, h => by cases h
  | _ :: _, [], h => by cases h
theorem tI_go {K : PySem.W.Frag} {a d Ca : Addr} {σ : L2.St} {D : Ends} (T : OexC K Ca) (h0 : σ[0]? = some (some (.ref a))) (hda : d ≠ a) : ∀ {r : List (Str × Nat × V)} {acc : List (Str × V)} {H : Hp}, (∀ p ∈ r, σ[p.2.1]? = some (some p.2.2) ∧ PySem.W.findIn K (.ref Ca) p.1 = some none) → H a = some (exo a Ca (some d)) → H d = some (exd d acc) → acc.length + r.length ≤ 900 →
    (∀ H', H' a = some (exo a Ca (some d)) → H' d = some (exd d ((r.map fun p => (p.1, p.2.2)).reverse ++ acc)) → (∀ b, b ≠ d → H' b = H b) → D.nx σ H') → tI K (r.map fun p => (p.1, p.2.1)) D σ H
  | [], acc, H, _, e1, e2, _, fin => fin H e1 e2 fun _ _ => rfl
  | p :: r, acc, H, hp, e1, e2, hl, fin => by
    obtain ⟨q1, q2⟩ := hp p List.mem_cons_self
    rw [List.length_cons] at hl
    refine ⟨p.2.2, q1, .ref a, h0, a, Ca, rfl, T, q2, .inr ⟨d, acc, e1, e2, by omega, ?_⟩⟩
    refine tI_go T h0 hda (acc := (p.1, p.2.2) :: acc) (fun q hq => hp q (List.mem_cons_of_mem _ hq)) (by rw [upd_ne (Ne.symm hda)]; exact e1) upd_same (by rw [List.length_cons]; omega) fun H' g1 g2 g3 => ?_
    refine fin H' g1 ?_ fun b hb => by rw [g3 b hb, upd_ne hb]
    rw [List.map_cons, List.reverse_cons, List.append_assoc]
    exact g2
theorem zip3 {fs : List Str} {ws : List V} (h : ws.length = fs.length) : ∃ r : List (Str × Nat × V), r.map (fun p => (p.1, p.2.1)) = fs.zip (List.range' 1 fs.length) ∧ r.map (fun p => (p.1, p.2.2)) = fs.zip ws ∧ r.length = fs.length ∧ ∀ p ∈ r, p.1 ∈ fs ∧ ∃ i, p.2.1 = i + 1 ∧ ws[i]? = some p.2.2 := by
  have key : ∀ (fs : List Str) (ws : List V) (n : Nat), ws.length = fs.length → ∃ r : List (Str × Nat × V), r.map (fun p => (p.1, p.2.1)) = fs.zip (List.range' n fs.length) ∧ r.map (fun p => (p.1, p.2.2)) = fs.zip ws ∧ r.length = fs.length ∧ ∀ p ∈ r, p.1 ∈ fs ∧ ∃ i, p.2.1 = i + n ∧ ws[i]? = some p.2.2 := by
    intro fs
    induction fs with
    | nil => intro ws n h; exact ⟨[], rfl, by simp, rfl, fun _ h => by cases h⟩
    | cons f fs ih =>
      intro ws n h
      cases ws with
      | nil => cases h
      | cons w ws =>
        obtain ⟨r, h1, h2, h3, h4⟩ := ih ws (n + 1) (by simpa using h)
        refine ⟨(f, n, w) :: r, ?_, ?_, by rw [List.length_cons, List.length_cons, h3], fun p hp => ?_⟩
        · rw [List.map_cons, h1, List.length_cons, List.range'_succ]; rfl
        · rw [List.map_cons, h2]; rfl
        · rcases List.mem_cons.mp hp with e | e
          · rw [e]; exact ⟨List.mem_cons_self, 0, by simp, rfl⟩
          · obtain ⟨q1, i, q2, q3⟩ := h4 p e
            exact ⟨List.mem_cons_of_mem _ q1, i + 1, by omega, by simpa using q3⟩
  exact key fs ws 1 h
/-- THE RULE of an own exception's __init__ -/
theorem okInit {Pg : Program} {w : World} {K : PySem.W.Frag} {mg : Str → Option Value} {base : Heap} {k : Nat} {x qual : Str} {params : Arguments} {bodyS : List Stmt} {scope : Scope} {f : Addr} {fd : FuncData} {dvs : List V} {kws : List (Str × V)} {fs : List Str} {Ca : Addr} (T : OexC K Ca) (hno : ∀ g ∈ fs, PySem.W.findIn K (.ref Ca) g = some none)
    (F : FunD K x qual params bodyS scope dvs kws f fd) (S : FnScope ("self" :: fs) ("self" :: fs) scope) (hc : chkIs (ctxI ("self" :: fs) scope) (fs.zip (List.range' 1 fs.length)) bodyS = true) (hf : fs ≠ []) (hl : fs.length ≤ 100) :
    FnOk Pg w K mg base (L2.CX Pg w) (k + 1) f fd ("self" :: fs) (initSp Ca fs) := by
  refine F.ok (CX := L2.CX Pg w) S (fun vs H Q E h => ?_) (fun cdv A outer s H vs Q E hr h => ?_)
  · obtain ⟨a, ws, e, h1, _⟩ := h
    rw [e, List.length_cons, List.length_cons, h1]
  · obtain ⟨a, ws, e, h1, h2, h3⟩ := h
    refine ⟨_, tI_ps (C := ctxI ("self" :: fs) scope) rfl rfl hc, ?_⟩
    subst e
    obtain ⟨r, g1, g2, g4, g3⟩ := zip3 h1
    have hst : ∀ p ∈ r, (L2.start ("self" :: fs) (V.ref a :: ws))[p.2.1]? = some (some p.2.2) ∧ PySem.W.findIn K (.ref Ca) p.1 = some none := fun p hp => by
      obtain ⟨q1, i, q2, q3⟩ := g3 p hp
      refine ⟨?_, hno _ q1⟩
      unfold L2.start
      rw [q2, List.getElem?_append_left (by rw [List.length_map, List.length_cons]; have := (List.getElem?_eq_some_iff.mp q3).1; omega), List.getElem?_map, List.getElem?_cons_succ, q3]
      rfl
    cases r with
    | nil =>
      have : fs.length = 0 := by rw [← g4]; rfl
      exact absurd (List.length_eq_zero_iff.mp this) hf
    | cons p r =>
      rw [← g1, List.map_cons]
      obtain ⟨s1, s2⟩ := hst p List.mem_cons_self
      refine ⟨p.2.2, s1, .ref a, rfl, a, Ca, rfl, T, s2, .inl ⟨h2, fun d hd hda => ?_⟩⟩
      rw [List.length_cons] at g4
      refine tI_go T rfl hda (acc := [(p.1, p.2.2)]) (fun q hq => hst q (List.mem_cons_of_mem _ hq)) upd_same (by rw [upd_ne hda, upd_same]) (by rw [List.length_singleton]; omega) fun H' e1 e2 e3 => ?_
      refine h3 d H' hd hda e1 ?_ fun b hba hbd => by rw [e3 b hbd, upd_ne hba, upd_ne hbd]
      rw [e2, ← g2, List.map_cons, List.reverse_cons]
def RdOkB (Φ : Nat → SpD) (κ : Nat → D) (xs : List Str) (c : List TBk) (n : Nat) (sp : SpD) : Prop := ∀ ds M Q E, MOk M → RLts M.length ds → sp ds M Q E → rBs Φ κ xs c (fun x _ M => E x M) (endsD M.length Q) (startD n ds) M
section
variable {Φ : Nat → SpD} {κ : Nat → D} {xs : List Str} {EE : EXS} {K : EndsD} {σ : Std} {M : Md}
/-- what is left of a def's blocks -/
def nxb (Φ : Nat → SpD) (κ : Nat → D) (xs : List Str) (r : List TBk) (E : EXS) (K : EndsD) : Std → Md → Prop := rBs Φ κ xs r E K
theorem nxb_nil : nxb Φ κ xs [] EE K σ M = K.nx σ M := rfl
theorem nxb_one {s : CS} {r : List TBk} : nxb Φ κ xs (.one s :: r) EE K σ M = nxt Φ κ (.cons s .nil) EE ⟨nxb Φ κ xs r EE K, K.rt, K.bk, K.ct⟩ σ M := rfl
theorem nxb_tr {body : CSs} {hs : List Hd} {r : List TBk} : nxb Φ κ xs (.tr body hs :: r) EE K σ M = nxt Φ κ body (hdsR Φ xs EE ⟨nxb Φ κ xs r EE K, K.rt, K.bk, K.ct⟩ hs) ⟨nxb Φ κ xs r EE K, K.rt, K.bk, K.ct⟩ σ M := rfl
theorem hdsR_nil {x : XD} : hdsR Φ xs EE K [] x σ M = EE x σ M := rfl
theorem hdsR_cons {T : Str} {i : Option Nat} {su : CSs} {r : List Hd} {x : XD} : hdsR Φ xs EE K (⟨T, i, su⟩ :: r) x σ M = (x.cls ∈ xs ∧ if xsub x.cls T = true then (∀ a o, suR Φ ⟨T, i, su⟩ (x.held a (some o)) K σ M) else hdsR Φ xs EE K r x σ M) := rfl
theorem suR_as {T : Str} {i : Nat} {su : CSs} {d : D} : suR Φ ⟨T, some i, su⟩ d K σ M = nxt Φ (fun _ => d) su (fun _ _ _ => False) ⟨fun σ M => K.nx (σ.set i none) M, K.rt, fun σ M => K.bk (σ.set i none) M, fun σ M => K.ct (σ.set i none) M⟩ (σ.set i (some d)) M := rfl
theorem suR_no {T : Str} {su : CSs} {d : D} : suR Φ ⟨T, none, su⟩ d K σ M = nxt Φ (fun _ => d) su (fun _ _ _ => False) K σ M := rfl
theorem held_0 {c : Str} {a : Addr} {o : Option Addr} : XD.held ⟨c, none⟩ a o = .exc a none c [] [] := rfl
theorem held_1 {c : Str} {fs : List (Str × D)} {a : Addr} {o : Option Addr} : XD.held ⟨c, some fs⟩ a o = .exc a o c (fs.map (·.1)) (fs.map (·.2)) := rfl
end
theorem xok_of {Pg : Program} {w : World} {K : PySem.W.Frag} {mg : Str → Option Value} {base : Heap} {P : Pm} {XC : XCtx} {k : Nat} (hk : 2 ≤ k) (hP : ∀ c, P.cls c = He.ga K c) (h0 : XC.hot = false)
    (hs : ∀ c ∈ XC.xs, mg c = some (.ref (He.ga K c)) ∧ cstB K (c, .exc 0 none "s" XC.xs []) = true)
    (hr : ∀ c ∈ XC.xr, mg c = some (.ref (He.ga K c)) ∧ cstB K (c, .exc 0 none "r" [] []) = true)
    (hi : ∀ q ∈ XC.xi, mg q.1 = some (.ref (He.ga K q.1)) ∧ cstB K (q.1, .exc 0 none "i" [] []) = true ∧ ∃ fd, FnOk Pg w K mg base (L2.CX Pg w) 1 (He.fAd K (q.1, some "__init__")) fd ("self" :: q.2) (initSp (He.ga K q.1) q.2) ∧ Binds K fd ("self" :: q.2) [])
    (hf : ∀ q ∈ XC.xf, q.1 ∈ XC.xs ∧ cstB K (q.1, .exc 0 none "f" [q.2] []) = true)
    (hd : ∀ q ∈ XC.kd, ∃ a es n, mg q.1 = some (.ref a) ∧ KDict K w a es n ∧ TabV K a q.2) : XOk Pg w K mg base P XC k := by
  refine ⟨h0, fun T hT => ?_, fun c hc => ?_, fun q hq => ?_, fun q hq => ?_, hd⟩
  · obtain ⟨h1, h2⟩ := hs T hT
    obtain ⟨a1, a2, _⟩ := xs_ok h2
    rw [hP]
    refine ⟨h1, a1, a2, fun c hc => ?_⟩
    rw [hP]
    obtain ⟨_, _, b3⟩ := xs_ok (hs c hc).2
    exact b3 T hT
  · obtain ⟨h1, h2⟩ := hr c hc
    rw [hP]
    exact ⟨h1, xr_ok h2⟩
  · obtain ⟨h1, h2, fd, h3, h4⟩ := hi q hq
    obtain ⟨a1, a2, a3⟩ := xi_ok h2
    rw [hP]
    exact ⟨h1, a1, 1, _, fd, by omega, a2, a3, h3, h4⟩
  · obtain ⟨h1, h2⟩ := hf q hq
    rw [hP]
    exact ⟨h1, xf_ok h2 _ (List.mem_singleton.mpr rfl)⟩
/-- the world with its answer to the one row that the head's run of a dict display asks -/
def wB (w : World) (b : Bool) : World := ⟨w.draws, { w.params with followText := fun r => cond (r == "special-get-raises") b (w.params.followText r) }⟩
theorem wB_eq (w : World) : wB w (w.params.followText "special-get-raises") = w := by
  obtain ⟨d, p⟩ := w
  unfold wB
  have e : (fun r => cond (r == "special-get-raises") (p.followText "special-get-raises") (p.followText r)) = p.followText := by
    funext r
    by_cases h : r = "special-get-raises"
    · subst h; simp
    · rw [beq_eq_false_iff_ne.mpr h]; rfl
  show (⟨d, { p with followText := _ }⟩ : World) = _
  rw [e]
theorem find_none_of {z : Str} : ∀ {l : List DictEntry} {ks : List Str} {P : Params}, l.map He.keyOf = He.keysIn P ks → z ∉ ks → l.find? (·.key.isStr z) = none ∧ l.any (·.refKey) = false
  | [], _, _, _, _ => ⟨rfl, rfl⟩
  | e :: r, [], _, h, _ => by cases h
  | e :: r, k :: ks, P, h, hz => by
    have h1 : He.keyOf e :: r.map He.keyOf = some (k, PyData.keyHash P k) :: He.keysIn P ks := h
    injection h1 with h2 h3
    rw [List.mem_cons, not_or] at hz
    obtain ⟨a, b⟩ := find_none_of h3 hz.2
    unfold He.keyOf at h2
    split at h2
    · rename_i x t q
      obtain ⟨h5, h6⟩ := Prod.mk.inj (Option.some.inj h2)
      subst h5
      have e1 : e.key.isStr z = false := by
        rw [q]
        show (x == z) = false
        exact beq_eq_false_iff_ne.mpr fun y => hz.1 y.symm
      have e2 : e.refKey = false := by
        unfold DictEntry.refKey
        rw [q]
      exact ⟨by rw [List.find?_cons, e1]; exact a, by rw [List.any_cons, e2, b]; rfl⟩
    · cases h2
theorem nsIn_no {K : PySem.W.Frag} {P : Params} {a : Addr} {ks : List Str} {z : Str} (h : He.dicW K a = some (He.keysIn P ks)) (hz : z ∉ ks) : PySem.W.nsIn K a z = some none := by
  unfold He.dicW at h
  unfold PySem.W.nsIn
  split at h
  · rename_i c es n sl hl
    rw [hl]
    split at h
    · obtain ⟨e1, e2⟩ := find_none_of (Option.some.inj h) hz
      simp only [e1, e2]
      rfl
    · cases h
  · cases h
def tabO (kv : List (Str × Str)) : List (Str × He.Dv) := kv.map fun q => (q.1, .str q.2)
theorem lookup_mem {z t : Str} : ∀ {kv : List (Str × Str)}, kv.lookup z = some t → (z, t) ∈ kv
  | (k, y) :: r, h => by
    rw [List.lookup_cons] at h
    split at h
    · rename_i e
      rw [eq_of_beq e, Option.some.inj h]
      exact List.mem_cons_self
    · exact List.mem_cons_of_mem _ (lookup_mem h)
theorem lookup_no {z : Str} : ∀ {kv : List (Str × Str)}, kv.lookup z = none → z ∉ kv.map (·.1)
  | [], _, h => by cases h
  | (k, y) :: r, h, m => by
    rw [List.lookup_cons] at h
    split at h
    · cases h
    · rename_i e
      rcases List.mem_cons.mp m with e2 | m
      · rw [e2] at e
        exact absurd (beq_self_eq_true _) (by rw [e]; exact Bool.false_ne_true)
      · exact lookup_no h m
theorem tabV_of {K : PySem.W.Frag} {P : Params} {a : Addr} {kv : List (Str × Str)} (h : He.dicW K a = some (He.keysIn P (kv.map (·.1)))) (hv : He.valsB K a (tabO kv) = true) : TabV K a kv := by
  intro z
  cases e : kv.lookup z with
  | none => exact nsIn_no h (lookup_no e)
  | some t => exact He.valsB_ok hv (q := (z, .str t)) (List.mem_map.mpr ⟨_, lookup_mem e, rfl⟩)
/-- a table of the head: where it stands -/
def tabL (x : Str) (kv : List (Str × Str)) : He.Tab := (fun K => He.ga K x, kv.map (·.1))
theorem kd_ok {fa : List He.Fa} {fn : List He.DefD} {ts : List He.Tab} {w : World} {K : PySem.W.Frag} {mg : Str → Option Value} {x : Str} {kv : List (Str × Str)} (c : He.SaysT fa fn ts w K) (i : Nat) (h : ts[i]? = some (tabL x kv)) (g : mg x = some (.ref (He.ga K x))) (hv : He.valsB K (He.ga K x) (tabO kv) = true) :
    ∃ a es n, mg x = some (.ref a) ∧ KDict K w a es n ∧ TabV K a kv := by
  have e : ts.map (fun t => He.dicW K (t.1 K)) = ts.map fun t => some (He.keysIn w.params t.2) := congrArg (fun z : He.AlT => z.2) c
  have e2 : (ts.map fun t => He.dicW K (t.1 K))[i]? = (ts.map fun t => some (He.keysIn w.params t.2))[i]? := by rw [e]
  rw [List.getElem?_map, List.getElem?_map, h] at e2
  have e3 : He.dicW K (He.ga K x) = some (He.keysIn w.params (kv.map (·.1))) := Option.some.inj e2
  obtain ⟨es, n, D⟩ := He.dicW_ok e3
  exact ⟨_, es, n, g, D, tabV_of e3 hv⟩
end DL
namespace DL
open PySem L2
local macro_rules | `(tactic| walk_at "rd") => `(tactic| simp only [nxt_nil, rSs_nil, rSs_cons, rSs_one, rS_set, rS_setT, rS_setIx, rS_expr, rS_ret, rS_retN, rS_pass, rS_brk, rS_cont, rS_ifs, rS_fors, rS_enums, enumQ_tup, rS_whil,
  rE_var, rE_int, rE_str, rE_bl, rE_non, rE_glob, rE_bin, rE_neg, negD_int, rE_not, rE_and, rE_or, rE_cmp, rE_chain, rE_ife, rE_tup, rE_lst, rE_lstM, rE_idx, rE_slc, rE_call, rE_blt, rE_mth, rE_calln, fnQ_ref, capsD_nil, capsD_cons, capQ_some, rE_comp, rE_compM, rE_dnew, rE_dnewT, rE_dlit, rE_dget, rE_listRg, rE_listRgM, lrQM_int, rS_setP, rS_setTF, tupQ_tup, setTFd_nil, setTFd_cons, rS_aug, rS_augF, isRef_ref, addI_int, rS_raise, rS_raiseI, rE_xis, rT_xis, rE_gin, rT_gin, rE_gidx, ginD_str, gidxD_str, gidxO_some, rE_xfld, xheld_eq, xhQ_at, xdct_some, lkQ_hd, lkQ_tl, xsub_V, xsub_F, xsub_self, xsub_ne, nxb_nil, nxb_one, nxb_tr, hdsR_nil, hdsR_cons, suR_as, suR_no, held_0, held_1, List.zip_cons_cons, List.zip_nil_left, List.reverse_cons, List.reverse_nil, rE_callK, rE_makeK, rE_makeKS, rE_methK, Sc_non, Sc_bl, Sc_int, Sc_str, lrQ_int, rE_fld, rE_make, rE_makeS, rE_meth, objD_obj, rT_meth, rS_setFld,
  rds_nil, rds_cons, rdo_none, rdo_some, intO_int, rdt_none, rdt_some, rdi_seq, rdi_chars, chrQ_str, walkD_tup, walkD_lst, rdi_rng1, rngQ_int, rdi_rng2, rngQ2_int,
  rT_not, rT_and, rT_or, rT_cmp, rT_chain, rT_var, rT_glob, rT_bl, rT_bin, rT_idx, rT_fld, rT_slc, rT_call, rT_blt, rT_mth, rT_comp,
  opD_add, opD_adds, opD_addt, opD_addl, opD_catl, opD_sub, opD_mul, opD_muls, opD_fdiv, opD_fdivW, opD_mod, opD_pow, opD_band,
  cp_lt, cp_le, cp_gt, cp_ge, cp_eq, cp_eqs, cp_eqb, cp_eqn, cp_eqni, cp_eqin, cp_ne, cp_nes, cp_neb, cp_nen, cp_neni, cp_nein, cp_isN, cp_notN, cp_isB, cp_notB, isNon_non, isNon_int, isNon_bl, isNon_str, isNon_tup, isNon_lst, isNon_ref,
  tru_non, tru_bl, tru_int, tru_str, tru_tup, tru_lst, ix_tup', ix_lst', ix_scr, atQ_0, atQ_1, atQ_2, atQ_3, atQ_4, atQ_m1,
  bt_len_str, bt_len_tup, bt_len_lst, bt_len_scr, bt_list_tup, bt_list_lst, bt_listM_tup, bt_listM_lst, bt_tuple_tup, bt_tuple_lst, bt_max2, bt_min2, bt_int_int, bt_int_bl, bt_sorted_lst, srt_dct, bt_ord', bt_str',
  isi_non, isi_bl, isi_int, isi_str, isi_tup, isi_lst, isiQ_eq kit_bb, isiQ_eq kit_bi, isiQ_eq kit_bs, isiQ_eq kit_bt, isiQ_eq kit_bl, isiQ_eq kit_ib, isiQ_eq kit_ii, isiQ_eq kit_is, isiQ_eq kit_it, isiQ_eq kit_il, isiQ_eq kit_sb, isiQ_eq kit_si, isiQ_eq kit_ss, isiQ_eq kit_st, isiQ_eq kit_sl,
  isiQ_eq kit_tb, isiQ_eq kit_ti, isiQ_eq kit_ts, isiQ_eq kit_tt, isiQ_eq kit_tl, isiQ_eq kit_lb, isiQ_eq kit_li, isiQ_eq kit_ls, isiQ_eq kit_lt, isiQ_eq kit_ll, isiQ_eq kit_nb, isiQ_eq kit_ni, isiQ_eq kit_ns, isiQ_eq kit_nt, isiQ_eq kit_nl,
  sl_tup', sl_lst', sl_str', asg_nm, asg_tp, setAll_cons, setAll_nil, startD, endsD_nx, endsD_rt,
  List.map_cons, List.map_nil, List.length_cons, List.length_nil, List.replicate_succ, List.replicate_zero, List.cons_append, List.nil_append, List.set_cons_zero, List.set_cons_succ, List.getElem?_cons_zero, List.getElem?_cons_succ,
  Nat.reduceAdd, Nat.reduceSub, Nat.zero_add, Int.reduceNeg, Int.reduceToNat, Int.reducePow, if_true, if_false, Bool.false_eq_true, Bool.true_eq_false, Bool.not_true, Bool.not_false, Bool.not_eq_eq_eq_not, ix_R, ixR_lst, ixR_dct, tru_R, truR_lst, walk_R, walk_scr, seqQ_some, optQ_some, intsQ_some, blsQ_some, strQ_some, seqR_lst, len_R, list_R, listM_R, tuple_R, list_scr, tuple_scr, sorted_R, sortedM_lst, sortedM_R, sum_lst, any_lst, all_lst, tyR_lst, isi_R, isi_scr, sx_R, sxR_lst, sxR_dct, ixN_0, ixN_1, ixN_m1,
  mtKa, mtKe, mtKp, mtKpa, mtKi, mtKr, Option.isSome_some, app_R, addR, catR, seqOf_R, lstOf_R, at_new0, at_new, set_new0, set_new, len_set, List.length_append, List.append_assoc, set_snoc, emp_snoc, emp_cons, emp_nil, wipe_nil, wipe_cons, sz0, sz1, sz2, sz3, sz4, sz5, sz6, decide_eq_true_eq, decide_true, decide_false, true_and, and_true])
local macro_rules | `(tactic| walk_at "rd2") => `(tactic| simp (decide := true) only [setM_cons, setM_nil, rS_ifsN, rS_forsN, rS_enumsN, enumQ_tup, rS_whilN, nxt_nil, rSs_nil, rSs_cons, rSs_one, rS_set, rS_setT, rS_setIx, rS_expr, rS_ret, rS_retN, rS_pass, rS_brk, rS_cont, 
  rE_var, rE_int, rE_str, rE_bl, rE_non, rE_glob, rE_bin, rE_neg, negD_int, rE_not, rE_and, rE_or, rE_cmp, rE_chain, rE_ife, rE_tup, rE_lst, rE_lstM, rE_idx, rE_slc, rE_call, rE_blt, rE_mth, rE_calln, fnQ_ref, capsD_nil, capsD_cons, capQ_some, rE_comp, rE_compM, rE_dnew, rE_dnewT, rE_dlit, rE_dget, rE_listRg, rE_listRgM, lrQM_int, rS_setP, rS_setTF, tupQ_tup, setTFd_nil, setTFd_cons, rS_aug, rS_augF, isRef_ref, addI_int, rS_raise, rS_raiseI, rE_xis, rT_xis, rE_gin, rT_gin, rE_gidx, ginD_str, gidxD_str, gidxO_some, rE_xfld, xheld_eq, xhQ_at, xdct_some, lkQ_hd, lkQ_tl, xsub_V, xsub_F, xsub_self, xsub_ne, nxb_nil, nxb_one, nxb_tr, hdsR_nil, hdsR_cons, suR_as, suR_no, held_0, held_1, List.zip_cons_cons, List.zip_nil_left, List.reverse_cons, List.reverse_nil, rE_callK, rE_makeK, rE_makeKS, rE_methK, Sc_non, Sc_bl, Sc_int, Sc_str, lrQ_int, rE_fld, rE_make, rE_makeS, rE_meth, objD_obj, rT_meth, fldD_R, fldR_ins, lookQ_hd, lookQ_tl, setFD_R, setFR_ins, putFD_nil, putFD_hd, putFD_tl, fld_obj, objQ_hd, objQ_tl, rS_setFld,
  rds_nil, rds_cons, rdo_none, rdo_some, intO_int, rdt_none, rdt_some, rdi_seq, rdi_chars, chrQ_str, walkD_tup, walkD_lst, rdi_rng1, rngQ_int, rdi_rng2, rngQ2_int,
  rT_not, rT_and, rT_or, rT_cmp, rT_chain, rT_var, rT_glob, rT_bl, rT_bin, rT_idx, rT_fld, rT_slc, rT_call, rT_blt, rT_mth, rT_comp,
  opD_add, opD_adds, opD_addt, opD_addl, opD_catl, opD_sub, opD_mul, opD_muls, opD_fdiv, opD_fdivW, opD_mod, opD_pow, opD_band,
  cp_lt, cp_le, cp_gt, cp_ge, cp_eq, cp_eqs, cp_eqb, cp_eqn, cp_eqni, cp_eqin, cp_ne, cp_nes, cp_neb, cp_nen, cp_neni, cp_nein, cp_isN, cp_notN, cp_isB, cp_notB, isNon_non, isNon_int, isNon_bl, isNon_str, isNon_tup, isNon_lst, isNon_ref,
  tru_non, tru_bl, tru_int, tru_str, tru_tup, tru_lst, ix_tup', ix_lst', ix_scr, atQ_0, atQ_1, atQ_2, atQ_3, atQ_4, atQ_m1,
  bt_len_str, bt_len_tup, bt_len_lst, bt_len_scr, bt_list_tup, bt_list_lst, bt_listM_tup, bt_listM_lst, bt_tuple_tup, bt_tuple_lst, bt_max2, bt_min2, bt_int_int, bt_int_bl, bt_sorted_lst, srt_dct, bt_ord', bt_str',
  isi_non, isi_bl, isi_int, isi_str, isi_tup, isi_lst, isiQ_eq kit_bb, isiQ_eq kit_bi, isiQ_eq kit_bs, isiQ_eq kit_bt, isiQ_eq kit_bl, isiQ_eq kit_ib, isiQ_eq kit_ii, isiQ_eq kit_is, isiQ_eq kit_it, isiQ_eq kit_il, isiQ_eq kit_sb, isiQ_eq kit_si, isiQ_eq kit_ss, isiQ_eq kit_st, isiQ_eq kit_sl,
  isiQ_eq kit_tb, isiQ_eq kit_ti, isiQ_eq kit_ts, isiQ_eq kit_tt, isiQ_eq kit_tl, isiQ_eq kit_lb, isiQ_eq kit_li, isiQ_eq kit_ls, isiQ_eq kit_lt, isiQ_eq kit_ll, isiQ_eq kit_nb, isiQ_eq kit_ni, isiQ_eq kit_ns, isiQ_eq kit_nt, isiQ_eq kit_nl,
  sl_tup', sl_lst', sl_str', asg_nm, asg_tp, setAll_cons, setAll_nil, startD, endsD_nx, endsD_rt,
  List.map_cons, List.map_nil, List.length_cons, List.length_nil, List.replicate_succ, List.replicate_zero, List.cons_append, List.nil_append, List.set_cons_zero, List.set_cons_succ, List.getElem?_cons_zero, List.getElem?_cons_succ,
  Nat.reduceAdd, Nat.reduceSub, Nat.zero_add, Int.reduceNeg, Int.reduceToNat, Int.reducePow, if_true, if_false, Bool.false_eq_true, Bool.true_eq_false, Bool.not_true, Bool.not_false, Bool.not_eq_eq_eq_not, ix_R, ixR_lst, ixR_dct, ixR_dctT, cp_inn_R, cp_nin_R, inR_dct, inR_dctT, keyD_non, keyD_int, keyD_str, tru_R, truR_lst, walk_R, walk_scr, seqQ_some, optQ_some, intsQ_some, blsQ_some, strQ_some, seqR_lst, len_R, list_R, listM_R, tuple_R, list_scr, tuple_scr, sorted_R, sortedM_lst, sortedM_R, sum_lst, any_lst, all_lst, tyR_lst, isi_R, isi_scr, sx_R, sxR_lst, sxR_dct, sxR_dctT, ixN_0, ixN_1, ixN_m1,
  mtKa, mtKe, mtKp, mtKpa, mtKi, mtKr, mtKx, mtKxl, idx_eq, rev_R, cp_inn2, Bool.or_false, Bool.false_or, Bool.or_true, Bool.true_or, ext_RR, extOf_R, extOf_tup, extOf_lst, pop_RR, lstOf_lst, seqOf_lst, seqOf_tup, Option.isSome_some, app_R, addR, catR, seqOf_R, lstOf_R, at_new0, at_new, set_new0, set_new, len_set, List.length_append, List.append_assoc, set_snoc, emp_snoc, emp_cons, emp_nil, wipe_nil, wipe_cons, sz0, sz1, sz2, sz3, sz4, sz5, sz6, decide_eq_true_eq, decide_true, decide_false, true_and, and_true])
local macro_rules | `(tactic| walk_at "sz") => `(tactic| first | exact trivial | omega | (simp only [size_eq, tx_len, List.length_map, List.length_cons, List.length_nil, List.length_append, List.length_replicate, List.length_range, List.length_reverse, List.length_set, List.length_take, List.length_drop] <;> omega))
local macro_rules | `(tactic| walk_at "go") => `(tactic| ((try walk_at "rd2"); (first | (with_reducible refine nxt_of ?_; walk_at "go") | ((with_reducible refine And.intro ?hs ?_); (case hs => walk_at "sz"); walk_at "go") | skip)))
def k2 : D := .tup [.tup [.int 10, .int 11], .tup [.int 13, .int 14]]
def k4 : D := .tup [.tup [.int 48, .int 58], .tup [.int 65, .int 91], .tup [.int 95, .int 96], .tup [.int 97, .int 123]]
def k10 : D := .str "ABCDEFGHIJKLMNOPQRSTUVWXYZabcdefghijklmnopqrstuvwxyz"
def k11 : D := .str "0123456789"
def k12 : D := .str "0123456789abcdef"
def k3 : D := .tup [.tup [.int 9, .int 14], .tup [.int 32, .int 33]]
def k1 : D := .tup [.tup [.int 0, .int 10], .tup [.int 11, .int 13], .tup [.int 14, .int 128]]
def k5 : D := .tup [.tup [.int 48, .int 58]]
def k30 : D := .str "01234567"
def k32 : D := .int 20
def k33 : D := .str "ABCDEFGHIJKLMNOPQRSTUVWXYZabcdefghijklmnopqrstuvwxyz_0123456789"
def k13 : D := .tup [.tup [.str "(?:", .str "plain", .non], .tup [.str "(?=", .str "look", .tup [.bl true, .bl true]], .tup [.str "(?!", .str "look", .tup [.bl true, .bl false]], .tup [.str "(?<=", .str "look", .tup [.bl false, .bl true]], .tup [.str "(?<!", .str "look", .tup [.bl false, .bl false]]]
def k15 : D := .int 50
def k14 : D := .int 4
def k6 : D := .tup [.tup [.int 0, .int 128]]
def k40 : D := .int 8
def k39 : D := .int 100
def k41 : D := .int 4
def k16 : D := .tup [.str "", .str "i", .str "m", .str "s", .str "im", .str "is", .str "ms", .str "ims"]
def top (i : Nat) : Stmt := PySem.Challenge.pw_firstway_k24_errors_of_tokens.main.body.getD i (.Pass ⟨0, 0, 0, 0⟩)
def inCls (s : Stmt) (j : Nat) : Stmt := match s with
  | .ClassDef (body := b) .. => b.getD j (.Pass ⟨0, 0, 0, 0⟩)
  | _ => .Pass ⟨0, 0, 0, 0⟩
abbrev s1327 : Stmt := inCls (top 3) 0
def dd1327 : He.DefD := ⟨("PatternError", some "__init__"), "__init__", "PatternError.__init__", defArgs s1327, defBody s1327, defScope s1327, [], []⟩
abbrev s1 : Stmt := top 60
def dd1 : He.DefD := ⟨("_law_row", none), "_law_row", "_law_row", defArgs s1, defBody s1, defScope s1, [], []⟩
abbrev s2 : Stmt := top 61
def dd2 : He.DefD := ⟨("_law_digit", none), "_law_digit", "_law_digit", defArgs s2, defBody s2, defScope s2, [], []⟩
abbrev s139 : Stmt := top 63
def dd139 : He.DefD := ⟨("_law_ends", none), "_law_ends", "_law_ends", defArgs s139, defBody s139, defScope s139, [], []⟩
abbrev s140 : Stmt := top 64
def dd140 : He.DefD := ⟨("_law_in_classes", none), "_law_in_classes", "_law_in_classes", defArgs s140, defBody s140, defScope s140, [], []⟩
abbrev s141 : Stmt := top 62
def dd141 : He.DefD := ⟨("_law_pieces", none), "_law_pieces", "_law_pieces", defArgs s141, defBody s141, defScope s141, [], []⟩
abbrev s535 : Stmt := inCls (top 9) 0
def dd535 : He.DefD := ⟨("OpenBracket", some "__init__"), "__init__", "OpenBracket.__init__", defArgs s535, defBody s535, defScope s535, [], []⟩
abbrev s1189 : Stmt := inCls (top 10) 0
def dd1189 : He.DefD := ⟨("TreeBuilder", some "__init__"), "__init__", "TreeBuilder.__init__", defArgs s1189, defBody s1189, defScope s1189, [], []⟩
abbrev s1181 : Stmt := top 49
def dd1181 : He.DefD := ⟨("read_name", none), "read_name", "read_name", defArgs s1181, defBody s1181, defScope s1181, [], []⟩
abbrev s1193 : Stmt := top 50
def dd1193 : He.DefD := ⟨("read_bracket", none), "read_bracket", "read_bracket", defArgs s1193, defBody s1193, defScope s1193, [], []⟩
abbrev s1013 : Stmt := top 51
def dd1013 : He.DefD := ⟨("read_count", none), "read_count", "read_count", defArgs s1013, defBody s1013, defScope s1013, [], []⟩
abbrev s1347 : Stmt := top 52
def dd1347 : He.DefD := ⟨("read_counts", none), "read_counts", "read_counts", defArgs s1347, defBody s1347, defScope s1347, [], []⟩
abbrev s1194 : Stmt := top 53
def dd1194 : He.DefD := ⟨("read_repeat", none), "read_repeat", "read_repeat", defArgs s1194, defBody s1194, defScope s1194, [], []⟩
abbrev s95 : Stmt := top 47
def dd95 : He.DefD := ⟨("caret_or_dollar", none), "caret_or_dollar", "caret_or_dollar", defArgs s95, defBody s95, defScope s95, [], []⟩
abbrev s1183 : Stmt := top 36
def dd1183 : He.DefD := ⟨("operator_at", none), "operator_at", "operator_at", defArgs s1183, defBody s1183, defScope s1183, [], []⟩
abbrev s1184 : Stmt := top 32
def dd1184 : He.DefD := ⟨("hexadecimal", none), "hexadecimal", "hexadecimal", defArgs s1184, defBody s1184, defScope s1184, [], []⟩
abbrev s10 : Stmt := top 20
def dd10 : He.DefD := ⟨("complement", none), "complement", "complement", defArgs s10, defBody s10, defScope s10, [], []⟩
abbrev s1185 : Stmt := top 31
def dd1185 : He.DefD := ⟨("set_of", none), "set_of", "set_of", defArgs s1185, defBody s1185, defScope s1185, [], []⟩
abbrev s1186 : Stmt := top 30
def dd1186 : He.DefD := ⟨("is_sign", none), "is_sign", "is_sign", defArgs s1186, defBody s1186, defScope s1186, [], []⟩
abbrev s1015 : Stmt := top 33
def dd1015 : He.DefD := ⟨("read_escape", none), "read_escape", "read_escape", defArgs s1015, defBody s1015, defScope s1015, [], []⟩
abbrev s1187 : Stmt := top 37
def dd1187 : He.DefD := ⟨("read_item", none), "read_item", "read_item", defArgs s1187, defBody s1187, defScope s1187, [], []⟩
abbrev s1188 : Stmt := top 38
def dd1188 : He.DefD := ⟨("read_range_end", none), "read_range_end", "read_range_end", defArgs s1188, defBody s1188, defScope s1188, [], []⟩
abbrev s0 : Stmt := top 18
def dd0 : He.DefD := ⟨("make_set", none), "make_set", "make_set", defArgs s0, defBody s0, defScope s0, [], []⟩
abbrev s9 : Stmt := top 19
def dd9 : He.DefD := ⟨("common", none), "common", "common", defArgs s9, defBody s9, defScope s9, [], []⟩
abbrev s17 : Stmt := top 22
def dd17 : He.DefD := ⟨("shifted", none), "shifted", "shifted", defArgs s17, defBody s17, defScope s17, [], []⟩
abbrev s18 : Stmt := top 23
def dd18 : He.DefD := ⟨("folded", none), "folded", "folded", defArgs s18, defBody s18, defScope s18, [], []⟩
abbrev s1182 : Stmt := top 39
def dd1182 : He.DefD := ⟨("read_part", none), "read_part", "read_part", defArgs s1182, defBody s1182, defScope s1182, [], []⟩
abbrev s11 : Stmt := top 21
def dd11 : He.DefD := ⟨("without", none), "without", "without", defArgs s11, defBody s11, defScope s11, [], []⟩
abbrev s1014 : Stmt := top 40
def dd1014 : He.DefD := ⟨("read_class", none), "read_class", "read_class", defArgs s1014, defBody s1014, defScope s1014, [], []⟩
abbrev s98 : Stmt := top 46
def dd98 : He.DefD := ⟨("code_tree", none), "code_tree", "code_tree", defArgs s98, defBody s98, defScope s98, [], []⟩
abbrev s1195 : Stmt := top 48
def dd1195 : He.DefD := ⟨("read_element", none), "read_element", "read_element", defArgs s1195, defBody s1195, defScope s1195, [], []⟩
abbrev s1057 : Stmt := top 54
def dd1057 : He.DefD := ⟨("read_token", none), "read_token", "read_token", defArgs s1057, defBody s1057, defScope s1057, [], []⟩
abbrev s1190 : Stmt := top 55
def dd1190 : He.DefD := ⟨("tokens_of", none), "tokens_of", "tokens_of", defArgs s1190, defBody s1190, defScope s1190, [], []⟩
abbrev s1344 : Stmt := inCls (top 10) 2
def dd1344 : He.DefD := ⟨("TreeBuilder", some "enter"), "enter", "TreeBuilder.enter", defArgs s1344, defBody s1344, defScope s1344, [], []⟩
abbrev s1346 : Stmt := top 8
def dd1346 : He.DefD := ⟨("joined", none), "joined", "joined", defArgs s1346, defBody s1346, defScope s1346, [], []⟩
abbrev s1342 : Stmt := inCls (top 9) 1
def dd1342 : He.DefD := ⟨("OpenBracket", some "end_alternative"), "end_alternative", "OpenBracket.end_alternative", defArgs s1342, defBody s1342, defScope s1342, [], []⟩
abbrev s1343 : Stmt := inCls (top 9) 2
def dd1343 : He.DefD := ⟨("OpenBracket", some "content"), "content", "OpenBracket.content", defArgs s1343, defBody s1343, defScope s1343, [], []⟩
abbrev s1348 : Stmt := inCls (top 10) 3
def dd1348 : He.DefD := ⟨("TreeBuilder", some "leave"), "leave", "TreeBuilder.leave", defArgs s1348, defBody s1348, defScope s1348, [], []⟩
abbrev s1349 : Stmt := inCls (top 10) 4
def dd1349 : He.DefD := ⟨("TreeBuilder", some "repeat_last"), "repeat_last", "TreeBuilder.repeat_last", defArgs s1349, defBody s1349, defScope s1349, [], []⟩
abbrev s1191 : Stmt := inCls (top 10) 1
def dd1191 : He.DefD := ⟨("TreeBuilder", some "take"), "take", "TreeBuilder.take", defArgs s1191, defBody s1191, defScope s1191, [], []⟩
abbrev s1192 : Stmt := inCls (top 10) 5
def dd1192 : He.DefD := ⟨("TreeBuilder", some "whole_tree"), "whole_tree", "TreeBuilder.whole_tree", defArgs s1192, defBody s1192, defScope s1192, [], []⟩
abbrev s1056 : Stmt := top 58
def dd1056 : He.DefD := ⟨("read_pattern", none), "read_pattern", "read_pattern", defArgs s1056, defBody s1056, defScope s1056, [], []⟩
abbrev s1565 : Stmt := top 65
def dd1565 : He.DefD := ⟨("_law_error", none), "_law_error", "_law_error", defArgs s1565, defBody s1565, defScope s1565, [], []⟩
abbrev s143 : Stmt := top 66
def dd143 : He.DefD := ⟨("_law_mended", none), "_law_mended", "_law_mended", defArgs s143, defBody s143, defScope s143, [], []⟩
abbrev s1354 : Stmt := top 67
def dd1354 : He.DefD := ⟨("law", none), "law", "law", defArgs s1354, defBody s1354, defScope s1354, [], []⟩
def fnL : List He.DefD := [dd1, dd2, dd139, dd140, dd141, dd535, dd1189, dd1181, dd1193, dd1013, dd1347, dd1194, dd95, dd1183, dd1184, dd10, dd1185, dd1186, dd1015, dd1187, dd1188, dd0, dd9, dd17, dd18, dd1182, dd11, dd1014, dd98, dd1195, dd1057, dd1190, dd1344, dd1346, dd1342, dd1343, dd1348, dd1349, dd1191, dd1192, dd1056, dd1565, dd143, dd1354, dd1327]
def faL : List He.Fa := [(He.Fa.glo "_law_row"), (He.Fa.glo "_law_digit"), (He.Fa.glo "_law_ends"), (He.Fa.glo "_law_in_classes"), (He.Fa.glo "_law_pieces"), (He.Fa.glo "read_name"), (He.Fa.glo "read_bracket"), (He.Fa.glo "read_count"), (He.Fa.glo "read_counts"), (He.Fa.glo "read_repeat"), (He.Fa.glo "caret_or_dollar"), (He.Fa.glo "operator_at"), (He.Fa.glo "hexadecimal"), (He.Fa.glo "complement"), (He.Fa.glo "set_of"), (He.Fa.glo "is_sign"), (He.Fa.glo "read_escape"), (He.Fa.glo "read_item"), (He.Fa.glo "read_range_end"), (He.Fa.glo "make_set"), (He.Fa.glo "common"), (He.Fa.glo "shifted"), (He.Fa.glo "folded"), (He.Fa.glo "read_part"), (He.Fa.glo "without"), (He.Fa.glo "read_class"), (He.Fa.glo "code_tree"), (He.Fa.glo "read_element"), (He.Fa.glo "read_token"), (He.Fa.glo "tokens_of"), (He.Fa.glo "joined"), (He.Fa.glo "read_pattern"), (He.Fa.glo "_law_error"), (He.Fa.glo "_law_mended"), (He.Fa.glo "law"), (He.Fa.meth "OpenBracket" "end_alternative"), (He.Fa.meth "OpenBracket" "content"), (He.Fa.meth "TreeBuilder" "enter"), (He.Fa.meth "TreeBuilder" "leave"), (He.Fa.meth "TreeBuilder" "repeat_last"), (He.Fa.meth "TreeBuilder" "take"), (He.Fa.meth "TreeBuilder" "whole_tree"), (He.Fa.glo "OpenBracket"), (He.Fa.glo "TreeBuilder"), (He.Fa.cls "OpenBracket"), (He.Fa.cls "TreeBuilder"), (He.Fa.noat "OpenBracket" "token"), (He.Fa.noat "OpenBracket" "number"), (He.Fa.noat "OpenBracket" "alternatives"), (He.Fa.noat "OpenBracket" "members"), (He.Fa.noat "TreeBuilder" "brackets"), (He.Fa.noat "TreeBuilder" "group_names"), (He.Fa.noat "TreeBuilder" "look_count"), (He.Fa.mkr "OpenBracket"), (He.Fa.mkr "TreeBuilder"), (He.Fa.glo "FirstwayError"), (He.Fa.glo "FlagsError"), (He.Fa.glo "PatternError"), (He.Fa.glo "ANCHORS"), (He.Fa.free "len"), (He.Fa.free "int"), (He.Fa.free "tuple"), (He.Fa.free "ord"), (He.Fa.free "sorted"), (He.Fa.free "max"), (He.Fa.free "min"), (He.Fa.free "list"), (He.Fa.free "isinstance"), (He.Fa.free "ValueError"), (He.Fa.free "bool"), (He.Fa.free "str"), (He.Fa.free "range"), (He.Fa.str "LETTERS" "ABCDEFGHIJKLMNOPQRSTUVWXYZabcdefghijklmnopqrstuvwxyz"), (He.Fa.int "NAME_LENGTH" 20), (He.Fa.str "NAME_SIGNS" "ABCDEFGHIJKLMNOPQRSTUVWXYZabcdefghijklmnopqrstuvwxyz_0123456789"), (He.Fa.str "FIGURES" "0123456789"), (He.Fa.int "MOST_COUNT" 50), (He.Fa.str "HEXADECIMAL" "0123456789abcdef"), (He.Fa.int "LIMIT" 128), (He.Fa.str "OCTAL" "01234567"), (He.Fa.int "CLASS_DEPTH" 4), (He.Fa.int "BRACKET_DEPTH" 8), (He.Fa.int "MOST_WEIGHT" 100), (He.Fa.int "MOST_LOOKS" 4)]
abbrev rowL : PySem.W.OpenRow := PySem.W.OpenLaw.row PySem.Challenge.rw_firstway_k24_errors_of_tokens
def csL : List (Str × D) := [(("OPENERS", k13) : Str × D), (("WORD", k4) : Str × D), (("WHITE", k3) : Str × D), (("DIGITS", k5) : Str × D), (("EVERY", k6) : Str × D), (("IN_LINE", k1) : Str × D), (("FLAG_TEXTS", k16) : Str × D), (("FirstwayError", D.exc 0 none "s" ["FirstwayError", "FlagsError", "PatternError"] []) : Str × D), (("FlagsError", D.exc 0 none "s" ["FirstwayError", "FlagsError", "PatternError"] []) : Str × D), (("PatternError", D.exc 0 none "s" ["FirstwayError", "FlagsError", "PatternError"] []) : Str × D), (("FlagsError", D.exc 0 none "r" [] []) : Str × D), (("PatternError", D.exc 0 none "i" [] []) : Str × D), (("PatternError", D.exc 0 none "f" ["column"] []) : Str × D), (("PatternError", D.exc 0 none "f" ["expected"] []) : Str × D)]
def tsL : List He.Tab := [tabL "ANCHORS" [("A", "text_start"), ("z", "text_end"), ("b", "word_boundary"), ("B", "no_word_boundary")]]
def exL (K : PySem.W.Frag) : Bool := csL.all (cstB K) && He.valsB K (He.ga K "ANCHORS") (tabO [("A", "text_start"), ("z", "text_end"), ("b", "word_boundary"), ("B", "no_word_boundary")])
abbrev hkL : PySem.W.Hook := He.hookX 6 faL fnL tsL [] exL
def obL (s : PySem.W.SharedT) : He.AlX := He.obsX 6 faL fnL tsL [] exL (HandSHeadRun.getT s)
theorem obL_eq (s : PySem.W.SharedT) : obL s = hkL.obs s.abs := He.obsX_eq (HandSHeadRun.getT_eq s)
section
open HandSHeadRun PySem PySem.W PySem.Calls PyProof.Rows
theorem opt_two {σ α β γ : Type} {o : Option σ} {f1 : σ → α} {f2 : σ → β} {g : σ → γ} {a : α} {b : β} {c : γ} (h1 : o.map (fun s => (f1 s, f2 s)) = some (a, b)) (h2 : o.map g = some c) : o.map (fun s => (f1 s, f2 s, g s)) = some (a, b, c) := by
  cases o with
  | none => cases h1
  | some s =>
    have e1 : (f1 s, f2 s) = (a, b) := by injection h1
    have e2 : g s = c := by injection h2
    have e3 : f1 s = a := congrArg Prod.fst e1
    have e4 : f2 s = b := congrArg Prod.snd e1
    show some (f1 s, f2 s, g s) = _
    rw [e3, e4, e2]
/-- .. of the wider hook -/
theorem obsX_app {n : Nat} {fa : List He.Fa} {fn1 fn2 : List He.DefD} {ts : List He.Tab} {tf : List He.Defn} {ex : PySem.W.Frag → Bool} {g : Addr → Option Obj} : He.obsX n fa (fn1 ++ fn2) ts tf ex g = ((((He.obsX n fa fn1 ts tf ex g).1.1.1 && (He.obsX n [] fn2 [] [] (fun _ => true) g).1.1.1, (He.obsX n fa fn1 ts tf ex g).1.1.2 ++ (He.obsX n [] fn2 [] [] (fun _ => true) g).1.1.2), (He.obsX n fa fn1 ts tf ex g).1.2), (He.obsX n fa fn1 ts tf ex g).2) := by
  unfold He.obsX He.obsT He.obsD
  refine Prod.ext (Prod.ext (Prod.ext ?_ ?_) rfl) rfl
  · dsimp only
    rw [List.all_append, List.all_nil, Bool.true_and]
    generalize (fa.all _) = x
    generalize (fn1.all _) = y
    generalize (fn2.all _) = z
    cases x <;> cases y <;> cases z <;> rfl
  · dsimp only
    rw [List.map_append]
theorem run_appX {σ : Type} {o : Option σ} {g : σ → Addr → Option Obj} {n : Nat} {fa : List He.Fa} {fn1 fn2 : List He.DefD} {ts : List He.Tab} {tf : List He.Defn} {ex : PySem.W.Frag → Bool} {w : World} (h1 : o.map (fun s => He.obsX n fa fn1 ts tf ex (g s)) = some (He.valX fn1 ts w)) (h2 : o.map (fun s => He.obsX n [] fn2 [] [] (fun _ => true) (g s)) = some (He.valX fn2 [] w)) : o.map (fun s => He.obsX n fa (fn1 ++ fn2) ts tf ex (g s)) = some (He.valX (fn1 ++ fn2) ts w) := by
  cases o with
  | none => cases h1
  | some s =>
    have e1 : He.obsX n fa fn1 ts tf ex (g s) = He.valX fn1 ts w := by injection h1
    have e2 : He.obsX n [] fn2 [] [] (fun _ => true) (g s) = He.valX fn2 [] w := by injection h2
    show some (He.obsX n fa (fn1 ++ fn2) ts tf ex (g s)) = _
    rw [obsX_app, e1, e2]
    unfold He.valX He.valT He.valD
    rw [List.map_append]; rfl
end
abbrev nmL : List PySem.Str := [("FirstwayError" : PySem.Str), ("FlagsError" : PySem.Str), ("PatternError" : PySem.Str), ("MOST_WEIGHT" : PySem.Str), ("MOST_LOOKS" : PySem.Str), ("BRACKET_DEPTH" : PySem.Str), ("joined" : PySem.Str), ("OpenBracket" : PySem.Str), ("TreeBuilder" : PySem.Str), ("EVERY" : PySem.Str), ("DIGITS" : PySem.Str), ("WORD" : PySem.Str), ("WHITE" : PySem.Str), ("IN_LINE" : PySem.Str), ("LIMIT" : PySem.Str), ("make_set" : PySem.Str), ("common" : PySem.Str), ("complement" : PySem.Str), ("without" : PySem.Str), ("shifted" : PySem.Str), ("folded" : PySem.Str), ("LETTERS" : PySem.Str), ("FIGURES" : PySem.Str), ("OCTAL" : PySem.Str), ("HEXADECIMAL" : PySem.Str), ("ANCHORS" : PySem.Str), ("is_sign" : PySem.Str), ("set_of" : PySem.Str), ("hexadecimal" : PySem.Str), ("read_escape" : PySem.Str), ("CLASS_DEPTH" : PySem.Str), ("operator_at" : PySem.Str), ("read_item" : PySem.Str), ("read_range_end" : PySem.Str), ("read_part" : PySem.Str), ("read_class" : PySem.Str), ("MOST_COUNT" : PySem.Str), ("NAME_LENGTH" : PySem.Str), ("NAME_SIGNS" : PySem.Str), ("OPENERS" : PySem.Str), ("code_tree" : PySem.Str), ("caret_or_dollar" : PySem.Str), ("read_element" : PySem.Str), ("read_name" : PySem.Str), ("read_bracket" : PySem.Str), ("read_count" : PySem.Str), ("read_counts" : PySem.Str), ("read_repeat" : PySem.Str), ("read_token" : PySem.Str), ("tokens_of" : PySem.Str), ("FLAG_TEXTS" : PySem.Str), ("read_pattern" : PySem.Str), ("_law_row" : PySem.Str), ("_law_digit" : PySem.Str), ("_law_pieces" : PySem.Str), ("_law_ends" : PySem.Str), ("_law_in_classes" : PySem.Str), ("_law_error" : PySem.Str), ("_law_mended" : PySem.Str)]
def fnL0 : List He.DefD := [dd1, dd2, dd139, dd140, dd141, dd535, dd1189, dd1181, dd1193, dd1013, dd1347, dd1194, dd95, dd1183, dd1184]
def fnL1 : List He.DefD := [dd10, dd1185, dd1186, dd1015, dd1187, dd1188, dd0, dd9, dd17, dd18, dd1182, dd11, dd1014, dd98, dd1195]
def fnL2 : List He.DefD := [dd1057, dd1190, dd1344, dd1346, dd1342, dd1343, dd1348, dd1349, dd1191, dd1192, dd1056, dd1565, dd143, dd1354, dd1327]
theorem fnL_parts : fnL = ((fnL0 ++ fnL1) ++ fnL2) := by
  simp only [fnL, fnL0, fnL1, fnL2, List.cons_append, List.nil_append]
theorem obL_parts : obL = fun s => He.obsX 6 faL ((fnL0 ++ fnL1) ++ fnL2) tsL [] exL (HandSHeadRun.getT s) := by
  funext s
  unfold obL
  rw [fnL_parts]
theorem val_parts (w : World) : hkL.val w = He.valX ((fnL0 ++ fnL1) ++ fnL2) tsL w := by
  show He.valX fnL tsL w = _
  rw [fnL_parts]
open HandSHeadRun PySem PySem.W PySem.Calls PyProof.Rows in
theorem runAfalse (w : World) (os : PySem.OsState) : (endF (stepQ (denQ tabQ) rowL.prog (wB w false)) 20000 rowL.prog (wB w false) os).map (fun s => (looksF rowL.prog (boot_heap (wB w false).params) s.abs, seenQ (PySem.W.view rowL.prog [67]) nmL (importedModules rowL.prog.main.body) (fun s => xlAt (PySem.W.view rowL.prog [67]) [] s && recOk rowL.toRowW.records s) s.abs)) = some (true, openGood (PySem.W.view rowL.prog [67]) nmL) := by
  kernel_rfl
open HandSHeadRun PySem PySem.W PySem.Calls PyProof.Rows in
theorem runB0false (w : World) (os : PySem.OsState) : (endF (stepQ (denQ tabQ) rowL.prog (wB w false)) 20000 rowL.prog (wB w false) os).map (fun s => He.obsX 6 faL fnL0 tsL [] exL (HandSHeadRun.getT s)) = some (He.valX fnL0 tsL (wB w false)) := by
  kernel_rfl
open HandSHeadRun PySem PySem.W PySem.Calls PyProof.Rows in
theorem runB1false (w : World) (os : PySem.OsState) : (endF (stepQ (denQ tabQ) rowL.prog (wB w false)) 20000 rowL.prog (wB w false) os).map (fun s => He.obsX 6 [] fnL1 [] [] (fun _ => true) (HandSHeadRun.getT s)) = some (He.valX fnL1 [] (wB w false)) := by
  kernel_rfl
open HandSHeadRun PySem PySem.W PySem.Calls PyProof.Rows in
theorem runB2false (w : World) (os : PySem.OsState) : (endF (stepQ (denQ tabQ) rowL.prog (wB w false)) 20000 rowL.prog (wB w false) os).map (fun s => He.obsX 6 [] fnL2 [] [] (fun _ => true) (HandSHeadRun.getT s)) = some (He.valX fnL2 [] (wB w false)) := by
  kernel_rfl
open HandSHeadRun PySem PySem.W PySem.Calls PyProof.Rows in
theorem runXfalse (w : World) (os : PySem.OsState) : (endF (stepQ (denQ tabQ) rowL.prog (wB w false)) 20000 rowL.prog (wB w false) os).map obL = some (hkL.val (wB w false)) := by
  have h := run_appX (run_appX (runB0false w os) (runB1false w os)) (runB2false w os)
  rw [val_parts, obL_parts]
  exact h
open HandSHeadRun PySem PySem.W PySem.Calls PyProof.Rows in
theorem runAtrue (w : World) (os : PySem.OsState) : (endF (stepQ (denQ tabQ) rowL.prog (wB w true)) 20000 rowL.prog (wB w true) os).map (fun s => (looksF rowL.prog (boot_heap (wB w true).params) s.abs, seenQ (PySem.W.view rowL.prog [67]) nmL (importedModules rowL.prog.main.body) (fun s => xlAt (PySem.W.view rowL.prog [67]) [] s && recOk rowL.toRowW.records s) s.abs)) = some (true, openGood (PySem.W.view rowL.prog [67]) nmL) := by
  kernel_rfl
open HandSHeadRun PySem PySem.W PySem.Calls PyProof.Rows in
theorem runB0true (w : World) (os : PySem.OsState) : (endF (stepQ (denQ tabQ) rowL.prog (wB w true)) 20000 rowL.prog (wB w true) os).map (fun s => He.obsX 6 faL fnL0 tsL [] exL (HandSHeadRun.getT s)) = some (He.valX fnL0 tsL (wB w true)) := by
  kernel_rfl
open HandSHeadRun PySem PySem.W PySem.Calls PyProof.Rows in
theorem runB1true (w : World) (os : PySem.OsState) : (endF (stepQ (denQ tabQ) rowL.prog (wB w true)) 20000 rowL.prog (wB w true) os).map (fun s => He.obsX 6 [] fnL1 [] [] (fun _ => true) (HandSHeadRun.getT s)) = some (He.valX fnL1 [] (wB w true)) := by
  kernel_rfl
open HandSHeadRun PySem PySem.W PySem.Calls PyProof.Rows in
theorem runB2true (w : World) (os : PySem.OsState) : (endF (stepQ (denQ tabQ) rowL.prog (wB w true)) 20000 rowL.prog (wB w true) os).map (fun s => He.obsX 6 [] fnL2 [] [] (fun _ => true) (HandSHeadRun.getT s)) = some (He.valX fnL2 [] (wB w true)) := by
  kernel_rfl
open HandSHeadRun PySem PySem.W PySem.Calls PyProof.Rows in
theorem runXtrue (w : World) (os : PySem.OsState) : (endF (stepQ (denQ tabQ) rowL.prog (wB w true)) 20000 rowL.prog (wB w true) os).map obL = some (hkL.val (wB w true)) := by
  have h := run_appX (run_appX (runB0true w os) (runB1true w os)) (runB2true w os)
  rw [val_parts, obL_parts]
  exact h
theorem runW (w : World) (b : Bool) : HandSHeadRun.RunEq rowL (PySem.W.view rowL.prog [67]) hkL obL 20000 nmL (wB w b) := by
  cases b
  · intro os
    exact opt_two (runAfalse w os) (runXfalse w os)
  · intro os
    exact opt_two (runAtrue w os) (runXtrue w os)
theorem runL (w : World) : HandSHeadRun.RunEq rowL (PySem.W.view rowL.prog [67]) hkL obL 20000 [("FirstwayError" : PySem.Str), ("FlagsError" : PySem.Str), ("PatternError" : PySem.Str), ("MOST_WEIGHT" : PySem.Str), ("MOST_LOOKS" : PySem.Str), ("BRACKET_DEPTH" : PySem.Str), ("joined" : PySem.Str), ("OpenBracket" : PySem.Str), ("TreeBuilder" : PySem.Str), ("EVERY" : PySem.Str), ("DIGITS" : PySem.Str), ("WORD" : PySem.Str), ("WHITE" : PySem.Str), ("IN_LINE" : PySem.Str), ("LIMIT" : PySem.Str), ("make_set" : PySem.Str), ("common" : PySem.Str), ("complement" : PySem.Str), ("without" : PySem.Str), ("shifted" : PySem.Str), ("folded" : PySem.Str), ("LETTERS" : PySem.Str), ("FIGURES" : PySem.Str), ("OCTAL" : PySem.Str), ("HEXADECIMAL" : PySem.Str), ("ANCHORS" : PySem.Str), ("is_sign" : PySem.Str), ("set_of" : PySem.Str), ("hexadecimal" : PySem.Str), ("read_escape" : PySem.Str), ("CLASS_DEPTH" : PySem.Str), ("operator_at" : PySem.Str), ("read_item" : PySem.Str), ("read_range_end" : PySem.Str), ("read_part" : PySem.Str), ("read_class" : PySem.Str), ("MOST_COUNT" : PySem.Str), ("NAME_LENGTH" : PySem.Str), ("NAME_SIGNS" : PySem.Str), ("OPENERS" : PySem.Str), ("code_tree" : PySem.Str), ("caret_or_dollar" : PySem.Str), ("read_element" : PySem.Str), ("read_name" : PySem.Str), ("read_bracket" : PySem.Str), ("read_count" : PySem.Str), ("read_counts" : PySem.Str), ("read_repeat" : PySem.Str), ("read_token" : PySem.Str), ("tokens_of" : PySem.Str), ("FLAG_TEXTS" : PySem.Str), ("read_pattern" : PySem.Str), ("_law_row" : PySem.Str), ("_law_digit" : PySem.Str), ("_law_pieces" : PySem.Str), ("_law_ends" : PySem.Str), ("_law_in_classes" : PySem.Str), ("_law_error" : PySem.Str), ("_law_mended" : PySem.Str)] w := by
  have h := runW w (w.params.followText "special-get-raises")
  rw [wB_eq] at h
  exact h
def pr (p : Int × Int) : D := .tup [.int p.1, .int p.2]
theorem pr_eq (p : Int × Int) : pr p = .tup [.int p.1, .int p.2] := rfl
def inP (ps : List (Int × Int)) (x : Int) : Bool := ps.any fun p => decide (p.1 ≤ x ∧ x < p.2)
theorem inP_nil {x : Int} : inP [] x = false := rfl
theorem inP_iff {ps : List (Int × Int)} {x : Int} : inP ps x = true ↔ ∃ p ∈ ps, p.1 ≤ x ∧ x < p.2 := by
  unfold inP
  rw [List.any_eq_true]
  constructor
  · rintro ⟨p, h1, h2⟩; exact ⟨p, h1, of_decide_eq_true h2⟩
  · rintro ⟨p, h1, h2⟩; exact ⟨p, h1, decide_eq_true h2⟩
theorem inP_cons {p : Int × Int} {ps : List (Int × Int)} {x : Int} : inP (p :: ps) x = true ↔ (p.1 ≤ x ∧ x < p.2) ∨ inP ps x = true := by
  rw [inP_iff, inP_iff]
  constructor
  · rintro ⟨q, h1, h2⟩
    rcases List.mem_cons.mp h1 with rfl | h
    · exact .inl h2
    · exact .inr ⟨q, h, h2⟩
  · rintro (h | ⟨q, h1, h2⟩)
    · exact ⟨p, List.mem_cons_self, h⟩
    · exact ⟨q, List.mem_cons_of_mem _ h1, h2⟩
theorem inP_append {ps qs : List (Int × Int)} {x : Int} : inP (ps ++ qs) x = true ↔ inP ps x = true ∨ inP qs x = true := by
  unfold inP
  rw [List.any_append, Bool.or_eq_true]
theorem inP_one {p : Int × Int} {x : Int} : inP [p] x = true ↔ p.1 ≤ x ∧ x < p.2 := by
  rw [inP_cons, inP_nil]; simp
/-- the one form -/
def Canon : List (Int × Int) → Prop
  | [] => True
  | p :: L => p.1 < p.2 ∧ (∀ q ∈ L, p.2 < q.1) ∧ Canon L
theorem Canon.lt : ∀ {L : List (Int × Int)}, Canon L → ∀ p ∈ L, p.1 < p.2
  | p :: L, h, q, hq => by
    rcases List.mem_cons.mp hq with rfl | hq
    · exact h.1
    · exact h.2.2.lt q hq
theorem Canon.snoc : ∀ {L : List (Int × Int)} {p : Int × Int}, Canon L → p.1 < p.2 → (∀ q ∈ L, q.2 < p.1) → Canon (L ++ [p])
  | [], p, _, h, _ => ⟨h, fun _ hq => by simp at hq, trivial⟩
  | r :: L, p, hc, h, hl => ⟨hc.1, fun q hq => by
      rcases List.mem_append.mp hq with hq | hq
      · exact hc.2.1 q hq
      · rw [List.mem_singleton.mp hq]; exact hl r List.mem_cons_self, Canon.snoc hc.2.2 h fun q hq => hl q (List.mem_cons_of_mem _ hq)⟩
theorem Canon.init : ∀ {L : List (Int × Int)} {p : Int × Int}, Canon (L ++ [p]) → Canon L ∧ p.1 < p.2 ∧ ∀ q ∈ L, q.2 < p.1
  | [], p, h => ⟨trivial, h.1, fun _ hq => by cases hq⟩
  | r :: L, p, h => by
    obtain ⟨h1, h2, h3⟩ := Canon.init (L := L) h.2.2
    refine ⟨⟨h.1, fun q hq => h.2.1 q (List.mem_append_left _ hq), h1⟩, h2, fun q hq => ?_⟩
    rcases List.mem_cons.mp hq with rfl | hq
    · exact h.2.1 p (List.mem_append_right _ List.mem_cons_self)
    · exact h3 q hq
theorem canon_eq : ∀ {L1 L2 : List (Int × Int)}, Canon L1 → Canon L2 → (∀ x, inP L1 x = inP L2 x) → L1 = L2
  | [], [], _, _, _ => rfl
  | [], q :: L2, _, h2, h => by
    have z := h q.1
    rw [inP_nil, eq_comm] at z
    have : inP (q :: L2) q.1 = true := inP_cons.mpr (.inl ⟨Int.le_refl _, h2.1⟩)
    rw [z] at this; cases this
  | p :: L1, [], h1, _, h => by
    have z := h p.1
    rw [inP_nil] at z
    have : inP (p :: L1) p.1 = true := inP_cons.mpr (.inl ⟨Int.le_refl _, h1.1⟩)
    rw [z] at this; cases this
  | (a, b) :: L1, (c, d) :: L2, h1, h2, h => by
    have low : ∀ {e f : Int} {L : List (Int × Int)}, Canon ((e, f) :: L) → ∀ x, inP ((e, f) :: L) x = true → e ≤ x ∧ (x < f ∨ f < x ∧ inP L x = true) := by
      intro e f L hc x hx
      have hc1 : e < f := hc.1
      rcases inP_cons.mp hx with ⟨h3, h4⟩ | h3
      · exact ⟨h3, .inl h4⟩
      · obtain ⟨q, hq, h4, h5⟩ := inP_iff.mp h3
        have : f < q.1 := hc.2.1 q hq
        exact ⟨by omega, .inr ⟨by omega, h3⟩⟩
    have c1 : a < b := h1.1
    have c2 : c < d := h2.1
    have i1 : inP ((a, b) :: L1) a = true := inP_cons.mpr (.inl ⟨Int.le_refl _, c1⟩)
    have i2 : inP ((c, d) :: L2) c = true := inP_cons.mpr (.inl ⟨Int.le_refl _, c2⟩)
    have e1 : c ≤ a := (low h2 a (by rw [← h]; exact i1)).1
    have e2 : a ≤ c := (low h1 c (by rw [h]; exact i2)).1
    have e3 : a = c := by omega
    subst e3
    have e4 : b = d := by
      rcases Int.lt_trichotomy b d with z | z | z
      · have : inP ((a, d) :: L2) b = true := inP_cons.mpr (.inl ⟨by show a ≤ b; omega, z⟩)
        rw [← h] at this
        rcases (low h1 b this).2 with q | q <;> omega
      · exact z
      · have : inP ((a, b) :: L1) d = true := inP_cons.mpr (.inl ⟨by show a ≤ d; omega, z⟩)
        rw [h] at this
        rcases (low h2 d this).2 with q | q <;> omega
    subst e4
    have e5 : L1 = L2 := canon_eq h1.2.2 h2.2.2 fun x => by
      rw [Bool.eq_iff_iff]
      constructor
      · intro hx
        have : inP ((a, b) :: L2) x = true := by rw [← h]; exact inP_cons.mpr (.inr hx)
        obtain ⟨q, hq, h4, h5⟩ := inP_iff.mp hx
        have : b < q.1 := h1.2.1 q hq
        rcases (low h2 x (by assumption)).2 with z | z
        · omega
        · exact z.2
      · intro hx
        have : inP ((a, b) :: L1) x = true := by rw [h]; exact inP_cons.mpr (.inr hx)
        obtain ⟨q, hq, h4, h5⟩ := inP_iff.mp hx
        have : b < q.1 := h2.2.1 q hq
        rcases (low h1 x (by assumption)).2 with z | z
        · omega
        · exact z.2
    rw [e5]
/-- pairs sorted -/
theorem sort_pairs (ps : List (Int × Int)) : SortOk (ps.map pr) ∧ ∃ qs : List (Int × Int), sortD (ps.map pr) = qs.map pr ∧ qs.Perm ps ∧ qs.Pairwise fun p q => p.1 < q.1 ∨ p.1 = q.1 ∧ p.2 ≤ q.2 := by
  have e : ∀ p : Int × Int, pyG (pr p) = .tuple [.int p.1, .int p.2] := fun p => rfl
  have em : (ps.map pr).map pyG = ps.map fun p => PyData.tuple [.int p.1, .int p.2] := by
    rw [List.map_map]; rfl
  refine ⟨⟨fun d hd => ?_, ?_, ?_, fun d hd => ?_⟩, ps.mergeSort (PySem.W.dataLe false fun p : Int × Int => .tuple [.int p.1, .int p.2]), ?_, List.mergeSort_perm _ _, ?_⟩
  · obtain ⟨p, _, rfl⟩ := List.mem_map.mp hd; rfl
  · rw [em]; exact PySem.W.AllAlike.of fun _ _ => rfl
  · rw [em]; exact PySem.W.Sortable.tuples fun b => ⟨_, _, rfl⟩
  · obtain ⟨p, _, rfl⟩ := List.mem_map.mp hd
    rw [e]
    simp [PyData.depth, PyData.depthAll]
  · unfold sortD
    exact (List.map_mergeSort (f := pr) (fun a _ b _ => rfl)).symm
  · rw [PySem.W.dataLe_ii]
    have := List.pairwise_mergeSort (le := fun p q : Int × Int => decide (p.1 < q.1 ∨ (p.1 = q.1 ∧ p.2 ≤ q.2))) (fun a b c h1 h2 => by
      have h1 := of_decide_eq_true h1
      have h2 := of_decide_eq_true h2
      exact decide_eq_true (by omega)) (fun a b => by
      rw [Bool.or_eq_true]
      rcases Decidable.em (a.1 < b.1 ∨ a.1 = b.1 ∧ a.2 ≤ b.2) with h | h
      · exact .inl (decide_eq_true h)
      · exact .inr (decide_eq_true (by omega))) ps
    exact this.imp fun h => of_decide_eq_true h
theorem noRefs_pr (L : List (Int × Int)) : noRefs (L.map pr) = true := noRefs_map fun _ _ => rfl
theorem snoc_cases {α : Type} (xs : List α) : xs = [] ∨ ∃ ys y, xs = ys ++ [y] := by
  rcases List.eq_nil_or_concat xs with h | ⟨ys, y, h⟩
  · exact .inl h
  · exact .inr ⟨ys, y, by rw [h, List.concat_eq_append]⟩
theorem canon_len : ∀ {L : List (Int × Int)} {lo hi : Int}, Canon L → (∀ x, inP L x = true → lo ≤ x ∧ x < hi) → L = [] ∨ 2 * (L.length : Int) ≤ hi - lo + 1
  | [], _, _, _, _ => .inl rfl
  | p :: L, lo, hi, h, hx => by
    have h1 := h.1
    have a := hx p.1 (inP_cons.mpr (.inl ⟨Int.le_refl _, h1⟩))
    have b := hx (p.2 - 1) (inP_cons.mpr (.inl ⟨by omega, by omega⟩))
    right
    rcases canon_len (L := L) (lo := p.2 + 1) (hi := hi) h.2.2 (fun x hxL => by
      obtain ⟨q, hq, h2, h3⟩ := inP_iff.mp hxL
      have := h.2.1 q hq
      have := hx x (inP_cons.mpr (.inr hxL))
      omega) with rfl | z
    · show 2 * ((0 + 1 : Nat) : Int) ≤ _
      omega
    · rw [List.length_cons]
      push_cast
      omega
theorem canon_64 {L : List (Int × Int)} (h : Canon L) (hx : ∀ x, inP L x = true → 0 ≤ x ∧ x < 128) : L.length ≤ 64 := by
  rcases canon_len h hx with rfl | z
  · simp
  · omega
def c3_9 : CSs := .cons (.ret (.cmp .isN (.var 0) .non)) .nil
def c3_10 : CSs := .cons (.ret (.and (.blt (.isi "bool") (.cons (.var 0) .nil)) (.cmp .eq (.var 0) (.var 1)))) .nil
def c3_11 : CSs := .cons (.ret (.and (.blt (.isi "int") (.cons (.var 0) .nil)) (.and (.not (.blt (.isi "bool") (.cons (.var 0) .nil))) (.cmp .eq (.var 0) (.var 1))))) .nil
def c3_12 : CSs := .cons (.ret (.and (.blt (.isi "str") (.cons (.var 0) .nil)) (.cmp .eq (.var 0) (.var 1)))) .nil
def c3_13 : CSs := .cons (.ret (.bl false)) .nil
def c3_14 : CSs := .cons (.ret (.bl false)) .nil
def c3_15 : CSs := .cons (.ret (.bl false)) .nil
def c3_17 : CSs := .cons (.ret (.bl false)) .nil
def c3_16 : CSs := .cons (.ifs (.not (.call 3 (.cons (.idx (.var 0) (.var 2)) (.cons (.idx (.var 1) (.var 2)) .nil)))) c3_17 .nil) .nil
def c3_8 : CSs := .cons (.ret (.bl true)) .nil
def c3_7 : CSs := .cons (.fors (.nm 2) (.rng1 (.blt .len (.cons (.var 1) .nil))) c3_16) c3_8
def c3_6 : CSs := .cons (.ifs (.cmp .ne (.blt .len (.cons (.var 0) .nil)) (.blt .len (.cons (.var 1) .nil))) c3_15 .nil) c3_7
def c3_5 : CSs := .cons (.ifs (.and (.blt (.isi "list") (.cons (.var 1) .nil)) (.not (.blt (.isi "list") (.cons (.var 0) .nil)))) c3_14 .nil) c3_6
def c3_4 : CSs := .cons (.ifs (.and (.blt (.isi "tuple") (.cons (.var 1) .nil)) (.not (.blt (.isi "tuple") (.cons (.var 0) .nil)))) c3_13 .nil) c3_5
def c3_3 : CSs := .cons (.ifs (.blt (.isi "str") (.cons (.var 1) .nil)) c3_12 .nil) c3_4
def c3_2 : CSs := .cons (.ifs (.blt (.isi "int") (.cons (.var 1) .nil)) c3_11 .nil) c3_3
def c3_1 : CSs := .cons (.ifs (.blt (.isi "bool") (.cons (.var 1) .nil)) c3_10 .nil) c3_2
def c3 : CSs := .cons (.ifs (.cmp .isN (.var 1) .non) c3_9 .nil) c3_1
/-- the same, n deep at most -/
def Eqv (M : Md) : Nat → D → D → Prop
  | 0, _, _ => False
  | n + 1, a, e => (a = .non ∧ e = .non) ∨ (∃ b, a = .bl b ∧ e = .bl b) ∨ (∃ i, a = .int i ∧ e = .int i) ∨ (∃ s : Str, s.length ≤ sizeLine ∧ a = .str s ∧ e = .str s) ∨
    (∃ xs ys, a = .tup xs ∧ e = .tup ys ∧ xs.length = ys.length ∧ ys.length < 2 ^ 62 ∧ ∀ (i : Nat) x y, xs[i]? = some x → ys[i]? = some y → Eqv M n x y) ∨
    (∃ xs ys, lstOf a M = some xs ∧ lstOf e M = some ys ∧ xs.length = ys.length ∧ ys.length < 2 ^ 62 ∧ ∀ (i : Nat) x y, xs[i]? = some x → ys[i]? = some y → Eqv M n x y)
def sp3 (n : Nat) : SpD := fun ds M Q _ => ∃ a e, ds = [a, e] ∧ Eqv M n a e ∧ Q (.bl true) M
theorem z3 : ∀ ds M Q E, sp3 0 ds M Q E → False := by
  rintro _ _ _ _ ⟨_, _, _, h, _⟩; exact h
/-- plain data, n deep at most -/
def Plain : Nat → D → Prop
  | 0, _ => False
  | _ + 1, .non => True
  | _ + 1, .bl _ => True
  | _ + 1, .int _ => True
  | _ + 1, .str s => s.length ≤ sizeLine
  | n + 1, .tup ds => ds.length < 2 ^ 62 ∧ ∀ d ∈ ds, Plain n d
  | n + 1, .lst ds => ds.length < 2 ^ 62 ∧ ∀ d ∈ ds, Plain n d
  | _ + 1, _ => False
theorem eqv_refl {M : Md} : ∀ {n : Nat} {d : D}, Plain n d → Eqv M n d d
  | 0, _, h => h.elim
  | n + 1, .non, h => .inl ⟨rfl, rfl⟩
  | n + 1, .bl b, h => .inr (.inl ⟨b, rfl, rfl⟩)
  | n + 1, .int b, h => .inr (.inr (.inl ⟨b, rfl, rfl⟩))
  | n + 1, .str b, h => .inr (.inr (.inr (.inl ⟨b, h, rfl, rfl⟩)))
  | n + 1, .tup ds, h => .inr (.inr (.inr (.inr (.inl ⟨ds, ds, rfl, rfl, rfl, h.1, fun i x y hx hy => by
      rw [hx] at hy; cases hy
      exact eqv_refl (h.2 x (List.mem_of_getElem? hx))⟩))))
  | n + 1, .lst ds, h => .inr (.inr (.inr (.inr (.inr ⟨ds, ds, rfl, rfl, rfl, h.1, fun i x y hx hy => by
      rw [hx] at hy; cases hy
      exact eqv_refl (h.2 x (List.mem_of_getElem? hx))⟩))))
  | n + 1, .scr _, h => h.elim
  | n + 1, .ref _, h => h.elim
def c1_6 : CSs := .cons (.set 2 (.idx (.var 0) (.var 1))) .nil
def c1_7 : CSs := .cons (.set 2 (.bin .sub (.int 1) (.bin .mul (.int 2) (.var 2)))) .nil
def c1_8 : CSs := .cons (.ret (.var 2)) .nil
def c1_5 : CSs := .cons (.ret (.bin .mod (.blt .int (.cons (.bin .add (.bin .add (.bin .mul (.var 3) (.var 3)) (.bin .mul (.int 104729) (.var 1))) (.int 977)) .nil)) (.int 2305843009213693951))) .nil
def c1_4 : CSs := .cons (.set 3 (.bin .mod (.blt .int (.cons (.bin .add (.bin .mul (.bin .add (.bin .add (.var 2) (.bin .mul (.int 7919) (.var 1))) (.int 1)) (.int 6364136223846793005)) (.int 1442695040888963407)) .nil)) (.int 2305843009213693951))) c1_5
def c1_3 : CSs := .cons (.ifs (.cmp .ge (.var 2) (.bin .pow (.int 10) (.int 9))) c1_8 .nil) c1_4
def c1_2 : CSs := .cons (.ifs (.cmp .lt (.var 2) (.int 0)) c1_7 .nil) c1_3
def c1_1 : CSs := .cons (.ifs (.cmp .lt (.var 1) (.blt .len (.cons (.var 0) .nil))) c1_6 .nil) c1_2
def c1 : CSs := .cons (.set 2 (.int 0)) c1_1
def sp1 : SpD := fun ds M Q _ => ∃ (ns : List Int) (k : Int), ds = [.scr ns, .int k] ∧ 0 ≤ k ∧ ∀ r : Int, 0 ≤ r → Q (.int r) M
theorem ln1 : ∀ ds M Q E, sp1 ds M Q E → ds.length = 2 := by
  rintro _ _ _ _ ⟨_, _, rfl, _⟩; rfl
theorem rd1 {Φ : Nat → SpD} {κ : Nat → D} : RdOk Φ κ c1 4 sp1 := by
  rintro ds M Q E hM hd ⟨ns, k, rfl, hk, hQ⟩
  have e3 : ∀ c x, At Φ κ E M.length Q c1_3 [some (.scr ns), some (.int k), some (.int c), x] M := by
    intro c x
    rw [At, nxt_eq, c1_3]; walk_at "rd"
    refine ⟨⟨by omega, by omega, by decide⟩, ?_⟩
    split
    · rw [c1_8]; walk_at "rd"
      exact .keep (hQ _ (by omega))
    · rw [nxt_eq, c1_4]; walk_at "rd"
      refine ⟨.inl ⟨by omega, by omega⟩, .inr ⟨by omega, by omega⟩, by omega, ?_⟩
      rw [nxt_eq, c1_5]; walk_at "rd"
      refine ⟨.inl ⟨by omega, by omega⟩, .inl ⟨by omega, by omega⟩, by omega, .keep (hQ _ (by omega))⟩
  have e2 : ∀ c x, At Φ κ E M.length Q c1_2 [some (.scr ns), some (.int k), some (.int c), x] M := by
    intro c x
    rw [At, nxt_eq, c1_2]; walk_at "rd"
    split
    · rw [c1_7]; walk_at "rd"
      exact ⟨.inl ⟨by omega, by omega⟩, e3 _ _⟩
    · exact e3 _ _
  rw [c1]; walk_at "rd"
  rw [nxt_eq, c1_1]; walk_at "rd"
  split
  · next h =>
    rw [c1_6]; walk_at "rd"
    obtain ⟨j, rfl⟩ : ∃ j : Nat, k = j := ⟨k.toNat, by omega⟩
    have hj : j < ns.length := by omega
    rw [atQ_some (d := .int ns[j]) (atI_nat (by simp [hj]))]
    exact e2 _ _
  · exact e2 _ _
def c2_5 : CSs := .cons (.setIx (.var 1) (.int 1) (.bin .add (.idx (.var 1) (.int 1)) (.int 1))) .nil
def c2_4 : CSs := .cons (.setIx (.var 1) (.int 0) (.call 1 (.cons (.var 0) (.cons (.idx (.var 1) (.int 1)) .nil)))) c2_5
def c2_3 : CSs := .cons (.ret (.var 3)) .nil
def c2_2 : CSs := .cons (.setIx (.var 1) (.int 0) (.bin .fdivW (.idx (.var 1) (.int 0)) (.var 2))) c2_3
def c2_1 : CSs := .cons (.set 3 (.bin .mod (.blt .int (.cons (.idx (.var 1) (.int 0)) .nil)) (.var 2))) c2_2
def c2 : CSs := .cons (.ifs (.cmp .eq (.idx (.var 1) (.int 0)) (.int 0)) c2_4 .nil) c2_1
def c6_6 : CSs := .cons (.set 3 (.call 2 (.cons (.var 0) (.cons (.var 1) (.cons (.int 90) .nil))))) .nil
def c6_11 : CSs := .cons (.set 7 (.blt .min2 (.cons (.int 128) (.cons (.bin .add (.var 6) (.int 1)) .nil)))) .nil
def c6_13 : CSs := .cons (.set 7 (.blt .min2 (.cons (.int 128) (.cons (.bin .add (.var 6) (.bin .fdiv (.var 7) (.int 12))) .nil)))) .nil
def c6_12 : CSs := .cons (.ifs (.cmp .gt (.call 2 (.cons (.var 0) (.cons (.var 1) (.cons (.int 3) .nil)))) (.int 0)) c6_13 .nil) .nil
def c6_10 : CSs := .cons (.expr (.mth .append (.var 2) (.cons (.tup (.cons (.var 6) (.cons (.var 7) .nil))) .nil))) .nil
def c6_9 : CSs := .cons (.ifs (.var 4) c6_11 c6_12) c6_10
def c6_8 : CSs := .cons (.set 7 (.call 2 (.cons (.var 0) (.cons (.var 1) (.cons (.int 129) .nil))))) c6_9
def c6_7 : CSs := .cons (.set 6 (.call 2 (.cons (.var 0) (.cons (.var 1) (.cons (.int 129) .nil))))) c6_8
def c6_5 : CSs := .cons (.ret (.var 2)) .nil
def c6_4 : CSs := .cons (.fors (.nm 5) (.rng1 (.var 3)) c6_7) c6_5
def c6_3 : CSs := .cons (.ifs (.var 4) c6_6 .nil) c6_4
def c6_2 : CSs := .cons (.set 4 (.cmp .eq (.call 2 (.cons (.var 0) (.cons (.var 1) (.cons (.int 6) .nil)))) (.int 0))) c6_3
def c6_1 : CSs := .cons (.set 3 (.call 2 (.cons (.var 0) (.cons (.var 1) (.cons (.int 9) .nil))))) c6_2
def c6 : CSs := .cons (.set 2 (.lst true .nil)) c6_1
def c5_7 : CSs := .cons (.set 2 (.var 3)) .nil
def c5_9 : CSs := .cons (.set 2 (.neg (.int 1))) .nil
def c5_8 : CSs := .cons (.expr (.mth .append (.var 1) (.cons (.tup (.cons (.var 2) (.cons (.var 3) .nil))) .nil))) c5_9
def c5_6 : CSs := .cons (.ifs (.and (.not (.var 4)) (.cmp .ge (.var 2) (.int 0))) c5_8 .nil) .nil
def c5_5 : CSs := .cons (.ifs (.and (.var 4) (.cmp .lt (.var 2) (.int 0))) c5_7 .nil) c5_6
def c5_4 : CSs := .cons (.set 4 (.and (.cmp .lt (.var 3) (.int 128)) (.idx (.var 0) (.var 3)))) c5_5
def c5_3 : CSs := .cons (.ret (.blt .tuple (.cons (.var 1) .nil))) .nil
def c5_2 : CSs := .cons (.fors (.nm 3) (.rng1 (.int 129)) c5_4) c5_3
def c5_1 : CSs := .cons (.set 2 (.neg (.int 1))) c5_2
def c5 : CSs := .cons (.set 1 (.lst true .nil)) c5_1
/-- where the walk over the bits stands -/
structure Rg (bt : Int → Prop) (j : Int) (L : List (Int × Int)) (s : Int) : Prop where
  c : Canon L
  n : (L.length : Int) ≤ j
  l : -1 ≤ s
  u : s < j
  e : ∀ p ∈ L, p.2 < if s < 0 then j else s
  i : ∀ x, inP L x = true ↔ 0 ≤ x ∧ (x < if s < 0 then j else s) ∧ bt x
  t : ∀ x, 0 ≤ s → s ≤ x → x < j → bt x
theorem Rg.start {bt : Int → Prop} : Rg bt 0 [] (-1) := ⟨trivial, by simp, by omega, by omega, fun _ h => (by cases h), fun x => by rw [inP_nil]; simp; omega, fun x h => by omega⟩
theorem Rg.open_ {bt : Int → Prop} {j s : Int} {L : List (Int × Int)} (h : Rg bt j L s) (hs : s < 0) (hb : bt j) (hj : 0 ≤ j) : Rg bt (j + 1) L j := by
  refine ⟨h.c, by have := h.n; omega, by omega, by omega, fun p hp => ?_, fun x => ?_, fun x h0 h1 h2 => ?_⟩
  · have := h.e p hp
    rw [if_pos hs] at this
    rw [if_neg (by omega)]; exact this
  · have := h.i x
    rw [if_pos hs] at this
    rw [if_neg (by omega)]; exact this
  · have : x = j := by omega
    rw [this]; exact hb
theorem Rg.go {bt : Int → Prop} {j s : Int} {L : List (Int × Int)} (h : Rg bt j L s) (hs : ¬ s < 0) (hb : bt j) : Rg bt (j + 1) L s := by
  refine ⟨h.c, by have := h.n; omega, h.l, by have := h.u; omega, fun p hp => ?_, fun x => ?_, fun x h0 h1 h2 => ?_⟩
  · have := h.e p hp
    rw [if_neg hs] at this ⊢; exact this
  · have := h.i x
    rw [if_neg hs] at this ⊢; exact this
  · rcases Decidable.em (x < j) with z | z
    · exact h.t x h0 h1 z
    · have : x = j := by omega
      rw [this]; exact hb
theorem Rg.out {bt : Int → Prop} {j s : Int} {L : List (Int × Int)} (h : Rg bt j L s) (hs : s < 0) (hb : ¬ bt j) : Rg bt (j + 1) L s := by
  refine ⟨h.c, by have := h.n; omega, h.l, by have := h.u; omega, fun p hp => ?_, fun x => ?_, fun x h0 => by omega⟩
  · have := h.e p hp
    rw [if_pos hs] at this ⊢; omega
  · have := h.i x
    rw [if_pos hs] at this ⊢
    rw [this]
    constructor
    · rintro ⟨h1, h2, h3⟩; exact ⟨h1, by omega, h3⟩
    · rintro ⟨h1, h2, h3⟩
      rcases Decidable.em (x < j) with z | z
      · exact ⟨h1, z, h3⟩
      · have : x = j := by omega
        rw [this] at h3; exact absurd h3 hb
theorem Rg.close {bt : Int → Prop} {j s : Int} {L : List (Int × Int)} (h : Rg bt j L s) (hs : ¬ s < 0) (hb : ¬ bt j) : Rg bt (j + 1) (L ++ [(s, j)]) (-1) := by
  have hu := h.u
  refine ⟨h.c.snoc hu fun q hq => ?_, by have := h.n; simp; omega, by omega, by omega, fun p hp => ?_, fun x => ?_, fun x h0 => by omega⟩
  · have := h.e q hq
    rw [if_neg hs] at this; exact this
  · rw [if_pos (by omega)]
    rcases List.mem_append.mp hp with hp | hp
    · have := h.e p hp
      rw [if_neg hs] at this; omega
    · rw [List.mem_singleton.mp hp]
      show j < j + 1
      omega
  · have := h.i x
    rw [if_neg hs] at this
    rw [if_pos (by omega), inP_append, inP_one, this]
    constructor
    · rintro (⟨h1, h2, h3⟩ | ⟨h1, h2⟩)
      · exact ⟨h1, by omega, h3⟩
      · exact ⟨by have : s ≤ x := h1; omega, by have : x < j := h2; omega, h.t x (by omega) h1 h2⟩
    · rintro ⟨h1, h2, h3⟩
      rcases Decidable.em (x < s) with z | z
      · exact .inl ⟨h1, z, h3⟩
      · rcases Decidable.em (x < j) with z2 | z2
        · exact .inr ⟨by show s ≤ x; omega, z2⟩
        · have : x = j := by omega
          rw [this] at h3; exact absurd h3 hb
def c4_3 : CSs := .cons (.ret (.bl true)) .nil
def c4_2 : CSs := .cons (.ifs (.and (.cmp .le (.idx (.var 2) (.int 0)) (.var 1)) (.cmp .lt (.var 1) (.idx (.var 2) (.int 1)))) c4_3 .nil) .nil
def c4_1 : CSs := .cons (.ret (.bl false)) .nil
def c4 : CSs := .cons (.fors (.nm 2) (.seq (.var 0)) c4_2) c4_1
def c0_5 : CSs := .cons .cont .nil
def c0_6 : CSs := .cons (.setIx (.var 1) (.neg (.int 1)) (.tup (.cons (.idx (.idx (.var 1) (.neg (.int 1))) (.int 0)) (.cons (.blt .max2 (.cons (.idx (.idx (.var 1) (.neg (.int 1))) (.int 1)) (.cons (.var 3) .nil))) .nil)))) .nil
def c0_7 : CSs := .cons (.expr (.mth .append (.var 1) (.cons (.tup (.cons (.var 2) (.cons (.var 3) .nil))) .nil))) .nil
def c0_4 : CSs := .cons (.ifs (.and (.var 1) (.cmp .le (.var 2) (.idx (.idx (.var 1) (.neg (.int 1))) (.int 1)))) c0_6 c0_7) .nil
def c0_3 : CSs := .cons (.ifs (.cmp .ge (.var 2) (.var 3)) c0_5 .nil) c0_4
def c0_2 : CSs := .cons (.ret (.blt .tuple (.cons (.var 1) .nil))) .nil
def c0_1 : CSs := .cons (.fors (.tp [2, 3]) (.seq (.blt .sorted (.cons (.var 0) .nil))) c0_3) c0_2
def c0 : CSs := .cons (.set 1 (.lst true .nil)) c0_1
/-- where make_set's walk stands -/
structure Mk (ps acc qs : List (Int × Int)) : Prop where
  c : Canon acc
  n : acc.length + qs.length ≤ ps.length
  s : qs.Pairwise fun p q => p.1 < q.1 ∨ p.1 = q.1 ∧ p.2 ≤ q.2
  l : ∀ p ∈ acc, ∀ q ∈ qs, p.1 ≤ q.1
  i : ∀ x, (inP acc x = true ∨ inP qs x = true) ↔ inP ps x = true
theorem Mk.skip {ps acc qs : List (Int × Int)} {q : Int × Int} (h : Mk ps acc (q :: qs)) (hq : q.2 ≤ q.1) : Mk ps acc qs := by
  refine ⟨h.c, by have := h.n; simp at this; omega, (List.pairwise_cons.mp h.s).2, fun p hp r hr => h.l p hp r (List.mem_cons_of_mem _ hr), fun x => ?_⟩
  rw [← h.i x, inP_cons]
  constructor
  · rintro (z | z)
    · exact .inl z
    · exact .inr (.inr z)
  · rintro (z | z | z)
    · exact .inl z
    · omega
    · exact .inr z
theorem Mk.more {ps acc qs : List (Int × Int)} {q : Int × Int} (h : Mk ps acc (q :: qs)) (hq : q.1 < q.2) (hl : ∀ p ∈ acc, p.2 < q.1) : Mk ps (acc ++ [q]) qs := by
  refine ⟨h.c.snoc hq hl, by have := h.n; simp at this ⊢; omega, (List.pairwise_cons.mp h.s).2, fun p hp r hr => ?_, fun x => ?_⟩
  · rcases List.mem_append.mp hp with hp | hp
    · exact h.l p hp r (List.mem_cons_of_mem _ hr)
    · rw [List.mem_singleton.mp hp]
      have := (List.pairwise_cons.mp h.s).1 r hr
      omega
  · rw [← h.i x, inP_cons, inP_append, inP_one, or_assoc]
theorem Mk.join {ps acc qs : List (Int × Int)} {p q : Int × Int} (h : Mk ps (acc ++ [p]) (q :: qs)) (hq : q.1 < q.2) (hl : q.1 ≤ p.2) : Mk ps (acc ++ [(p.1, if q.2 > p.2 then q.2 else p.2)]) qs := by
  obtain ⟨h1, h2, h3⟩ := h.c.init
  have h4 := h.l p (List.mem_append_right _ List.mem_cons_self) q List.mem_cons_self
  have e : ∀ y : Int, (y < if q.2 > p.2 then q.2 else p.2) ↔ y < p.2 ∨ y < q.2 := fun y => by split <;> omega
  refine ⟨h1.snoc ((e _).mpr (.inl h2)) h3, by have := h.n; simp at this ⊢; omega, (List.pairwise_cons.mp h.s).2, fun r hr z hz => ?_, fun x => ?_⟩
  · rcases List.mem_append.mp hr with hr | hr
    · exact h.l r (List.mem_append_left _ hr) z (List.mem_cons_of_mem _ hz)
    · rw [List.mem_singleton.mp hr]
      exact h.l p (List.mem_append_right _ List.mem_cons_self) z (List.mem_cons_of_mem _ hz)
  · rw [← h.i x, inP_cons, inP_append, inP_append, inP_one, inP_one]
    show (inP acc x = true ∨ p.1 ≤ x ∧ x < if q.2 > p.2 then q.2 else p.2) ∨ inP qs x = true ↔ _
    rw [e]
    constructor
    · rintro ((z | ⟨z1, z2 | z2⟩) | z)
      · exact .inl (.inl z)
      · exact .inl (.inr ⟨z1, z2⟩)
      · rcases Decidable.em (x < p.2) with y | y
        · exact .inl (.inr ⟨z1, y⟩)
        · exact .inr (.inl ⟨by omega, z2⟩)
      · exact .inr (.inr z)
    · rintro ((z | z) | z | z)
      · exact .inl (.inl z)
      · exact .inl (.inr ⟨z.1, .inl z.2⟩)
      · exact .inl (.inr ⟨by omega, .inr z.2⟩)
      · exact .inr z
def sp0 : SpD := fun ds M Q _ => ∃ (c : D) (ps : List (Int × Int)), ds = [c] ∧ lstOf c M = some (ps.map pr) ∧ ps.length ≤ sizeLine ∧ ∀ L, Canon L → (∀ x : Int, inP L x = true ↔ inP ps x = true) → L.length ≤ ps.length → Q (.tup (L.map pr)) M
theorem ln0 : ∀ ds M Q E, sp0 ds M Q E → ds.length = 1 := by
  rintro _ _ _ _ ⟨_, _, rfl, _⟩; rfl
theorem rd0 {Φ : Nat → SpD} {κ : Nat → D} : RdOk Φ κ c0 4 sp0 := by
  rintro ds M Q E hM hd ⟨c, ps, rfl, hc, hsz, hQ⟩
  have hc' : lstOf c (M ++ [.lst []]) = some (ps.map pr) := by
    cases c with
    | lst _ => exact hc
    | ref k =>
      rw [lstOf_R] at hc ⊢
      unfold seqR at hc
      split at hc
      · next e => rw [at_old e]; exact hc
      · cases hc
    | _ => cases hc
  obtain ⟨so, qs, hqs, hperm, hsort⟩ := sort_pairs ps
  rw [c0]; walk_at "rd"
  rw [nxt_eq, c0_1]; walk_at "rd"
  rw [sorted_l hc']; walk_at "rd"
  rw [hqs]
  refine ⟨so, ?_⟩
  refine loop_list (fun rem σ M' => ∃ acc qs x2 x3, σ = [some c, some (.ref M.length), x2, x3] ∧ M' = M ++ [.lst (acc.map pr)] ∧ rem = qs.map pr ∧ Mk ps acc qs) ?_ ?_ ?_ _ _ _ ⟨[], qs, _, _, rfl, rfl, rfl, trivial, by simp [hperm.length_eq], hsort, (by intro p hp; cases hp), fun x => ?_⟩
  · intro _ _ _ _; trivial
  · rintro d rem σ M' nx ⟨acc, qs, x2, x3, rfl, rfl, he, G⟩ hn
    obtain ⟨q, qs, rfl, rfl, rfl⟩ : ∃ q qs', qs = q :: qs' ∧ d = pr q ∧ rem = qs'.map pr := by
      cases qs with
      | nil => cases he
      | cons q qs => cases he; exact ⟨q, qs, rfl, rfl, rfl⟩
    have hlen : acc.length < sizeLine := by
      have := G.n
      simp at this
      omega
    rw [pr_eq]; walk_at "rd"
    rw [c0_3]; walk_at "rd"
    split
    · rw [c0_5]; walk_at "rd"
      exact hn _ _ ⟨acc, qs, _, _, rfl, rfl, rfl, G.skip (by omega)⟩
    · rcases snoc_cases acc with rfl | ⟨acc, p, rfl⟩
      · rw [nxt_eq, c0_4]; walk_at "rd"
        rw [c0_7]; walk_at "rd"
        exact ⟨hlen, hn _ _ ⟨[q], qs, _, _, rfl, rfl, rfl, G.more (by omega) (by intro p hp; cases hp)⟩⟩
      · rw [List.map_append, List.map_cons, List.map_nil, nxt_eq, c0_4]; walk_at "rd"
        rw [pr_eq p]; walk_at "rd"
        split
        · rw [c0_6]; walk_at "rd"
          exact hn _ _ ⟨acc ++ [(p.1, if q.2 > p.2 then q.2 else p.2)], qs, _, _, rfl, by rw [List.map_append]; rfl, rfl, G.join (by omega) (by assumption)⟩
        · rw [c0_7]; walk_at "rd"
          refine ⟨by simpa using hlen, hn _ _ ⟨(acc ++ [p]) ++ [q], qs, _, _, rfl, by simp [pr], rfl, G.more (by omega) fun r hr => ?_⟩⟩
          obtain ⟨h1, h2, h3⟩ := G.c.init
          rcases List.mem_append.mp hr with hr | hr
          · have := h3 r hr
            omega
          · rw [List.mem_singleton.mp hr]; omega
  · rintro σ M' ⟨acc, qs, x2, x3, rfl, rfl, he, G⟩
    dsimp only; rw [nxt_eq, c0_2]; walk_at "rd"
    cases qs with
    | cons _ _ => cases he
    | nil => exact Fin.tail rfl (noRefs_lt (noRefs_pr acc)) hM (hQ acc G.c (fun x => by rw [← G.i x, inP_nil]; simp) (by have := G.n; simpa using this))
  · rw [inP_nil, inP_iff, inP_iff]
    simp only [Bool.false_eq_true, false_or]
    constructor
    · rintro ⟨p, h1, h2⟩; exact ⟨p, hperm.mem_iff.mp h1, h2⟩
    · rintro ⟨p, h1, h2⟩; exact ⟨p, hperm.mem_iff.mpr h1, h2⟩
def c7_4 : CSs := .cons (.ret (.and (.call 3 (.cons (.call 0 (.cons (.var 3) .nil)) (.cons (.var 4) .nil))) (.call 3 (.cons (.var 3) (.cons (.var 2) .nil))))) .nil
def c7_3 : CSs := .cons (.set 4 (.call 5 (.cons (.comp false (.call 4 (.cons (.var 2) (.cons (.var 5) .nil))) (.nm 5) (.rng1 (.int 128)) .none [5]) .nil))) c7_4
def c7_2 : CSs := .cons (.set 3 (.blt .list (.cons (.var 2) .nil))) c7_3
def c7_1 : CSs := .cons (.set 2 (.call 6 (.cons (.var 0) (.cons (.var 1) .nil)))) c7_2
def c7 : CSs := .cons (.set 1 (.lst true (.cons (.int 0) (.cons (.int 0) .nil)))) c7_1
inductive Cr where
  | set (n : Int) (ps : List (Int × Int)) | seq (a b : Cr) | alt (a b : Cr) | ne (t : Cr) | star (t : Cr) (x : Bool) | leaf (s : Str) (r : List D)
def Cr.hd : Cr → Str
  | .set _ _ => "set" | .seq _ _ => "sequence" | .alt _ _ => "choice" | .ne _ => "nonempty" | .star _ _ => "star" | .leaf s _ => s
def Cr.ht : Cr → Nat
  | .seq a b => max a.ht b.ht + 1
  | .alt a b => max a.ht b.ht + 1
  | .ne t => t.ht + 1
  | .star t _ => t.ht + 1
  | _ => 0
/-- a leaf of another kind -/
def leafOk (s : Str) (r : List D) : Prop := s ≠ "set" ∧ s ≠ "sequence" ∧ s ≠ "choice" ∧ s ≠ "nonempty" ∧ s ≠ "star" ∧ s.length ≤ sizeLine ∧ r.length ≤ 10 ∧ noRefs r = true ∧ ∀ d ∈ r, Plain 3 d
def Cr.ok : Cr → Prop
  | .set _ ps => ps.length ≤ 100
  | .seq a b => a.ok ∧ b.ok
  | .alt a b => a.ok ∧ b.ok
  | .ne t => t.ok
  | .star t _ => t.ok
  | .leaf s r => leafOk s r
inductive Co where
  | set (n : Nat) (ps : List (Int × Int)) | opn (g : Nat) | cls (g : Nat) | fgt (gs ms : List Nat) | bit (k : Nat) (b : Bool) | anc (s : Str) | emp
  | seq (a b : Co) | alt (a b : Co) | ne (a : Co) | star (a : Co) (g : Bool)
def Co.ht : Co → Nat
  | .seq a b => max a.ht b.ht + 1
  | .alt a b => max a.ht b.ht + 1
  | .ne t => t.ht + 1
  | .star t _ => t.ht + 1
  | _ => 0
/-- opened, held, marks -/
abbrev Rgs := List (Option Int) × List (Option (Int × Int)) × List (Option Int)
def onD : Option Nat → D
  | none => .non
  | some n => .int n
abbrev Mv := Option Nat × Option Rgs
structure Sp where
  pos : Int
  bf : Option Int
  af : Option Int
  bits : List Bool
def tks (ms : List Mv) : List Mv := ms.filter fun m => m.1.isSome
def Co.sz : Co → Nat
  | .seq a b => a.sz + b.sz
  | .alt a b => a.sz + b.sz
  | .ne a => a.sz
  | .star a _ => a.sz + 1
  | _ => 1
/-- the digit's promise over a longer state -/
def sp2w : SpD := fun ds M Q _ => ∃ (ns : List Int) (a b m : Int) (T : List D) (R : Md), ds = [.scr ns, .ref 0, .int m] ∧ M = .lst (.int a :: .int b :: T) :: R ∧ 0 ≤ a ∧ 0 ≤ b ∧ 0 < m ∧ m < 4611686018427387904 ∧
  ∀ d a' b' : Int, 0 ≤ d → d < m → 0 ≤ a' → 0 ≤ b' → Q (.int d) (.lst (.int a' :: .int b' :: T) :: R)
theorem ln2w : ∀ ds M Q E, sp2w ds M Q E → ds.length = 3 := by
  rintro _ _ _ _ ⟨_, _, _, _, _, _, rfl, _⟩; rfl
theorem rd2w {Φ : Nat → SpD} {κ : Nat → D} (h1 : Φ 1 = sp1) : RdOk Φ κ c2 4 sp2w := by
  rintro ds M Q E hM hd ⟨ns, a, b, m, T, R, rfl, rfl, ha, hb, hm, hm2, hQ⟩
  have e1 : ∀ a b x, 0 ≤ a → 0 ≤ b → At Φ κ E (R.length + 1) Q c2_1 [some (.scr ns), some (.ref 0), some (.int m), x] (.lst (.int a :: .int b :: T) :: R) := by
    intro a b x ha hb
    rw [At, nxt_eq, c2_1]; walk_at "rd"
    refine ⟨hm, ?_⟩
    rw [nxt_eq, c2_2]; walk_at "rd"
    refine ⟨wide_div hm (b := 62) (by omega) (by decide) (by decide), ?_⟩
    rw [nxt_eq, c2_3]; walk_at "rd"
    exact .keep (hQ _ _ _ (Int.emod_nonneg _ (by omega)) (Int.emod_lt_of_pos _ hm) (Int.ediv_nonneg ha (by omega)) hb)
  rw [c2]; walk_at "rd"
  split
  · rw [c2_4]; walk_at "rd"
    rw [h1]
    refine ⟨ns, b, rfl, hb, fun r hr => ?_⟩
    walk_at "rd"
    rw [nxt_eq, c2_5]; walk_at "rd"
    exact e1 _ _ _ hr (by omega)
  · exact e1 _ _ _ ha hb
theorem dig {Φ : Nat → SpD} (h2 : Φ 2 = sp2w) {ns : List Int} {a b m : Int} {T : List D} {R : Md} {Q : QE} {E : EX} (ha : 0 ≤ a) (hb : 0 ≤ b) (hm : 0 < m) (hm2 : m < 4611686018427387904)
    (q : ∀ d a' b' : Int, 0 ≤ d → d < m → 0 ≤ a' → 0 ≤ b' → Q (.int d) (.lst (.int a' :: .int b' :: T) :: R)) : Φ 2 [.scr ns, .ref 0, .int m] (.lst (.int a :: .int b :: T) :: R) Q E := by
  rw [h2]
  exact ⟨ns, a, b, m, T, R, rfl, rfl, ha, hb, hm, hm2, q⟩
/-- the end of an __init__ that had lists of its own -/
theorem Fin.init {n0 : Nat} {Q : QE} {M0 L : Md} {c : Str} {fs : List (Str × D)} (hn : M0.length + 1 = n0) (hM : MOk (M0 ++ [.ins c []])) (hf : noRefs (fs.map (·.2)) = true) (q : Q .non (M0 ++ [.ins c fs])) : Fin n0 Q .non (M0 ++ .ins c fs :: L) := by
  have e : M0 ++ .ins c fs :: L = (M0 ++ [.ins c fs]) ++ L := by simp
  rw [e]
  refine Fin.tail (by simpa using hn) trivial ?_ q
  intro m hm
  have hl : (M0 ++ [MO.ins c fs]).length = (M0 ++ [MO.ins c []]).length := by simp
  rw [hl]
  rcases List.mem_append.mp hm with h | h
  · exact hM m (List.mem_append_left _ h)
  · rw [List.mem_singleton.mp h]
    intro p hp
    exact RLts_iff.mp (noRefs_lt hf) _ (List.mem_map_of_mem hp)
def Co.leaf : Co → Prop
  | .set _ _ | .seq _ _ | .alt _ _ | .ne _ | .star _ _ => False
  | _ => True
def Co.hd : Co → Str
  | .set _ _ => "set" | .opn _ => "open" | .cls _ => "close" | .fgt _ _ => "forget" | .bit _ _ => "bit" | .anc _ => "anchor" | .emp => "empty"
  | .seq _ _ => "sequence" | .alt _ _ => "choice" | .ne _ => "nonempty" | .star _ _ => "star"
/-- the six anchors -/
def ancOk (s : Str) : Prop := s = "text_start" ∨ s = "text_end" ∨ s = "line_start" ∨ s = "line_end" ∨ s = "word_boundary" ∨ s = "no_word_boundary"
inductive Pt where
  | set (ps : List (Int × Int)) | empty | anchor (s : Str) | seq (a b : Pt) | alt (a b : Pt) | rep (t : Pt) (lo : Nat) (hi : Option Nat) (g : Bool) | grp (n : Nat) (t : Pt) | look (a p : Bool) (t : Pt) (k : Option Nat)
def ptD : Pt → D
  | .set ps => .tup [.str "set", .tup (ps.map pr)]
  | .empty => .tup [.str "empty"]
  | .anchor s => .tup [.str "anchor", .str s]
  | .seq a b => .tup [.str "sequence", ptD a, ptD b]
  | .alt a b => .tup [.str "choice", ptD a, ptD b]
  | .rep t lo hi g => .tup [.str "repeat", ptD t, .int lo, onD hi, .bl g]
  | .grp n t => .tup [.str "group", .int n, ptD t]
  | .look a p t none => .tup [.str "look", .bl a, .bl p, ptD t]
  | .look a p t (some k) => .tup [.str "look", .bl a, .bl p, ptD t, .int k]
def Pt.ht : Pt → Nat
  | .seq a b => max a.ht b.ht + 1
  | .alt a b => max a.ht b.ht + 1
  | .rep t _ _ _ => t.ht + 1
  | .grp _ t => t.ht + 1
  | .look _ _ t _ => t.ht + 1
  | _ => 0
def Pt.grps : Pt → List Nat
  | .seq a b => a.grps ++ b.grps
  | .alt a b => a.grps ++ b.grps
  | .rep t _ _ _ => t.grps
  | .grp n t => n :: t.grps
  | .look _ _ t _ => t.grps
  | _ => []
/-- all looks, those within ahead -/
def Pt.lks : Pt → List Pt
  | .seq a b => a.lks ++ b.lks
  | .alt a b => a.lks ++ b.lks
  | .rep t _ _ _ => t.lks
  | .grp _ t => t.lks
  | .look a p t k => t.lks ++ [.look a p t k]
  | _ => []
/-- looks numbered from n on -/
def Pt.mark : Pt → Nat → Pt × Nat
  | .seq a b, n => (.seq (a.mark n).1 (b.mark (a.mark n).2).1, (b.mark (a.mark n).2).2)
  | .alt a b, n => (.alt (a.mark n).1 (b.mark (a.mark n).2).1, (b.mark (a.mark n).2).2)
  | .rep t lo hi g, n => (.rep (t.mark n).1 lo hi g, (t.mark n).2)
  | .grp k t, n => (.grp k (t.mark n).1, (t.mark n).2)
  | .look a p t _, n => (.look a p (t.mark n).1 (some (t.mark n).2), (t.mark n).2 + 1)
  | .set ps, n => (.set ps, n)
  | .empty, n => (.empty, n)
  | .anchor s, n => (.anchor s, n)
theorem nr_pt : ∀ t : Pt, noRef (ptD t) = true
  | .set ps => by
    have : noRefs (ps.map pr) = true := noRefs_pr ps
    simp only [ptD, noRef, noRefs, this, Bool.and_self]
  | .empty | .anchor _ => rfl
  | .seq a b => by simp only [ptD, noRef, noRefs, nr_pt a, nr_pt b, Bool.and_self]
  | .alt a b => by simp only [ptD, noRef, noRefs, nr_pt a, nr_pt b, Bool.and_self]
  | .rep t lo hi g => by
    have : noRef (onD hi) = true := by cases hi <;> rfl
    simp only [ptD, noRef, noRefs, nr_pt t, this, Bool.and_self]
  | .grp n t => by simp only [ptD, noRef, noRefs, nr_pt t, Bool.and_self]
  | .look a p t none => by simp only [ptD, noRef, noRefs, nr_pt t, Bool.and_self]
  | .look a p t (some k) => by simp only [ptD, noRef, noRefs, nr_pt t, Bool.and_self]
def Pt.hd : Pt → Str
  | .set _ => "set" | .empty => "empty" | .anchor _ => "anchor" | .seq _ _ => "sequence" | .alt _ _ => "choice" | .rep _ _ _ _ => "repeat" | .grp _ _ => "group" | .look _ _ _ _ => "look"
inductive Tr where
  | set (ps : List (Int × Int)) | empty | anchor (s : Str) | seq (a b : Tr) | alt (a b : Tr) | rep (t : Tr) (lo : Int) (hi : Option Int) (g : Bool) | grp (n : Int) (t : Tr) | look (a p : Bool) (t : Tr)
def Tr.ht : Tr → Nat
  | .seq a b => max a.ht b.ht + 1
  | .alt a b => max a.ht b.ht + 1
  | .rep t _ _ _ => t.ht + 1
  | .grp _ t => t.ht + 1
  | .look _ _ t => t.ht + 1
  | _ => 0
def Tr.grps : Tr → List Int
  | .seq a b => a.grps ++ b.grps
  | .alt a b => a.grps ++ b.grps
  | .rep t _ _ _ => t.grps
  | .grp n t => n :: t.grps
  | .look _ _ t => t.grps
  | _ => []
def Tr.looks : Tr → Int
  | .seq a b => a.looks + b.looks
  | .alt a b => a.looks + b.looks
  | .rep t _ _ _ => t.looks
  | .grp _ t => t.looks
  | .look _ _ t => 1 + t.looks
  | _ => 0
/-- small bounds of repetitions -/
def Tr.ok : Tr → Prop
  | .seq a b => a.ok ∧ b.ok
  | .alt a b => a.ok ∧ b.ok
  | .rep t lo hi _ => (0 ≤ lo ∧ lo ≤ 100 ∧ ∀ h, hi = some h → 0 ≤ h ∧ h ≤ 100) ∧ t.ok
  | .grp _ t => t.ok
  | .look _ _ t => t.ok
  | _ => True
/-- a tree's first word -/
def Tr.hd : Tr → Str
  | .set _ => "set" | .empty => "empty" | .anchor _ => "anchor" | .seq _ _ => "sequence" | .alt _ _ => "choice" | .rep _ _ _ _ => "repeat" | .grp _ _ => "group" | .look _ _ _ => "look"
/-- its own number, if it is a group -/
def Pt.own : Pt → List Nat
  | .grp n _ => [n]
  | _ => []
def Pt.lnum : Pt → Nat
  | .look _ _ _ (some k) => k
  | _ => 0
def Pt.fgt (t : Pt) : Co := .fgt t.grps (t.lks.map Pt.lnum)
def Pt.lkCo : Pt → Co
  | .look _ p t (some k) => if p then .seq t.fgt (.bit k true) else .bit k false
  | _ => .emp
def seqN (it : Co) : Nat → Co → Co
  | 0, c => c
  | n + 1, c => .seq it (seqN it n c)
def optN (it : Co) (g : Bool) : Nat → Co
  | 0 => .emp
  | n + 1 => if g then .alt (.seq (.ne it) (optN it g n)) .emp else .alt .emp (.seq (.ne it) (optN it g n))
def repCo (it : Co) (lo : Nat) (hi : Option Nat) (g : Bool) : Co := seqN it lo (match hi with
  | none => .star it g
  | some h => optN it g (h - lo))
/-- the core of a tree, its sets without numbers -/
def Pt.un (b : Bool) : Pt → Co
  | .set ps => .set 0 ps
  | .empty => .emp
  | .anchor s => .anc s
  | .seq x y => if b then .seq (y.un b) (x.un b) else .seq (x.un b) (y.un b)
  | .alt x y => .alt (x.un b) (y.un b)
  | .rep t lo hi g => repCo (.seq t.fgt (t.un b)) lo hi g
  | .grp n t => .seq (.opn n) (.seq (t.un b) (.cls n))
  | .look a p t k => (Pt.look a p t k).lkCo
/-- repetitions of at most four -/
def Pt.r2 : Pt → Prop
  | .seq a b => a.r2 ∧ b.r2
  | .alt a b => a.r2 ∧ b.r2
  | .rep t lo hi _ => t.r2 ∧ lo ≤ 2 ∧ ∀ h, hi = some h → lo ≤ h ∧ h ≤ lo + 2
  | .grp _ t => t.r2
  | .look _ _ t _ => t.r2
  | _ => True
def Co.nd : Co → Nat
  | .seq a b => a.nd + b.nd + 1
  | .alt a b => a.nd + b.nd + 1
  | .ne a => a.nd + 1
  | .star a _ => a.nd + 1
  | _ => 1
/-- the numbers from g to below k -/
def rgN (g k : Nat) : List Nat := List.range' g (k - g)
theorem rgN_app {a b c : Nat} (h1 : a ≤ b) (h2 : b ≤ c) : rgN a b ++ rgN b c = rgN a c := by
  unfold rgN
  have e := List.range'_append_1 (s := a) (m := b - a) (n := c - b)
  rw [show a + (b - a) = b by omega] at e
  rw [e]
  congr 1
  omega
theorem rgN_nil {a : Nat} : rgN a a = [] := by simp [rgN]
theorem rgN_cons {a b : Nat} (h : a < b) : a :: rgN (a + 1) b = rgN a b := by
  have : rgN a (a + 1) = [a] := by simp [rgN]
  rw [← rgN_app (a := a) (b := a + 1) (c := b) (by omega) (by omega), this]; rfl
theorem rgN_lt {a b : Nat} : (rgN a b).Pairwise (· < ·) := List.pairwise_lt_range' (s := a) (n := b - a)
/-- sets in their one form, of a hundred ranges at most -/
def setOk (ps : List (Int × Int)) : Prop := ps.length ≤ 100 ∧ Canon ps ∧ ∀ x : Int, inP ps x = true → 0 ≤ x ∧ x < 128
theorem setOk_of {ps : List (Int × Int)} (h : ps.length ≤ 100) (hc : Canon ps) (hb : ∀ p ∈ ps, 0 ≤ p.1 ∧ p.2 ≤ 128) : setOk ps := ⟨h, hc, fun x hx => by
  obtain ⟨p, hp, h1, h2⟩ := inP_iff.mp hx
  have := hb p hp
  omega⟩
def Pt.pl : Pt → Prop
  | .set ps => setOk ps
  | .seq a b => a.pl ∧ b.pl
  | .alt a b => a.pl ∧ b.pl
  | .rep t _ _ _ => t.pl
  | .grp _ t => t.pl
  | .look _ _ t _ => t.pl
  | .anchor s => ancOk s
  | _ => True
/-- looks without numbers -/
def Pt.bare : Pt → Prop
  | .seq a b => a.bare ∧ b.bare
  | .alt a b => a.bare ∧ b.bare
  | .rep t _ _ _ => t.bare
  | .grp _ t => t.bare
  | .look _ _ t k => t.bare ∧ k = none
  | _ => True
/-- a drawn tree: its height, its groups from g to below g' -/
structure Gen (dep g g' : Nat) (t : Pt) : Prop where
  ht : t.ht ≤ dep
  r2 : t.r2
  pl : t.pl
  ba : t.bare
  le : g ≤ g'
  gs : t.grps = rgN g g'
theorem Gen.set {d g : Nat} {ps : List (Int × Int)} (h : setOk ps) : Gen d g g (.set ps) := ⟨Nat.zero_le _, trivial, h, trivial, Nat.le_refl _, rgN_nil.symm⟩
theorem Gen.empty {d g : Nat} : Gen d g g .empty := ⟨Nat.zero_le _, trivial, trivial, trivial, Nat.le_refl _, rgN_nil.symm⟩
theorem Gen.anchor {d g : Nat} {s : Str} (h : ancOk s) : Gen d g g (.anchor s) := ⟨Nat.zero_le _, trivial, h, trivial, Nat.le_refl _, rgN_nil.symm⟩
theorem Gen.seq {d g g1 g2 : Nat} {a b : Pt} (h0 : 0 < d) (h : Gen (d - 1) g g1 a) (h' : Gen (d - 1) g1 g2 b) : Gen d g g2 (.seq a b) :=
  ⟨by have := h.ht; have := h'.ht; show max a.ht b.ht + 1 ≤ d; omega, ⟨h.r2, h'.r2⟩, ⟨h.pl, h'.pl⟩, ⟨h.ba, h'.ba⟩, Nat.le_trans h.le h'.le, by show a.grps ++ b.grps = _; rw [h.gs, h'.gs, rgN_app h.le h'.le]⟩
theorem Gen.alt {d g g1 g2 : Nat} {a b : Pt} (h0 : 0 < d) (h : Gen (d - 1) g g1 a) (h' : Gen (d - 1) g1 g2 b) : Gen d g g2 (.alt a b) :=
  ⟨by have := h.ht; have := h'.ht; show max a.ht b.ht + 1 ≤ d; omega, ⟨h.r2, h'.r2⟩, ⟨h.pl, h'.pl⟩, ⟨h.ba, h'.ba⟩, Nat.le_trans h.le h'.le, by show a.grps ++ b.grps = _; rw [h.gs, h'.gs, rgN_app h.le h'.le]⟩
theorem Gen.rep {d g g' : Nat} {t : Pt} {lo : Nat} {hi : Option Nat} {z : Bool} (h0 : 0 < d) (h : Gen (d - 1) g g' t) (h1 : lo ≤ 2) (h2 : ∀ k, hi = some k → lo ≤ k ∧ k ≤ lo + 2) : Gen d g g' (.rep t lo hi z) :=
  ⟨by have := h.ht; show t.ht + 1 ≤ d; omega, ⟨h.r2, h1, h2⟩, h.pl, h.ba, h.le, h.gs⟩
theorem Gen.grp {d g g' : Nat} {t : Pt} (h0 : 0 < d) (h : Gen (d - 1) (g + 1) g' t) : Gen d g g' (.grp g t) :=
  ⟨by have := h.ht; show t.ht + 1 ≤ d; omega, h.r2, h.pl, h.ba, by have := h.le; omega, by show g :: t.grps = _; rw [h.gs, rgN_cons (by have := h.le; omega)]⟩
theorem Gen.look {d g g' : Nat} {t : Pt} {a p : Bool} (h0 : 0 < d) (h : Gen (d - 1) g g' t) : Gen d g g' (.look a p t none) :=
  ⟨by have := h.ht; show t.ht + 1 ≤ d; omega, h.r2, h.pl, ⟨h.ba, rfl⟩, h.le, h.gs⟩
theorem Gen.pw {d g g' : Nat} {t : Pt} (h : Gen d g g' t) : t.grps.Pairwise (· < ·) := by rw [h.gs]; exact rgN_lt
def csD (c : List (Int × Int)) : D := .tup (c.map pr)
noncomputable instance decPt : DecidableEq Pt := fun _ _ => Classical.propDecidable _
def Pt.nm : Pt → Str
  | .set _ => "set" | .empty => "empty" | .anchor _ => "anchor" | .seq _ _ => "sequence" | .alt _ _ => "choice" | .rep _ _ _ _ => "repeat" | .grp _ _ => "group" | .look _ _ _ _ => "look"
theorem rg_ex (bt : Int → Prop) : ∀ n : Nat, ∃ L s, Rg bt n L s
  | 0 => ⟨[], -1, Rg.start⟩
  | n + 1 => by
    obtain ⟨L, s, h⟩ := rg_ex bt n
    rw [show ((n + 1 : Nat) : Int) = (n : Int) + 1 by omega]
    by_cases hb : bt n <;> by_cases hs : s < 0
    · exact ⟨_, _, h.open_ hs hb (by omega)⟩
    · exact ⟨_, _, h.go hs hb⟩
    · exact ⟨_, _, h.out hs hb⟩
    · exact ⟨_, _, h.close hs hb⟩
theorem can_ex (f : Int → Prop) (h : ∀ x, f x → 0 ≤ x ∧ x < 128) : ∃ L, Canon L ∧ ∀ x, inP L x = true ↔ f x := by
  obtain ⟨L, s, r⟩ := rg_ex f 129
  have hs : s < 0 := by
    rcases Decidable.em (s < 0) with z | z
    · exact z
    · have hu := r.u
      have := r.t 128 (by omega) (by omega) (by omega)
      have := h _ this
      omega
  refine ⟨L, r.c, fun x => ?_⟩
  rw [r.i x, if_pos hs]
  exact ⟨fun z => z.2.2, fun z => by have := h x z; exact ⟨this.1, by omega, z⟩⟩
/-- inner nodes -/
def Pt.inn : Pt → Nat
  | .seq a b => a.inn + b.inn + 1
  | .alt a b => a.inn + b.inn + 1
  | .rep t _ _ _ => t.inn + 1
  | .grp _ t => t.inn + 1
  | .look _ _ t _ => t.inn + 1
  | _ => 0
/-- nodes in all -/
def Pt.sz : Pt → Nat
  | .seq a b => a.sz + b.sz + 1
  | .alt a b => a.sz + b.sz + 1
  | .rep t _ _ _ => t.sz + 1
  | .grp _ t => t.sz + 1
  | .look _ _ t _ => t.sz + 1
  | _ => 1
/-- small counts of repetitions -/
def Pt.ct : Pt → Prop
  | .seq a b => a.ct ∧ b.ct
  | .alt a b => a.ct ∧ b.ct
  | .rep t lo hi _ => t.ct ∧ lo ≤ 100 ∧ ∀ k, hi = some k → k ≤ 100
  | .grp _ t => t.ct
  | .look _ _ t k => t.ct ∧ k = none
  | _ => True
/-- in order: sets, anchors, counts -/
structure Pt.wf (t : Pt) : Prop where
  pl : t.pl
  ct : t.ct
/-- the alternatives stand in a row: none of them but the last is a choice's rest -/
def Pt.leaf : Pt → Bool
  | .set _ => true
  | .anchor _ => true
  | _ => false
structure Sm (t r : Pt) : Prop where
  wf : r.wf
  inn : r.inn ≤ t.inn
  grps : r.grps = t.grps
theorem Sm.trans {a b c : Pt} (h : Sm a b) (k : Sm b c) : Sm a c := ⟨k.wf, Nat.le_trans k.inn h.inn, k.grps.trans h.grps⟩
def Pt.kd : Pt → Nat
  | .set _ => 0 | .empty => 1 | .anchor _ => 2 | .seq _ _ => 3 | .alt _ _ => 4 | .rep _ _ _ _ => 5 | .grp _ _ => 6 | .look _ _ _ _ => 7
/-- two trees that are joined -/
structure Two (a b : Pt) : Prop where
  wa : a.wf
  wb : b.wf
  inn : a.inn + b.inn + 1 ≤ 60
  gr : (a.grps ++ b.grps).Pairwise (· < ·)
theorem Two.ga {a b : Pt} (h : Two a b) : a.grps.Pairwise (· < ·) := (List.pairwise_append.mp h.gr).1
def t3 (lo : Nat) (hi : Option Nat) (g : Bool) : D := .tup [.int lo, onD hi, .bl g]
theorem tx_cat {a b : List Nat} : tx a ++ tx b = tx (a ++ b) := SX.S_cat a b
theorem mk_tx {l : List Nat} : (⟨l.toArray⟩ : Str) = tx l := rfl
/-- the digits of a number -/
def dg (n : Nat) : List Nat := (Nat.toDigits 10 n).map Char.toNat
abbrev Nm := Option (List Nat)
def nmD : Nm → D
  | none => .non
  | some l => .str (tx l)
/-- the group that a word names -/
def gof (w : List Nat) : List Nm → Nat → Option Nat
  | [], _ => none
  | n :: r, k => if w = dg k ∨ n = some w then some k else gof w r (k + 1)
/-- parts of a template -/
inductive Pr where
  | text (l : List Nat) | grp (n : Nat) | nam (s : Str)
def Pr.d : Pr → D
  | .text l => .tup [.str "text", .str (tx l)]
  | .grp n => .tup [.str "group", .int n]
  | .nam s => .tup [.str s]
def Pr.ok : Pr → Prop
  | .text l => l.length ≤ 1000
  | .grp _ => True
  | .nam s => s = "match" ∨ s = "before" ∨ s = "behind"
/-- pieces of a template -/
inductive Pc where
  | grp (w : List Nat) (n : Nat) | sg (c : Nat) (p : Pr) | ch (c : Nat)
def Pc.ok (ns : List Nm) : Pc → Prop
  | .grp w n => 125 ∉ w ∧ gof w ns 0 = some n ∧ w.length ≤ 12
  | .sg c p => (c = 36 ∧ p = .text [36]) ∨ (c = 38 ∧ p = .nam "match") ∨ (c = 91 ∧ p = .nam "before") ∨ (c = 93 ∧ p = .nam "behind")
  | .ch c => c ≠ 36
theorem txl {cs : List Nat} : (tx cs).cps.toList = cs := SX.S_inj (SX.S_tl (tx cs))
theorem cut_midT {α : Type} {xs : List α} {a b : Nat} : cutD xs (some (a : Int)) (some (b : Int)) = (xs.drop a).take (b - a) := by
  unfold cutD
  rw [HT.sIx_nat, HT.sIx_nat]
  by_cases h : a ≤ xs.length
  · rw [Nat.min_eq_left h]
    by_cases k : b ≤ xs.length
    · rw [Nat.min_eq_left k]
    · rw [Nat.min_eq_right (by omega), List.take_of_length_le (by rw [List.length_drop]; exact Nat.le_refl _), List.take_of_length_le (by rw [List.length_drop]; omega)]
  · have h1 : min a xs.length = xs.length := by omega
    rw [h1, List.drop_of_length_le (Nat.le_refl _), List.drop_of_length_le (by omega), List.take_nil, List.take_nil]
theorem ix_txn {cs : List Nat} {p c : Nat} {M : Md} {Q : QE} (h : cs.length ≤ sizeLine) (hc : cs[p]? = some c) (q : Q (.str (tx [c])) M) : ixD (.str (tx cs)) (.int p) M Q :=
  ix_s (by rw [tx_len]; exact h) (by rw [txl]; exact atI_nat hc) q
theorem tx_inj {a b : List Nat} (h : tx a = tx b) : a = b := SX.S_inj h
def c10_7 : CSs := .cons (.expr (.mth .append (.var 1) (.cons (.tup (.cons (.var 2) (.cons (.var 3) .nil))) .nil))) .nil
def c10_6 : CSs := .cons (.set 2 (.var 4)) .nil
def c10_5 : CSs := .cons (.ifs (.cmp .lt (.var 2) (.var 3)) c10_7 .nil) c10_6
def c10_8 : CSs := .cons (.expr (.mth .append (.var 1) (.cons (.tup (.cons (.var 2) (.cons (.glob 0) .nil))) .nil))) .nil
def c10_4 : CSs := .cons (.ret (.blt .tuple (.cons (.var 1) .nil))) .nil
def c10_3 : CSs := .cons (.ifs (.cmp .lt (.var 2) (.glob 0)) c10_8 .nil) c10_4
def c10_2 : CSs := .cons (.fors (.tp [3, 4]) (.seq (.var 0)) c10_5) c10_3
def c10_1 : CSs := .cons (.set 2 (.int 0)) c10_2
def c10 : CSs := .cons (.set 1 (.lst true .nil)) c10_1
/-- where complement's walk stands -/
structure Cm (A acc : List (Int × Int)) (s : Int) (qs : List (Int × Int)) : Prop where
  c : Canon acc
  n : acc.length + qs.length ≤ A.length
  s0 : 0 ≤ s
  s1 : s ≤ 128
  e : ∀ p ∈ acc, p.2 < s
  q : Canon qs
  l : ∀ p ∈ qs, p.2 ≤ 128
  f : ∀ p ∈ qs, s ≤ p.1 ∧ (s = p.1 → s = 0)
  i : ∀ x, inP acc x = true ↔ (0 ≤ x ∧ x < s) ∧ ¬ inP A x = true
  r : ∀ x, s ≤ x → (inP A x = true ↔ inP qs x = true)
theorem Cm.step {A acc : List (Int × Int)} {s : Int} {p : Int × Int} {qs : List (Int × Int)} (h : Cm A acc s (p :: qs)) : Cm A (if s < p.1 then acc ++ [(s, p.1)] else acc) p.2 qs := by
  have hp := h.q.1
  have hf := h.f p List.mem_cons_self
  have hl := h.l p List.mem_cons_self
  have hs := h.s0
  have hn := h.n
  rw [List.length_cons] at hn
  have inA : ∀ x, s ≤ x → x < p.2 → (inP A x = true ↔ p.1 ≤ x) := fun x h1 h2 => by
    rw [h.r x h1, inP_cons]
    constructor
    · rintro (z | z)
      · exact z.1
      · obtain ⟨q, hq, h3, h4⟩ := inP_iff.mp z
        have := h.q.2.1 q hq
        omega
    · exact fun z => .inl ⟨z, h2⟩
  have rest : ∀ x, p.2 ≤ x → (inP A x = true ↔ inP qs x = true) := fun x h1 => by
    rw [h.r x (by omega), inP_cons]
    constructor
    · rintro (z | z)
      · omega
      · exact z
    · exact .inr
  have fs : ∀ q ∈ qs, p.2 ≤ q.1 ∧ (p.2 = q.1 → p.2 = 0) := fun q hq => by
    have := h.q.2.1 q hq
    exact ⟨by omega, by omega⟩
  split
  · next z =>
    refine ⟨h.c.snoc z h.e, by simp; omega, by omega, hl, fun q hq => ?_, h.q.2.2, fun q hq => h.l q (List.mem_cons_of_mem _ hq), fs, fun x => ?_, rest⟩
    · rcases List.mem_append.mp hq with hq | hq
      · have := h.e q hq; omega
      · rw [List.mem_singleton.mp hq]; exact hp
    · rw [inP_append, inP_one, h.i]
      constructor
      · rintro (⟨a, b⟩ | a)
        · exact ⟨by omega, b⟩
        · have a1 : s ≤ x := a.1
          have a2 : x < p.1 := a.2
          exact ⟨by omega, fun b => by have := (inA x a1 (by omega)).mp b; omega⟩
      · rintro ⟨a, b⟩
        rcases Decidable.em (x < s) with y | y
        · exact .inl ⟨by omega, b⟩
        · refine .inr ⟨by show s ≤ x; omega, ?_⟩
          show x < p.1
          rcases Decidable.em (x < p.1) with y2 | y2
          · exact y2
          · exact absurd ((inA x (by omega) (by omega)).mpr (by omega)) b
  · next z =>
    have z0 : s = 0 := hf.2 (by omega)
    have ze : acc = [] := by
      cases acc with
      | nil => rfl
      | cons a acc =>
        have h1 := (h.i a.1).mp (inP_cons.mpr (.inl ⟨Int.le_refl _, h.c.1⟩))
        omega
    subst ze
    refine ⟨trivial, by simp; omega, by omega, hl, fun q hq => (by cases hq), h.q.2.2, fun q hq => h.l q (List.mem_cons_of_mem _ hq), fs, fun x => ?_, rest⟩
    rw [inP_nil]
    constructor
    · intro a; cases a
    · rintro ⟨a, b⟩
      exact absurd ((inA x (by omega) (by omega)).mpr (by omega)) b
def sp10 : SpD := fun ds M Q _ => ∃ A : List (Int × Int), ds = [.tup (A.map pr)] ∧ Canon A ∧ (∀ x, inP A x = true → 0 ≤ x ∧ x < 128) ∧ ∀ L, Canon L → (∀ x : Int, inP L x = true ↔ (0 ≤ x ∧ x < 128) ∧ ¬ inP A x = true) → Q (.tup (L.map pr)) M
theorem ln10 : ∀ ds M Q E, sp10 ds M Q E → ds.length = 1 := by
  rintro _ _ _ _ ⟨_, rfl, _⟩; rfl
theorem rd10 {Φ : Nat → SpD} {κ : Nat → D} (hk : κ 0 = .int 128) : RdOk Φ κ c10 5 sp10 := by
  rintro ds M Q E hM hd ⟨A, rfl, hA, hA2, hQ⟩
  have h64 := canon_64 hA hA2
  rw [c10]; walk_at "rd"
  rw [nxt_eq, c10_1]; walk_at "rd"
  rw [nxt_eq, c10_2]; walk_at "rd"
  have g0 : Cm A [] 0 A := by
    refine ⟨trivial, by simp, by omega, by omega, fun q hq => (by cases hq), hA, fun p hp => ?_, fun p hp => ?_, fun x => ?_, fun x _ => Iff.rfl⟩
    · have h1 := hA.lt p hp
      have := hA2 (p.2 - 1) (inP_iff.mpr ⟨p, hp, by omega, by omega⟩)
      omega
    · have h1 := hA.lt p hp
      have := hA2 p.1 (inP_iff.mpr ⟨p, hp, by omega, by omega⟩)
      exact ⟨this.1, fun _ => rfl⟩
    · rw [inP_nil]
      constructor
      · intro a; cases a
      · rintro ⟨a, b⟩; omega
  refine loop_list (fun rem σ M' => ∃ acc qs s x3 x4, σ = [some (.tup (A.map pr)), some (.ref M.length), some (.int s), x3, x4] ∧ M' = M ++ [.lst (acc.map pr)] ∧ rem = qs.map pr ∧ Cm A acc s qs) ?_ ?_ ?_ _ _ _ ⟨[], A, 0, _, _, rfl, rfl, rfl, g0⟩
  · intro _ _ _ _; trivial
  · rintro d rem σ M' nx ⟨acc, qs, s, x3, x4, rfl, rfl, he, G⟩ hn
    obtain ⟨q, qs, rfl, rfl, rfl⟩ : ∃ q qs', qs = q :: qs' ∧ d = pr q ∧ rem = qs'.map pr := by
      cases qs with
      | nil => cases he
      | cons q qs => cases he; exact ⟨q, qs, rfl, rfl, rfl⟩
    have G2 := G.step
    have hn1 := G.n
    rw [List.length_cons] at hn1
    rw [pr_eq]; walk_at "rd"
    rw [c10_5]; walk_at "rd"
    split
    · rw [c10_7]; walk_at "rd"
      rw [if_pos (by assumption)] at G2
      refine ⟨by rw [List.length_map, size_eq]; omega, ?_⟩
      rw [nxt_eq, c10_6]; walk_at "rd"
      exact hn _ _ ⟨_, qs, _, _, _, rfl, by rw [List.map_append]; rfl, rfl, G2⟩
    · rw [if_neg (by assumption)] at G2
      rw [nxt_eq, c10_6]; walk_at "rd"
      exact hn _ _ ⟨_, qs, _, _, _, rfl, rfl, rfl, G2⟩
  · rintro σ M' ⟨acc, qs, s, x3, x4, rfl, rfl, he, G⟩
    cases qs with
    | cons _ _ => cases he
    | nil =>
      have hn1 := G.n
      have hs0 := G.s0
      have hs1 := G.s1
      dsimp only; rw [nxt_eq, c10_3]; walk_at "rd"
      rw [hk]; walk_at "rd"
      split
      · next z =>
        rw [c10_8]; walk_at "rd"
        rw [hk]
        refine ⟨by rw [List.length_map, size_eq]; simp at hn1; omega, ?_⟩
        rw [nxt_eq, c10_4]; walk_at "rd"
        rw [show acc.map pr ++ [D.tup [.int s, .int 128]] = (acc ++ [(s, 128)]).map pr by rw [List.map_append]; rfl]
        refine Fin.tail (d := .tup ((acc ++ [(s, 128)]).map pr)) rfl (noRefs_lt (noRefs_pr (acc ++ [(s, 128)]))) hM (hQ (acc ++ [(s, 128)]) (G.c.snoc z G.e) fun x => ?_)
        rw [inP_append, inP_one, G.i]
        constructor
        · rintro (⟨a, b⟩ | ⟨a, b⟩)
          · exact ⟨by omega, b⟩
          · have a : s ≤ x := a
            have b : x < 128 := b
            refine ⟨by omega, fun y => ?_⟩
            rw [G.r x a, inP_nil] at y; cases y
        · rintro ⟨a, b⟩
          rcases Decidable.em (x < s) with y | y
          · exact .inl ⟨by omega, b⟩
          · exact .inr ⟨by show s ≤ x; omega, a.2⟩
      · next z =>
        rw [nxt_eq, c10_4]; walk_at "rd"
        refine Fin.tail rfl (noRefs_lt (noRefs_pr acc)) hM (hQ acc G.c fun x => ?_)
        have : s = 128 := by omega
        rw [G.i, this]
def leL : List Nat := List.range' 65 26 ++ List.range' 97 26
def fiL : List Nat := List.range' 48 10
def hxL : List Nat := List.range' 48 10 ++ List.range' 97 6
def hx (n : Nat) : Nat := hxL.getD n 0
def sDg : List (Int × Int) := [(48, 58)]
def sWd : List (Int × Int) := [(48, 58), (65, 91), (95, 96), (97, 123)]
def sWh : List (Int × Int) := [(9, 14), (32, 33)]
def sLn : List (Int × Int) := [(0, 10), (11, 13), (14, 128)]
def nDg : List (Int × Int) := [(0, 48), (58, 128)]
def nWd : List (Int × Int) := [(0, 48), (58, 65), (91, 95), (96, 97), (123, 128)]
def nWh : List (Int × Int) := [(0, 9), (14, 32), (33, 128)]
theorem in_txl {c : Nat} {l : List Nat} {M : Md} {QB : Bool → Prop} : cpD .inn (.str (tx [c])) (.str (tx l)) M QB = QB (decide (c ∈ l)) := by
  show QB (!(Builtin.Str.occurrences (tx l) (tx [c]) 0 (tx l).length 1).isEmpty) = _
  rw [show (!(Builtin.Str.occurrences (tx l) (tx [c]) 0 (tx l).length 1).isEmpty) = decide (c ∈ l) from SX.in_one _ c]
structure SrcOk (cs : List Nat) : Prop where
  len : cs.length ≤ 100000
  lt : ∀ c ∈ cs, c < 128
abbrev Rs (α : Type) := Except (Nat × Str) α
/-- what is read, or the error: its column behind i, and what is expected -/
def rsQ {α : Type} (i : Nat) (r : Rs α) (E : EX) (M : Md) (Q : α → Prop) : Prop := match r with
  | .ok a => Q a
  | .error e => ∀ L, E ⟨"PatternError", some [("expected", .str e.2), ("column", .int ((i + e.1 : Nat) : Int))]⟩ (M ++ L)
theorem rsQ_ok {α : Type} {i : Nat} {a : α} {E : EX} {M : Md} {Q : α → Prop} : rsQ i (.ok a) E M Q = Q a := rfl
theorem rsQ_er {α : Type} {i : Nat} {e : Nat × Str} {E : EX} {M : Md} {Q : α → Prop} : rsQ i (.error e : Rs α) E M Q = ∀ L, E ⟨"PatternError", some [("expected", .str e.2), ("column", .int ((i + e.1 : Nat) : Int))]⟩ (M ++ L) := rfl
theorem cut_one {cs : List Nat} {i : Nat} : cutD cs (some (i : Int)) (some ((i : Int) + 1)) = (cs[i]?).toList := by
  rw [show (i : Int) + 1 = ((i + 1 : Nat) : Int) by omega, cut_midT, show i + 1 - i = 1 by omega]
  cases h : cs[i]? with
  | none => rw [List.drop_of_length_le (by simpa using h)]; rfl
  | some c =>
    have hlt := (List.getElem?_eq_some_iff.mp h).1
    rw [List.drop_eq_getElem_cons hlt, (List.getElem?_eq_some_iff.mp h).2]; rfl
theorem cut_one1 {cs : List Nat} {i : Nat} : cutD cs (some ((i : Int) + 1)) (some ((i : Int) + 2)) = (cs[i + 1]?).toList := by
  rw [show (i : Int) + 1 = ((i + 1 : Nat) : Int) by omega, show (i : Int) + 2 = ((i + 1 : Nat) : Int) + 1 by omega, cut_one]
theorem cut_one2 {cs : List Nat} {i : Nat} : cutD cs (some ((i : Int) + 2)) (some ((i : Int) + 3)) = (cs[i + 2]?).toList := by
  rw [show (i : Int) + 2 = ((i + 2 : Nat) : Int) by omega, show (i : Int) + 3 = ((i + 2 : Nat) : Int) + 1 by omega, cut_one]
theorem tx_nil_ne {c : Nat} : (tx [c] = tx []) = False := by
  refine eq_false fun h => ?_
  cases tx_inj h
theorem tx_1 {c d : Nat} : (tx [c] = tx [d]) = (c = d) := propext ⟨fun h => (List.cons.inj (tx_inj h)).1, fun h => by rw [h]⟩
def lowC (c : Nat) : Nat := if 65 ≤ c ∧ c ≤ 90 then c + 32 else c
theorem low_tx {c : Nat} (h : c < 128) : Txt.lower (tx [c]) = tx [lowC c] := by
  have : ∀ c : Nat, c < 128 → Txt.lower (tx [c]) = tx [lowC c] := by decide +kernel
  exact this c h
theorem low_nil : Txt.lower (tx []) = tx [] := by decide +kernel
def isSg (c : Nat) : Bool := !decide (c ∈ leL) && (!decide (c ∈ fiL) && !decide (c ∈ [10, 9]))
/-- the named sets by their letters -/
def seOf (c : Nat) : Option (List (Int × Int)) := if c = 100 then some sDg else if c = 115 then some sWh else if c = 119 then some sWd else if c = 68 then some nDg else if c = 83 then some nWh else if c = 87 then some nWd else none
def hxV (al : List Nat) (o : Option Nat) : Option Nat := match o with
  | none => none
  | some c => if lowC c ∈ al then some (hxL.idxOf (lowC c)) else none
def ocL : List Nat := List.range' 48 8
/-- anchors by their letters -/
def anL (c : Nat) : Option Str := if c = 65 then some "text_start" else if c = 122 then some "text_end" else if c = 98 then some "word_boundary" else if c = 66 then some "no_word_boundary" else none
inductive Esc where
  | code (n : Nat) | anc (s : Str) | set (ps : List (Int × Int))
def Esc.d (i : Nat) : Esc → D
  | .code n => .tup [.str "code", .int n, .int i]
  | .anc s => .tup [.str "anchor", .str s, .int i]
  | .set ps => .tup [.str "set", csD ps, .int i]
/-- an escape -/
def escR (r : List Nat) : Rs (Esc × Nat) := match r[1]? with
  | none => .error (2, "a character behind the backslash")
  | some c => if c = 120 then (match hxV ocL r[2]? with
      | none => .error (3, "a digit from 0 to 7")
      | some h => match hxV hxL r[3]? with
        | none => .error (4, "a hexadecimal digit")
        | some l => .ok (.code (16 * h + l), 4))
    else match anL c with
      | some s => .ok (.anc s, 2)
      | none => match seOf c with
        | some ps => .ok (.set ps, 2)
        | none => if c = 110 then .ok (.code 10, 2) else if c = 116 then .ok (.code 9, 2) else if isSg c = true then .ok (.code c, 2) else .error (2, "a known escape")
theorem drop_at {cs : List Nat} {i j : Nat} : (cs.drop i)[j]? = cs[i + j]? := List.getElem?_drop
theorem er0 {E : EX} {x : XD} {M : Md} (h : ∀ L, E x (M ++ L)) : E x M := by
  have := h []
  rwa [List.append_nil] at this
theorem k10_tx : k10 = .str (tx leL) := by
  show D.str _ = _
  congr 1
  try decide +kernel
theorem k11_tx : k11 = .str (tx fiL) := by
  show D.str _ = _
  congr 1
  try decide +kernel
theorem k12_tx : k12 = .str (tx hxL) := by
  show D.str _ = _
  congr 1
  try decide +kernel
abbrev c1186 : CSs := .cons (.ret (.and (.cmp .nin (.var 0) (.glob 10)) (.and (.cmp .nin (.var 0) (.glob 11)) (.cmp .nin (.var 0) (.str "\n\t"))))) .nil
def sp1186 : SpD := fun ds M Q _ => ∃ c : Nat, ds = [.str (tx [c])] ∧ Q (.bl (isSg c)) M
theorem ln1186 : ∀ ds M Q E, sp1186 ds M Q E → ds.length = 1 := by
  rintro _ _ _ _ ⟨_, rfl, _⟩; rfl
theorem nin_txl {c : Nat} {l : List Nat} {M : Md} {QB : Bool → Prop} : cpD .nin (.str (tx [c])) (.str (tx l)) M QB = QB (!decide (c ∈ l)) := by
  show cpD .inn (.str (tx [c])) (.str (tx l)) M (fun b => QB (!b)) = _
  rw [in_txl]
theorem rd1186 {Φ : Nat → SpD} {κ : Nat → D} (hk10 : κ 10 = k10) (hk11 : κ 11 = k11) : RdOk Φ κ c1186 1 (sp1186) := by
  rintro ds M Q E hM hd ⟨c, rfl, hQ⟩
  have t1 : Str.ofString "\n\t" = tx [10, 9] := by decide +kernel
  unfold isSg at hQ
  walk_at "go"
  rw [hk10, k10_tx, nin_txl]
  by_cases h1 : c ∈ leL
  · rw [decide_eq_true h1] at hQ ⊢
    walk_at "go"
    exact .keep hQ
  rw [decide_eq_false h1] at hQ ⊢
  walk_at "go"
  rw [hk11, k11_tx, nin_txl]
  by_cases h2 : c ∈ fiL
  · rw [decide_eq_true h2] at hQ ⊢
    walk_at "go"
    exact .keep hQ
  rw [decide_eq_false h2] at hQ ⊢
  walk_at "go"
  rw [t1, nin_txl]
  exact .keep hQ
abbrev c1184_3 : CSs := .cons (.raiseI "PatternError" ["column", "expected"] (.cons (.bin .add (.var 1) (.int 1)) (.cons (.var 3) .nil))) .nil
abbrev c1184_2 : CSs := .cons (.ret (.mth .find (.glob 12) (.cons (.var 4) .nil))) .nil
abbrev c1184_1 : CSs := .cons (.ifs (.or (.cmp .eq (.var 4) (.str "")) (.cmp .nin (.var 4) (.var 2))) c1184_3 .nil) c1184_2
abbrev c1184 : CSs := .cons (.set 4 (.mth .lower (.slc false (.var 0) (.some (.var 1)) (.some (.bin .add (.var 1) (.int 1)))) .nil)) c1184_1
def sp1184 : SpD := fun ds M Q E => ∃ (cs al : List Nat) (i : Nat) (s : Str), ds = [.str (tx cs), .int i, .str (tx al), .str s] ∧ SrcOk cs ∧ (al = ocL ∨ al = hxL) ∧
  (match hxV al cs[i]? with
  | some v => Q (.int v) M
  | none => ∀ L, E ⟨"PatternError", some [("expected", .str s), ("column", .int ((i + 1 : Nat) : Int))]⟩ (M ++ L))
theorem ln1184 : ∀ ds M Q E, sp1184 ds M Q E → ds.length = 4 := by
  rintro _ _ _ _ ⟨_, _, _, _, rfl, _⟩; rfl
theorem hx_find {c : Nat} (h : c ∈ hxL) : Txt.find (tx hxL) (tx [c]) = ((hxL.idxOf c : Nat) : Int) := by
  have : ∀ c ∈ hxL, Txt.find (tx hxL) (tx [c]) = ((hxL.idxOf c : Nat) : Int) := by decide +kernel
  exact this c h
theorem rd1184 {Φ : Nat → SpD} {κ : Nat → D} (hk12 : κ 12 = k12) : RdOk Φ κ c1184 5 (sp1184) := by
  rintro ds M Q E hM hd ⟨cs, al, i, s, rfl, hs, ha, hQ⟩
  have t0 : Str.ofString "" = tx [] := by decide +kernel
  have hsl := hs.len
  walk_at "go"
  rw [mtK_lower, mt_lower', cut_one, mk_tx]
  have t12 : κ 12 = .str (tx hxL) := by rw [hk12, k12_tx]
  refine ⟨trivial, ?_⟩
  cases hc : cs[i]? with
  | none =>
    rw [hc] at hQ
    rw [show (none : Option Nat).toList = [] from rfl, low_nil]
    refine ⟨by decide, ?_⟩
    walk_at "go"
    exact er0 hQ
  | some c =>
    rw [hc] at hQ
    have hc8 := hs.lt c (List.mem_of_getElem? hc)
    rw [show (some c).toList = [c] from rfl, low_tx hc8]
    refine ⟨by rw [tx_len]; show 1 ≤ _; decide, ?_⟩
    have hQ : match (if lowC c ∈ al then some (hxL.idxOf (lowC c)) else none) with
      | some v => Q (.int v) M
      | none => ∀ L, E ⟨"PatternError", some [("expected", .str s), ("column", .int ((i + 1 : Nat) : Int))]⟩ (M ++ L) := hQ
    walk_at "go"
    rw [t0, if_neg (by rw [tx_nil_ne]; exact fun h => h)]
    walk_at "go"
    rw [nin_txl]
    by_cases h : lowC c ∈ al
    · rw [if_pos h] at hQ
      rw [decide_eq_true h]
      walk_at "go"
      have hm : lowC c ∈ hxL := by
        rcases ha with rfl | rfl
        · have : ∀ x ∈ ocL, x ∈ hxL := by decide
          exact this _ h
        · exact h
      rw [t12]
      walk_at "go"
      rw [mt_find', hx_find hm]
      exact ⟨by rw [mtK_find]; trivial, .keep hQ⟩
    · rw [if_neg h] at hQ
      rw [decide_eq_false h]
      walk_at "go"
      exact er0 hQ
def namC : List (List Nat × List (Int × Int) × List (Int × Int)) := [([92, 68], sDg, nDg), ([92, 83], sWh, nWh), ([92, 87], sWd, nWd)]
theorem cmp_c (a b : List (Int × Int)) (h : ∀ c : Nat, c < 128 → inP b c = !inP a c) (hb : ∀ p ∈ b, 0 ≤ p.1 ∧ p.2 ≤ 128) (x : Int) : inP b x = true ↔ (0 ≤ x ∧ x < 128) ∧ ¬ inP a x = true := by
  constructor
  · intro z
    obtain ⟨p, hp, h1, h2⟩ := inP_iff.mp z
    have := hb p hp
    have hx : 0 ≤ x ∧ x < 128 := by omega
    refine ⟨hx, fun z2 => ?_⟩
    obtain ⟨c, rfl⟩ : ∃ c : Nat, x = c := ⟨x.toNat, by omega⟩
    rw [h c (by omega), z2] at z; cases z
  · rintro ⟨hx, z⟩
    obtain ⟨c, rfl⟩ : ∃ c : Nat, x = c := ⟨x.toNat, by omega⟩
    rw [h c (by omega)]
    simpa using z
theorem namC_ok : ∀ x ∈ namC, (setOk x.2.1 ∧ Canon x.2.2) ∧ ∀ z : Int, inP x.2.2 z = true ↔ (0 ≤ z ∧ z < 128) ∧ ¬ inP x.2.1 z = true := by
  intro x hx
  simp only [namC, List.mem_cons, List.not_mem_nil, or_false] at hx
  rcases hx with rfl | rfl | rfl
  · exact ⟨⟨setOk_of (by decide) (by simp [Canon, sDg]) (by simp [sDg]), by simp [Canon, nDg]⟩, cmp_c _ _ (by decide +kernel) (by simp [nDg])⟩
  · exact ⟨⟨setOk_of (by decide) (by simp [Canon, sWh]) (by simp [sWh]), by simp [Canon, nWh]⟩, cmp_c _ _ (by decide +kernel) (by simp [nWh])⟩
  · exact ⟨⟨setOk_of (by decide) (by simp [Canon, sWd]) (by simp [sWd]), by simp [Canon, nWd]⟩, cmp_c _ _ (by decide +kernel) (by simp [nWd])⟩
theorem find_at {α : Type} {p : α → Bool} {a b : List α} {x : α} (h : ∀ y ∈ a, p y = false) (hx : p x = true) : (a ++ x :: b).find? p = some x := by
  rw [List.find?_append, List.find?_eq_none.mpr fun y hy => by rw [h y hy]; simp, List.find?_cons, hx]; rfl
abbrev c1185_4 : CSs := .cons (.ret (.idx (.var 1) (.var 0))) .nil
abbrev c1185_5 : CSs := .cons (.ret (.call 10 (.cons (.idx (.var 1) (.mth .lower (.var 0) .nil)) .nil))) .nil
abbrev c1185_3 : CSs := .cons (.ret .non) .nil
abbrev c1185_2 : CSs := .cons (.ifs (.cmp .inn (.mth .lower (.var 0) .nil) (.var 1)) c1185_5 .nil) c1185_3
abbrev c1185_1 : CSs := .cons (.ifs (.cmp .inn (.var 0) (.var 1)) c1185_4 .nil) c1185_2
abbrev c1185 : CSs := .cons (.set 1 (.dlit ["d", "s", "w"] (.cons (.glob 5) (.cons (.glob 3) (.cons (.glob 4) .nil))))) c1185_1
def oSet : Option (List (Int × Int)) → D
  | none => .non
  | some ps => csD ps
def sp1185 : SpD := fun ds M Q _ => ∃ c : Nat, ds = [.str (tx [c])] ∧ c < 128 ∧ Q (oSet (seOf c)) M
theorem ln1185 : ∀ ds M Q E, sp1185 ds M Q E → ds.length = 1 := by
  rintro _ _ _ _ ⟨_, rfl, _⟩; rfl
def kn3 (c : Nat) : Option D := if c = 100 then some (csD sDg) else if c = 115 then some (csD sWh) else if c = 119 then some (csD sWd) else none
theorem kn3_eq (c : Nat) : dctVal (dlitP [Str.ofString "d", Str.ofString "s", Str.ofString "w"] [csD sDg, csD sWh, csD sWd] []) (some (Sum.inr (tx [c]))) = kn3 c := by
  have e : dlitP [Str.ofString "d", Str.ofString "s", Str.ofString "w"] [csD sDg, csD sWh, csD sWd] [] = [(some (.inr (tx [100])), csD sDg), (some (.inr (tx [115])), csD sWh), (some (.inr (tx [119])), csD sWd)] := by
    rw [show Str.ofString "d" = tx [100] by decide +kernel, show Str.ofString "s" = tx [115] by decide +kernel, show Str.ofString "w" = tx [119] by decide +kernel]
    rfl
  have k : ∀ a b : Nat, decide ((some (Sum.inr (tx [a])) : Option Key) = some (Sum.inr (tx [b]))) = decide (b = a) := fun a b => by
    rw [decide_eq_decide]
    constructor
    · intro h
      have := Sum.inr.inj (Option.some.inj h)
      exact ((List.cons.inj (tx_inj this)).1).symm
    · rintro rfl; rfl
  rw [e]
  unfold dctVal kn3
  simp only [List.find?_cons, List.find?_nil, k]
  by_cases h1 : c = 100
  · simp [h1]
  by_cases h2 : c = 115
  · simp [h2]
  by_cases h3 : c = 119
  · simp [h3]
  simp [h1, h2, h3]
theorem cmp_of {x : List Nat × List (Int × Int) × List (Int × Int)} (hx : x ∈ namC) {Φ : Nat → SpD} (h10 : Φ 10 = sp10) {M : Md} {Q : QE} {E : EX} (q : Q (csD x.2.2) M) : Φ 10 [csD x.2.1] M Q E := by
  obtain ⟨⟨n1, n2⟩, n3⟩ := namC_ok x hx
  rw [h10]
  refine ⟨x.2.1, rfl, n1.2.1, n1.2.2, fun L hL hx => ?_⟩
  have eL : L = x.2.2 := canon_eq hL n2 fun z => by rw [Bool.eq_iff_iff, hx, n3]
  rw [eL]; exact q
theorem nr_cs (ps : List (Int × Int)) : noRef (csD ps) = true := noRefs_pr ps
theorem rd1185 {Φ : Nat → SpD} {κ : Nat → D} (h10 : Φ 10 = sp10) (hk4 : κ 4 = k4) (hk3 : κ 3 = k3) (hk5 : κ 5 = k5) : RdOk Φ κ c1185 2 (sp1185) := by
  rintro ds M Q E hM hd ⟨c, rfl, hc, hQ⟩
  have e5 : κ 5 = csD sDg := hk5
  have e3 : κ 3 = csD sWh := hk3
  have e4 : κ 4 = csD sWd := hk4
  walk_at "go"
  rw [e5, e3, e4]
  obtain ⟨dd, hdd⟩ : ∃ dd, dd = dlitP [Str.ofString "d", Str.ofString "s", Str.ofString "w"] [csD sDg, csD sWh, csD sWd] [] := ⟨_, rfl⟩
  have hv : ∀ c, dctVal dd (some (Sum.inr (tx [c]))) = kn3 c := fun c => by rw [hdd]; exact kn3_eq c
  rw [← hdd, hv]
  have low : ∀ c, kn3 c = none → nxt Φ κ c1185_2 (fun x _ M => E x M) (endsD M.length Q) [some (.str (tx [c])), some (.ref M.length)] (M ++ [.dct dd]) → True := fun _ _ _ => trivial
  by_cases h1 : c = 100
  · subst h1
    rw [show kn3 100 = some (csD sDg) from rfl]
    walk_at "go"
    rw [hv, show kn3 100 = some (csD sDg) from rfl]
    walk_at "go"
    exact .val rfl hM (nr_cs _) hQ
  by_cases h2 : c = 115
  · subst h2
    rw [show kn3 115 = some (csD sWh) from rfl]
    walk_at "go"
    rw [hv, show kn3 115 = some (csD sWh) from rfl]
    walk_at "go"
    exact .val rfl hM (nr_cs _) hQ
  by_cases h3 : c = 119
  · subst h3
    rw [show kn3 119 = some (csD sWd) from rfl]
    walk_at "go"
    rw [hv, show kn3 119 = some (csD sWd) from rfl]
    walk_at "go"
    exact .val rfl hM (nr_cs _) hQ
  rw [show kn3 c = none by unfold kn3; rw [if_neg h1, if_neg h2, if_neg h3]]
  walk_at "go"
  have h55 : (tx [c]).length ≤ 5592405 := by rw [tx_len]; show 1 ≤ _; decide
  rw [mtK_lower, mt_lower', low_tx hc]
  refine ⟨trivial, h55, ?_⟩
  walk_at "go"
  rw [hv]
  by_cases h4 : c = 68
  · subst h4
    rw [show kn3 (lowC 68) = some (csD sDg) from rfl]
    walk_at "go"
    rw [mtK_lower, mt_lower', low_tx (by decide)]
    refine ⟨trivial, h55, ?_⟩
    walk_at "go"
    rw [hv, show kn3 (lowC 68) = some (csD sDg) from rfl]
    walk_at "go"
    exact cmp_of (x := ([92, 68], sDg, nDg)) (by simp [namC]) h10 (.val rfl hM (nr_cs _) hQ)
  by_cases h5 : c = 83
  · subst h5
    rw [show kn3 (lowC 83) = some (csD sWh) from rfl]
    walk_at "go"
    rw [mtK_lower, mt_lower', low_tx (by decide)]
    refine ⟨trivial, h55, ?_⟩
    walk_at "go"
    rw [hv, show kn3 (lowC 83) = some (csD sWh) from rfl]
    walk_at "go"
    exact cmp_of (x := ([92, 83], sWh, nWh)) (by simp [namC]) h10 (.val rfl hM (nr_cs _) hQ)
  by_cases h6 : c = 87
  · subst h6
    rw [show kn3 (lowC 87) = some (csD sWd) from rfl]
    walk_at "go"
    rw [mtK_lower, mt_lower', low_tx (by decide)]
    refine ⟨trivial, h55, ?_⟩
    walk_at "go"
    rw [hv, show kn3 (lowC 87) = some (csD sWd) from rfl]
    walk_at "go"
    exact cmp_of (x := ([92, 87], sWd, nWd)) (by simp [namC]) h10 (.val rfl hM (nr_cs _) hQ)
  have hl : kn3 (lowC c) = none := by
    unfold kn3 lowC
    by_cases hu : 65 ≤ c ∧ c ≤ 90
    · rw [if_pos hu, if_neg (by omega), if_neg (by omega), if_neg (by omega)]
    · rw [if_neg hu, if_neg h1, if_neg h2, if_neg h3]
  rw [hl]
  walk_at "go"
  unfold seOf at hQ
  rw [if_neg h1, if_neg h2, if_neg h3, if_neg h4, if_neg h5, if_neg h6] at hQ
  exact .val rfl hM rfl hQ
abbrev c1015_9 : CSs := .cons (.raiseI "PatternError" ["column", "expected"] (.cons (.bin .add (.var 1) (.int 2)) (.cons (.str "a character behind the backslash") .nil))) .nil
abbrev c1015_12 : CSs := .cons (.ret (.tup (.cons (.str "code") (.cons (.bin .add (.bin .mul (.int 16) (.var 3)) (.var 4)) (.cons (.bin .add (.var 1) (.int 4)) .nil))))) .nil
abbrev c1015_11 : CSs := .cons (.set 4 (.call 1184 (.cons (.var 0) (.cons (.bin .add (.var 1) (.int 3)) (.cons (.glob 12) (.cons (.str "a hexadecimal digit") .nil)))))) c1015_12
abbrev c1015_10 : CSs := .cons (.set 3 (.call 1184 (.cons (.var 0) (.cons (.bin .add (.var 1) (.int 2)) (.cons (.glob 30) (.cons (.str "a digit from 0 to 7") .nil)))))) c1015_11
abbrev c1015_13 : CSs := .cons (.ret (.tup (.cons (.str "anchor") (.cons (.gidx "ANCHORS" [("A", "text_start"), ("z", "text_end"), ("b", "word_boundary"), ("B", "no_word_boundary")] (.var 2)) (.cons (.bin .add (.var 1) (.int 2)) .nil))))) .nil
abbrev c1015_14 : CSs := .cons (.ret (.tup (.cons (.str "set") (.cons (.call 1185 (.cons (.var 2) .nil)) (.cons (.bin .add (.var 1) (.int 2)) .nil))))) .nil
abbrev c1015_15 : CSs := .cons (.ret (.tup (.cons (.str "code") (.cons (.int 10) (.cons (.bin .add (.var 1) (.int 2)) .nil))))) .nil
abbrev c1015_16 : CSs := .cons (.ret (.tup (.cons (.str "code") (.cons (.int 9) (.cons (.bin .add (.var 1) (.int 2)) .nil))))) .nil
abbrev c1015_17 : CSs := .cons (.ret (.tup (.cons (.str "code") (.cons (.blt .ord (.cons (.var 2) .nil)) (.cons (.bin .add (.var 1) (.int 2)) .nil))))) .nil
abbrev c1015_8 : CSs := .cons (.raiseI "PatternError" ["column", "expected"] (.cons (.bin .add (.var 1) (.int 2)) (.cons (.str "a known escape") .nil))) .nil
abbrev c1015_7 : CSs := .cons (.ifs (.call 1186 (.cons (.var 2) .nil)) c1015_17 .nil) c1015_8
abbrev c1015_6 : CSs := .cons (.ifs (.cmp .eq (.var 2) (.str "t")) c1015_16 .nil) c1015_7
abbrev c1015_5 : CSs := .cons (.ifs (.cmp .eq (.var 2) (.str "n")) c1015_15 .nil) c1015_6
abbrev c1015_4 : CSs := .cons (.ifs (.cmp .notN (.call 1185 (.cons (.var 2) .nil)) .non) c1015_14 .nil) c1015_5
abbrev c1015_3 : CSs := .cons (.ifs (.gin "ANCHORS" [("A", "text_start"), ("z", "text_end"), ("b", "word_boundary"), ("B", "no_word_boundary")] (.var 2)) c1015_13 .nil) c1015_4
abbrev c1015_2 : CSs := .cons (.ifs (.cmp .eq (.var 2) (.str "x")) c1015_10 .nil) c1015_3
abbrev c1015_1 : CSs := .cons (.ifs (.cmp .eq (.var 2) (.str "")) c1015_9 .nil) c1015_2
abbrev c1015 : CSs := .cons (.set 2 (.slc false (.var 0) (.some (.bin .add (.var 1) (.int 1))) (.some (.bin .add (.var 1) (.int 2))))) c1015_1
def sp1015 : SpD := fun ds M Q E => ∃ (cs : List Nat) (i : Nat), ds = [.str (tx cs), .int i] ∧ SrcOk cs ∧ rsQ i (escR (cs.drop i)) E M fun r => Q (r.1.d (i + r.2)) M
theorem ln1015 : ∀ ds M Q E, sp1015 ds M Q E → ds.length = 2 := by
  rintro _ _ _ _ ⟨_, _, rfl, _⟩; rfl
theorem an_look {c : Nat} (h : c < 128) : List.lookup (tx [c]) [(Str.ofString "A", Str.ofString "text_start"), (Str.ofString "z", Str.ofString "text_end"), (Str.ofString "b", Str.ofString "word_boundary"), (Str.ofString "B", Str.ofString "no_word_boundary")] = anL c := by
  have : ∀ c : Nat, c < 128 → List.lookup (tx [c]) [(Str.ofString "A", Str.ofString "text_start"), (Str.ofString "z", Str.ofString "text_end"), (Str.ofString "b", Str.ofString "word_boundary"), (Str.ofString "B", Str.ofString "no_word_boundary")] = anL c := by decide +kernel
  exact this c h
theorem rd1015 {Φ : Nat → SpD} {κ : Nat → D} (h1184 : Φ 1184 = sp1184) (h1185 : Φ 1185 = sp1185) (h1186 : Φ 1186 = sp1186) (hk30 : κ 30 = k30) (hk12 : κ 12 = k12) : RdOk Φ κ c1015 5 (sp1015) := by
  rintro ds M Q E hM hd ⟨cs, i, rfl, hs, hQ⟩
  have t0 : Str.ofString "" = tx [] := by decide +kernel
  have tX : Str.ofString "x" = tx [120] := by decide +kernel
  have tN : Str.ofString "n" = tx [110] := by decide +kernel
  have tT : Str.ofString "t" = tx [116] := by decide +kernel
  have hsl := hs.len
  unfold escR at hQ
  rw [drop_at, drop_at, drop_at] at hQ
  have t30 : κ 30 = .str (tx ocL) := by
    rw [hk30]
    show D.str _ = D.str _
    congr 1
    try decide +kernel
  have t12 : κ 12 = .str (tx hxL) := by rw [hk12, k12_tx]
  have cast : ∀ (o : Nat) {s : Str}, (∀ L, E ⟨"PatternError", some [("expected", .str s), ("column", .int ((i + o : Nat) : Int))]⟩ (M ++ L)) → E ⟨"PatternError", some [("expected", .str s), ("column", .int ((i : Int) + o))]⟩ M := fun o s h => er0 h
  walk_at "go"
  rw [cut_one1, mk_tx]
  cases hc : cs[i + 1]? with
  | none =>
    rw [hc] at hQ
    rw [show (none : Option Nat).toList = [] from rfl, t0]
    walk_at "go"
    exact cast 2 hQ
  | some c =>
    have hc8 := hs.lt c (List.mem_of_getElem? hc)
    rw [hc] at hQ
    dsimp only at hQ
    rw [show (some c).toList = [c] from rfl, t0, if_neg (by rw [tx_nil_ne]; exact fun h => h)]
    walk_at "go"
    rw [tX]
    by_cases hx : c = 120
    · subst hx
      rw [if_pos rfl] at hQ
      walk_at "go"
      rw [h1184, t30]
      refine ⟨cs, ocL, i + 2, _, by rw [show (i : Int) + 2 = ((i + 2 : Nat) : Int) by omega], hs, .inl rfl, ?_⟩
      cases hh : hxV ocL cs[i + 2]? with
      | none =>
        rw [hh] at hQ
        dsimp only at hQ ⊢
        rw [rsQ_er] at hQ
        exact hQ
      | some v =>
        rw [hh] at hQ
        dsimp only at hQ ⊢
        walk_at "go"
        rw [t12, h1184]
        refine ⟨cs, hxL, i + 3, _, by rw [show (i : Int) + 3 = ((i + 3 : Nat) : Int) by omega], hs, .inr rfl, ?_⟩
        cases hl : hxV hxL cs[i + 3]? with
        | none =>
          rw [hl] at hQ
          dsimp only at hQ ⊢
          rw [rsQ_er] at hQ
          exact hQ
        | some w =>
          rw [hl] at hQ
          dsimp only at hQ ⊢
          rw [rsQ_ok] at hQ
          walk_at "go"
          refine ⟨.inl (by decide), ?_⟩
          rw [show (16 : Int) * (v : Int) + (w : Int) = ((16 * v + w : Nat) : Int) by omega]
          exact .keep hQ
    · rw [if_neg hx] at hQ
      rw [if_neg (by rw [tx_1]; exact hx)]
      walk_at "go"
      rw [an_look hc8]
      cases ha : anL c with
      | some s =>
        rw [ha] at hQ
        walk_at "go"
        rw [an_look hc8, ha]
        walk_at "go"
        exact .keep hQ
      | none =>
        rw [ha] at hQ
        dsimp only at hQ
        walk_at "go"
        rw [h1185]
        refine ⟨c, rfl, hc8, ?_⟩
        cases hse : seOf c with
        | some ps =>
          rw [hse] at hQ
          rw [show oSet (some ps) = csD ps from rfl, show isNon (csD ps) = false from rfl, if_pos rfl]
          walk_at "go"
          rw [h1185]
          refine ⟨c, rfl, hc8, ?_⟩
          rw [hse, show oSet (some ps) = csD ps from rfl]
          walk_at "go"
          exact .keep hQ
        | none =>
          rw [hse] at hQ
          dsimp only at hQ
          rw [show oSet none = D.non from rfl]
          walk_at "go"
          rw [tN]
          by_cases hn : c = 110
          · rw [if_pos hn] at hQ
            rw [if_pos (by rw [hn])]
            walk_at "go"
            exact .keep hQ
          rw [if_neg hn] at hQ
          rw [if_neg (by rw [tx_1]; exact hn)]
          walk_at "go"
          rw [tT]
          by_cases ht : c = 116
          · rw [if_pos ht] at hQ
            rw [if_pos (by rw [ht])]
            walk_at "go"
            exact .keep hQ
          rw [if_neg ht] at hQ
          rw [if_neg (by rw [tx_1]; exact ht)]
          walk_at "go"
          rw [h1186]
          refine ⟨c, rfl, ?_⟩
          cases hg : isSg c with
          | true =>
            rw [hg] at hQ
            walk_at "go"
            rw [show ((#[c].getD 0 0 : Nat) : Int) = (c : Int) from rfl]
            exact .keep hQ
          | false =>
            rw [hg] at hQ
            walk_at "go"
            exact cast 2 hQ
/-- two signs that make an operator -/
def opR (r : List Nat) : Option (List Nat) := match r with
  | 38 :: 38 :: _ => some [38, 38]
  | 45 :: 45 :: _ => some [45, 45]
  | _ => none
/-- an item of a class: its codes, the single one, how long it is -/
def itR (r : List Nat) : Rs (List (Int × Int) × Option Nat × Nat) := match r with
  | [] => .error (0, "")
  | c :: _ => if c = 92 then (match escR r with
      | .error e => .error e
      | .ok (.anc _, _) => .error (2, "a known escape")
      | .ok (.set ps, n) => .ok (ps, none, n)
      | .ok (.code k, n) => .ok ([((k : Int), (k : Int) + 1)], some k, n)) else .ok ([((c : Int), (c : Int) + 1)], some c, 1)
/-- the end of a range -/
def enR (r : List Nat) (f : Nat) : Rs (Nat × Nat) := match r with
  | [] => .error (1, "the end of the class")
  | c :: _ => if c = 93 ∨ c = 91 ∨ opR r ≠ none then .error (1, "a character behind the hyphen")
    else match itR r with
      | .error e => .error e
      | .ok (_, none, _) => .error (1, "a character behind the hyphen")
      | .ok (_, some k, n) => if k < f then .error (1, "a character not less than the first") else .ok (k, n)
theorem cut_two {cs : List Nat} {i : Nat} : cutD cs (some (i : Int)) (some ((i : Int) + 2)) = (cs.drop i).take 2 := by
  rw [show (i : Int) + 2 = ((i + 2 : Nat) : Int) by omega, cut_midT, show i + 2 - i = 2 by omega]
theorem opR_eq (r : List Nat) : opR r = if r.take 2 = [38, 38] then some [38, 38] else if r.take 2 = [45, 45] then some [45, 45] else none := by
  match r with
  | [] => rfl
  | [a] => simp [opR]
  | a :: b :: r =>
    have e : (a :: b :: r).take 2 = [a, b] := rfl
    by_cases h1 : (a :: b :: r).take 2 = [38, 38]
    · rw [if_pos h1]; rw [e] at h1; cases h1; rfl
    · rw [if_neg h1]
      by_cases h2 : (a :: b :: r).take 2 = [45, 45]
      · rw [if_pos h2]; rw [e] at h2; cases h2; rfl
      · rw [if_neg h2]
        unfold opR
        split
        · next e => cases e; exact absurd rfl h1
        · next e => cases e; exact absurd rfl h2
        · rfl
def c9_5 : CSs := .cons (.expr (.mth .append (.var 2) (.cons (.tup (.cons (.blt .max2 (.cons (.var 3) (.cons (.var 5) .nil))) (.cons (.blt .min2 (.cons (.var 4) (.cons (.var 6) .nil))) .nil))) .nil))) .nil
def c9_4 : CSs := .cons (.ifs (.cmp .lt (.blt .max2 (.cons (.var 3) (.cons (.var 5) .nil))) (.blt .min2 (.cons (.var 4) (.cons (.var 6) .nil)))) c9_5 .nil) .nil
def c9_3 : CSs := .cons (.fors (.tp [5, 6]) (.seq (.var 1)) c9_4) .nil
def c9_2 : CSs := .cons (.ret (.call 0 (.cons (.var 2) .nil))) .nil
def c9_1 : CSs := .cons (.fors (.tp [3, 4]) (.seq (.var 0)) c9_3) c9_2
def c9 : CSs := .cons (.set 2 (.lst true .nil)) c9_1
def sp9 : SpD := fun ds M Q _ => ∃ A B : List (Int × Int), ds = [.tup (A.map pr), .tup (B.map pr)] ∧ A.length * B.length ≤ sizeLine ∧ ∀ L, Canon L → (∀ x : Int, inP L x = true ↔ inP A x = true ∧ inP B x = true) → Q (.tup (L.map pr)) M
theorem ln9 : ∀ ds M Q E, sp9 ds M Q E → ds.length = 2 := by
  rintro _ _ _ _ ⟨_, _, rfl, _⟩; rfl
theorem rd9 {Φ : Nat → SpD} {κ : Nat → D} (h0 : Φ 0 = sp0) : RdOk Φ κ c9 7 sp9 := by
  rintro ds M Q E hM hd ⟨A, B, rfl, hsz, hQ⟩
  rw [c9]; walk_at "rd"
  rw [nxt_eq, c9_1]; walk_at "rd"
  refine loop_list (fun rem σ M' => ∃ acc qs x3 x4 x5 x6, σ = [some (.tup (A.map pr)), some (.tup (B.map pr)), some (.ref M.length), x3, x4, x5, x6] ∧ M' = M ++ [.lst (acc.map pr)] ∧ rem = qs.map pr ∧ acc.length + qs.length * B.length ≤ A.length * B.length ∧ ∀ x, (inP acc x = true ∨ (inP qs x = true ∧ inP B x = true)) ↔ inP A x = true ∧ inP B x = true) ?_ ?_ ?_ _ _ _ ⟨[], A, _, _, _, _, rfl, rfl, rfl, by simp, fun x => by rw [inP_nil]; simp⟩
  · intro _ _ _ _; trivial
  · rintro d rem σ M' nx ⟨acc, qs, x3, x4, x5, x6, rfl, rfl, he, hl, hi⟩ hn
    obtain ⟨q, qs, rfl, rfl, rfl⟩ : ∃ q qs', qs = q :: qs' ∧ d = pr q ∧ rem = qs'.map pr := by
      cases qs with
      | nil => cases he
      | cons q qs => cases he; exact ⟨q, qs, rfl, rfl, rfl⟩
    rw [pr_eq]; walk_at "rd"
    rw [c9_3]; walk_at "rd"
    rw [List.length_cons, Nat.add_mul, Nat.one_mul] at hl
    refine loop_list (fun rem σ M' => ∃ acc rs x5 x6, σ = [some (.tup (A.map pr)), some (.tup (B.map pr)), some (.ref M.length), some (.int q.1), some (.int q.2), x5, x6] ∧ M' = M ++ [.lst (acc.map pr)] ∧ rem = rs.map pr ∧ acc.length + (rs.length + qs.length * B.length) ≤ A.length * B.length ∧
      ∀ x, (inP acc x = true ∨ ((q.1 ≤ x ∧ x < q.2) ∧ inP rs x = true) ∨ (inP qs x = true ∧ inP B x = true)) ↔ inP A x = true ∧ inP B x = true) ?_ ?_ ?_ _ _ _ ⟨acc, B, _, _, rfl, rfl, rfl, by omega, fun x => ?_⟩
    · intro _ _ _ _; trivial
    · rintro d rem σ M' nx ⟨acc, rs, x5, x6, rfl, rfl, he, hl, hi⟩ hn
      obtain ⟨r, rs, rfl, rfl, rfl⟩ : ∃ r rs', rs = r :: rs' ∧ d = pr r ∧ rem = rs'.map pr := by
        cases rs with
        | nil => cases he
        | cons r rs => cases he; exact ⟨r, rs, rfl, rfl, rfl⟩
      rw [List.length_cons] at hl
      rw [pr_eq r]; walk_at "rd"
      rw [c9_4]; walk_at "rd"
      have mx : ∀ y : Int, (if r.1 > q.1 then r.1 else q.1) ≤ y ↔ r.1 ≤ y ∧ q.1 ≤ y := fun y => by split <;> omega
      have mn : ∀ y : Int, (y < if r.2 < q.2 then r.2 else q.2) ↔ y < r.2 ∧ y < q.2 := fun y => by split <;> omega
      by_cases hc : (if r.1 > q.1 then r.1 else q.1) < (if r.2 < q.2 then r.2 else q.2)
      · rw [if_pos hc, c9_5]; walk_at "rd"
        refine ⟨by rw [List.length_map]; omega, hn _ _ ⟨acc ++ [((if r.1 > q.1 then r.1 else q.1), (if r.2 < q.2 then r.2 else q.2))], rs, _, _, rfl, by rw [List.map_append]; rfl, rfl, by simp; omega, fun x => ?_⟩⟩
        rw [← hi x, inP_append, inP_one, inP_cons]
        simp only [mx, mn]
        constructor
        · rintro ((z | z) | z | z)
          · exact .inl z
          · exact .inr (.inl ⟨by omega, .inl (by omega)⟩)
          · exact .inr (.inl ⟨z.1, .inr z.2⟩)
          · exact .inr (.inr z)
        · rintro (z | ⟨z1, z2 | z2⟩ | z)
          · exact .inl (.inl z)
          · exact .inl (.inr (by omega))
          · exact .inr (.inl ⟨z1, z2⟩)
          · exact .inr (.inr z)
      · rw [if_neg hc]
        refine hn _ _ ⟨acc, rs, _, _, rfl, rfl, rfl, by omega, fun x => ?_⟩
        rw [← hi x, inP_cons]
        constructor
        · rintro (z | z | z)
          · exact .inl z
          · exact .inr (.inl ⟨z.1, .inr z.2⟩)
          · exact .inr (.inr z)
        · rintro (z | ⟨z1, z2 | z2⟩ | z)
          · exact .inl z
          · exfalso
            apply hc
            rw [mn]
            have a1 := (mx x).mpr ⟨z2.1, z1.1⟩
            omega
          · exact .inr (.inl ⟨z1, z2⟩)
          · exact .inr (.inr z)
    · rintro σ M' ⟨acc, rs, x5, x6, rfl, rfl, he, hl, hi⟩
      cases rs with
      | cons _ _ => cases he
      | nil =>
        refine hn _ _ ⟨acc, qs, _, _, _, _, rfl, rfl, rfl, by simpa using hl, fun x => ?_⟩
        rw [← hi x, inP_nil]; simp
    · rw [← hi x, inP_cons]
      constructor
      · rintro (z | z | z)
        · exact .inl z
        · exact .inr ⟨.inl z.1, z.2⟩
        · exact .inr ⟨.inr z.1, z.2⟩
      · rintro (z | ⟨z1 | z1, z2⟩)
        · exact .inl z
        · exact .inr (.inl ⟨z1, z2⟩)
        · exact .inr (.inr ⟨z1, z2⟩)
  · rintro σ M' ⟨acc, qs, x3, x4, x5, x6, rfl, rfl, he, hl, hi⟩
    cases qs with
    | cons _ _ => cases he
    | nil =>
      dsimp only; rw [nxt_eq, c9_2]; walk_at "rd"
      rw [h0]
      refine ⟨_, acc, rfl, by rw [lstOf_R, at_new0]; rfl, by simp at hl; omega, fun L hL hx hl => Fin.tail rfl (noRefs_lt (noRefs_pr L)) hM (hQ L hL fun x => ?_)⟩
      rw [hx, ← hi x, inP_nil]; simp
def c17 : CSs := .cons (.ret (.comp false (.tup (.cons (.bin .add (.var 2) (.var 1)) (.cons (.bin .add (.var 3) (.var 1)) .nil))) (.tp [2, 3]) (.seq (.var 0)) .none [2, 3])) .nil
def shP (o : Int) (p : Int × Int) : Int × Int := (p.1 + o, p.2 + o)
theorem inP_sh {A : List (Int × Int)} {o x : Int} : inP (A.map (shP o)) x = inP A (x - o) := by
  rw [Bool.eq_iff_iff, inP_iff, inP_iff]
  constructor
  · rintro ⟨p, hp, h1, h2⟩
    obtain ⟨q, hq, rfl⟩ := List.mem_map.mp hp
    have h1 : q.1 + o ≤ x := h1
    have h2 : x < q.2 + o := h2
    exact ⟨q, hq, by omega, by omega⟩
  · rintro ⟨p, hp, h1, h2⟩
    exact ⟨shP o p, List.mem_map_of_mem hp, by show p.1 + o ≤ x; omega, by show x < p.2 + o; omega⟩
def sp17 : SpD := fun ds M Q _ => ∃ (A : List (Int × Int)) (o : Int), ds = [.tup (A.map pr), .int o] ∧ A.length ≤ sizeLine ∧ Q (.lst ((A.map (shP o)).map pr)) M
theorem ln17 : ∀ ds M Q E, sp17 ds M Q E → ds.length = 2 := by
  rintro _ _ _ _ ⟨_, _, rfl, _⟩; rfl
theorem rd17 {Φ : Nat → SpD} {κ : Nat → D} : RdOk Φ κ c17 4 sp17 := by
  rintro ds M Q E hM hd ⟨A, o, rfl, hsz, hQ⟩
  rw [c17]; walk_at "rd"
  refine comp_map pr (fun p : Int × Int => pr (shP o p)) trivial hsz ?_ ?_
  · intro p hp yes no hy
    rw [pr_eq]; walk_at "rd"
    exact hy
  · rw [List.map_map] at hQ
    exact .keep hQ
def oc (x : Int) : Int := if 65 ≤ x ∧ x ≤ 90 then x + 32 else if 97 ≤ x ∧ x ≤ 122 then x - 32 else x
def c18_2 : CSs := .cons (.ret (.call 0 (.cons (.bin .add (.bin .add (.blt .list (.cons (.var 0) .nil)) (.call 17 (.cons (.var 1) (.cons (.int 32) .nil)))) (.call 17 (.cons (.var 2) (.cons (.neg (.int 32)) .nil)))) .nil))) .nil
def c18_1 : CSs := .cons (.set 2 (.call 9 (.cons (.var 0) (.cons (.tup (.cons (.tup (.cons (.int 97) (.cons (.int 123) .nil))) .nil)) .nil)))) c18_2
def c18 : CSs := .cons (.set 1 (.call 9 (.cons (.var 0) (.cons (.tup (.cons (.tup (.cons (.int 65) (.cons (.int 91) .nil))) .nil)) .nil)))) c18_1
def sp18 : SpD := fun ds M Q _ => ∃ A : List (Int × Int), ds = [.tup (A.map pr)] ∧ Canon A ∧ (∀ x, inP A x = true → 0 ≤ x ∧ x < 128) ∧ ∀ L, Canon L → (∀ x : Int, inP L x = true ↔ inP A x = true ∨ inP A (oc x) = true) → Q (.tup (L.map pr)) M
theorem ln18 : ∀ ds M Q E, sp18 ds M Q E → ds.length = 1 := by
  rintro _ _ _ _ ⟨_, rfl, _⟩; rfl
theorem rd18 {Φ : Nat → SpD} {κ : Nat → D} (h9 : Φ 9 = sp9) (h0 : Φ 0 = sp0) (h17 : Φ 17 = sp17) : RdOk Φ κ c18 3 sp18 := by
  rintro ds M Q E hM hd ⟨A, rfl, hA, hA3, hQ⟩
  have a1 := canon_64 hA hA3
  rw [c18]; walk_at "rd"
  rw [h9]
  refine ⟨A, [(65, 91)], rfl, by rw [size_eq]; simp; omega, fun U hU hU2 => ?_⟩
  try dsimp only
  rw [nxt_eq, c18_1]; walk_at "rd"
  rw [h9]
  refine ⟨A, [(97, 123)], rfl, by rw [size_eq]; simp; omega, fun W hW hW2 => ?_⟩
  have u1 := canon_64 hU fun x hx => hA3 x ((hU2 x).mp hx).1
  have w1 := canon_64 hW fun x hx => hA3 x ((hW2 x).mp hx).1
  try dsimp only
  rw [nxt_eq, c18_2]; walk_at "rd"
  rw [h17]
  refine ⟨U, 32, rfl, by rw [size_eq]; omega, ?_⟩
  walk_at "rd"
  refine ⟨by rw [List.length_map, List.length_map, List.length_map, size_eq]; omega, ?_⟩
  refine ⟨W, -32, rfl, by rw [size_eq]; omega, ?_⟩
  walk_at "rd"
  refine ⟨by rw [List.length_map, List.length_map, List.length_map, List.length_map, List.length_map, size_eq]; omega, ?_⟩
  rw [h0]
  refine ⟨_, A ++ (U.map (shP 32) ++ W.map (shP (-32))), rfl, by rw [List.map_append, List.map_append]; rfl, by simp [size_eq]; omega, fun L hL hx hl => .keep (hQ L hL fun x => ?_)⟩
  rw [hx, inP_append, inP_append, inP_sh, inP_sh, hU2, hW2, inP_one, inP_one, show x - -32 = x + 32 by omega]
  unfold oc
  by_cases z1 : 65 ≤ x ∧ x ≤ 90
  · rw [if_pos z1]
    constructor
    · rintro (z | z | z)
      · exact .inl z
      · have : (65 : Int) ≤ x - 32 := z.2.1
        omega
      · exact .inr z.1
    · rintro (z | z)
      · exact .inl z
      · exact .inr (.inr ⟨z, by show (97 : Int) ≤ x + 32; omega, by show x + 32 < 123; omega⟩)
  · rw [if_neg z1]
    by_cases z2 : 97 ≤ x ∧ x ≤ 122
    · rw [if_pos z2]
      constructor
      · rintro (z | z | z)
        · exact .inl z
        · exact .inr z.1
        · have : x + 32 < (123 : Int) := z.2.2
          omega
      · rintro (z | z)
        · exact .inl z
        · exact .inr (.inl ⟨z, by show (65 : Int) ≤ x - 32; omega, by show x - 32 < 91; omega⟩)
    · rw [if_neg z2]
      constructor
      · rintro (z | z | z)
        · exact .inl z
        · have h1 : (65 : Int) ≤ x - 32 := z.2.1
          have h2 : x - 32 < (91 : Int) := z.2.2
          omega
        · have h1 : (97 : Int) ≤ x + 32 := z.2.1
          have h2 : x + 32 < (123 : Int) := z.2.2
          omega
      · rintro (z | z) <;> exact .inl z
/-- the one form of the codes for which f holds -/
noncomputable def cnS (f : Int → Prop) : List (Int × Int) := Classical.epsilon fun L => Canon L ∧ ∀ x : Int, inP L x = true ↔ f x
theorem cnS_eq {f : Int → Prop} {L : List (Int × Int)} (h : Canon L) (hx : ∀ x : Int, inP L x = true ↔ f x) : L = cnS f := by
  have := Classical.epsilon_spec (p := fun L => Canon L ∧ ∀ x : Int, inP L x = true ↔ f x) ⟨L, h, hx⟩
  refine canon_eq h this.1 fun x => ?_
  rw [Bool.eq_iff_iff, hx]; exact (this.2 x).symm
theorem cnS_ok {f : Int → Prop} (h : ∀ x, f x → 0 ≤ x ∧ x < 128) : setOk (cnS f) ∧ ∀ x : Int, inP (cnS f) x = true ↔ f x := by
  have := Classical.epsilon_spec (p := fun L => Canon L ∧ ∀ x : Int, inP L x = true ↔ f x) (can_ex _ h)
  have h2 : ∀ x : Int, inP (cnS f) x = true → 0 ≤ x ∧ x < 128 := fun x z => h x ((this.2 x).mp z)
  exact ⟨⟨by have := canon_64 this.1 h2; exact Nat.le_trans this (by decide), this.1, h2⟩, this.2⟩
noncomputable def makeS (ps : List (Int × Int)) : List (Int × Int) := cnS fun x => inP ps x = true
noncomputable def foldS (A : List (Int × Int)) : List (Int × Int) := cnS fun x => inP A x = true ∨ inP A (oc x) = true
noncomputable def comS (A B : List (Int × Int)) : List (Int × Int) := cnS fun x => inP A x = true ∧ inP B x = true
noncomputable def witS (A B : List (Int × Int)) : List (Int × Int) := cnS fun x => inP A x = true ∧ ¬ inP B x = true
noncomputable def cplS (A : List (Int × Int)) : List (Int × Int) := cnS fun x => (0 ≤ x ∧ x < 128) ∧ ¬ inP A x = true
/-- codes below 128 -/
def prOk (ps : List (Int × Int)) : Prop := ∀ p ∈ ps, 0 ≤ p.1 ∧ p.2 ≤ 128
theorem prOk_in {ps : List (Int × Int)} (h : prOk ps) (x : Int) (hx : inP ps x = true) : 0 ≤ x ∧ x < 128 := by
  obtain ⟨p, hp, h1, h2⟩ := inP_iff.mp hx
  have := h p hp
  omega
theorem oc_in {x : Int} (h : 0 ≤ oc x ∧ oc x < 128) : 0 ≤ x ∧ x < 128 := by
  unfold oc at h
  split at h
  · omega
  · split at h <;> omega
theorem makeS_ok {ps : List (Int × Int)} (h : prOk ps) : setOk (makeS ps) := (cnS_ok fun x hx => prOk_in h x hx).1
theorem foldS_ok {A : List (Int × Int)} (h : setOk A) : setOk (foldS A) := (cnS_ok fun x hx => hx.elim (h.2.2 x) fun z => oc_in (h.2.2 _ z)).1
theorem comS_ok {A B : List (Int × Int)} (h : setOk A) : setOk (comS A B) := (cnS_ok fun x hx => h.2.2 x hx.1).1
theorem witS_ok {A B : List (Int × Int)} (h : setOk A) : setOk (witS A B) := (cnS_ok fun x hx => h.2.2 x hx.1).1
theorem cplS_ok {A : List (Int × Int)} : setOk (cplS A) := (cnS_ok fun x hx => hx.1).1
theorem pr_of {A : List (Int × Int)} (h : setOk A) : prOk A := by
  intro p hp
  have h1 := h.2.1.lt p hp
  have h2 := h.2.2 p.1 (inP_iff.mpr ⟨p, hp, Int.le_refl _, h1⟩)
  have h3 := h.2.2 (p.2 - 1) (inP_iff.mpr ⟨p, hp, by omega, by omega⟩)
  omega
/-- the pairs of a part -/
def prL (cs : List Nat) (cl : Nat → Rs (List (Int × Int) × Nat)) : Nat → Nat → List (Int × Int) → Option Nat → Rs (List (Int × Int) × Nat)
  | 0, i, _, _ => .error (i, "")
  | f + 1, i, ps, sg => match cs[i]? with
    | none => .error (i + 1, "the end of the class")
    | some c => if c = 93 ∨ opR (cs.drop i) ≠ none then .ok (ps, i)
      else if c = 91 then (match cl i with
        | .error e => .error e
        | .ok (q, j) => prL cs cl f j (ps ++ q) none)
      else if c ≠ 45 then (match itR (cs.drop i) with
        | .error e => .error (i + e.1, e.2)
        | .ok (q, s, n) => prL cs cl f (i + n) (ps ++ q) s)
      else match sg with
        | none => .error (i + 1, "a backslash ahead of this character")
        | some k => match enR (cs.drop (i + 1)) k with
          | .error e => .error (i + 1 + e.1, e.2)
          | .ok (l, n) => prL cs cl f (i + 1 + n) (ps ++ [((k : Int), (l : Int) + 1)]) none
noncomputable def prR (cs : List Nat) (cl : Nat → Rs (List (Int × Int) × Nat)) (fold : Bool) (i : Nat) : Rs (List (Int × Int) × Bool × Nat) := match prL cs cl (cs.length + 1) i [] none with
  | .error e => .error e
  | .ok (ps, j) => .ok (if fold = true then foldS (makeS ps) else makeS ps, decide (i < j), j)
/-- what stands behind operators -/
noncomputable def opL (cs : List Nat) (pr : Nat → Rs (List (Int × Int) × Bool × Nat)) : Nat → Nat → List (Int × Int) → Rs (List (Int × Int) × Nat)
  | 0, i, _ => .error (i, "")
  | f + 1, i, A => match opR (cs.drop i) with
    | none => .ok (A, i)
    | some o => match pr (i + 2) with
      | .error e => .error e
      | .ok (B, fl, j) => if fl = true then opL cs pr f j (if o = [38, 38] then comS A B else witS A B) else .error (j + 1, "something behind the operator")
/-- a class, d deep at most -/
noncomputable def clR (cs : List Nat) (fold : Bool) : Nat → Nat → Rs (List (Int × Int) × Nat)
  | 0, i => .error (i + 1, "less nesting")
  | d + 1, i => match prR cs (clR cs fold d) fold (i + 1 + (if cs[i + 1]? = some 94 then 1 else 0)) with
    | .error e => .error e
    | .ok (A, fl, j) => if opR (cs.drop j) ≠ none ∧ fl = false then .error (j + 1, "something ahead of the operator")
      else match opL cs (prR cs (clR cs fold d) fold) (cs.length + 1) j A with
        | .error e => .error e
        | .ok (B, k) => .ok (if cs[i + 1]? = some 94 then cplS B else B, k + 1)
theorem hxV_oc {o : Option Nat} {v : Nat} (h : hxV ocL o = some v) : v < 8 ∧ ∃ c, o = some c := by
  unfold hxV at h
  cases o with
  | none => cases h
  | some c =>
    dsimp only at h
    split at h
    · next hm =>
      cases h
      have : ∀ x ∈ ocL, hxL.idxOf x < 8 := by decide
      exact ⟨this _ hm, c, rfl⟩
    · cases h
theorem hxV_hx {o : Option Nat} {v : Nat} (h : hxV hxL o = some v) : v < 16 ∧ ∃ c, o = some c := by
  unfold hxV at h
  cases o with
  | none => cases h
  | some c =>
    dsimp only at h
    split at h
    · next hm =>
      cases h
      have : ∀ x ∈ hxL, hxL.idxOf x < 16 := by decide
      exact ⟨this _ hm, c, rfl⟩
    · cases h
def Esc.ok : Esc → Prop
  | .code n => n < 128
  | .anc s => ancOk s
  | .set ps => setOk ps
theorem seOf_ok {c : Nat} {ps : List (Int × Int)} (h : seOf c = some ps) : setOk ps := by
  have a1 : setOk sDg := setOk_of (by decide) (by simp [Canon, sDg]) (by simp [sDg])
  have a2 : setOk sWh := setOk_of (by decide) (by simp [Canon, sWh]) (by simp [sWh])
  have a3 : setOk sWd := setOk_of (by decide) (by simp [Canon, sWd]) (by simp [sWd])
  have b1 : setOk nDg := setOk_of (by decide) (by simp [Canon, nDg]) (by simp [nDg])
  have b2 : setOk nWh := setOk_of (by decide) (by simp [Canon, nWh]) (by simp [nWh])
  have b3 : setOk nWd := setOk_of (by decide) (by simp [Canon, nWd]) (by simp [nWd])
  unfold seOf at h
  repeat' split at h
  all_goals first | (cases h; assumption) | cases h
theorem anL_ok {c : Nat} {s : Str} (h : anL c = some s) : ancOk s := by
  unfold anL at h
  unfold ancOk
  repeat' split at h
  all_goals first | (cases h; simp) | cases h
theorem at_lt {r : List Nat} {j c : Nat} (h : r[j]? = some c) : j + 1 ≤ r.length := (List.getElem?_eq_some_iff.mp h).1
theorem escR_ok {r : List Nat} {x : Esc} {n : Nat} (hr : ∀ c ∈ r, c < 128) (h : escR r = .ok (x, n)) : 2 ≤ n ∧ n ≤ r.length ∧ x.ok := by
  unfold escR at h
  cases h1 : r[1]? with
  | none => rw [h1] at h; cases h
  | some c =>
    have l1 := at_lt h1
    have hc := hr c (List.mem_of_getElem? h1)
    rw [h1] at h
    dsimp only at h
    split at h
    · cases h2 : hxV ocL r[2]? with
      | none => rw [h2] at h; cases h
      | some v =>
        rw [h2] at h
        dsimp only at h
        cases h3 : hxV hxL r[3]? with
        | none => rw [h3] at h; cases h
        | some w =>
          rw [h3] at h
          dsimp only at h
          cases h
          obtain ⟨a, _⟩ := hxV_oc h2
          obtain ⟨b, d, e⟩ := hxV_hx h3
          exact ⟨by omega, at_lt e, by show 16 * v + w < 128; omega⟩
    · cases ha : anL c with
      | some s =>
        rw [ha] at h
        cases h
        exact ⟨Nat.le_refl _, l1, anL_ok ha⟩
      | none =>
        rw [ha] at h
        dsimp only at h
        cases hs : seOf c with
        | some ps =>
          rw [hs] at h
          cases h
          exact ⟨Nat.le_refl _, l1, seOf_ok hs⟩
        | none =>
          rw [hs] at h
          dsimp only at h
          split at h
          · cases h; exact ⟨Nat.le_refl _, l1, by show 10 < 128; decide⟩
          split at h
          · cases h; exact ⟨Nat.le_refl _, l1, by show 9 < 128; decide⟩
          split at h
          · cases h; exact ⟨Nat.le_refl _, l1, hc⟩
          · cases h
theorem prOk_1 {k : Nat} (h : k < 128) : prOk [((k : Int), (k : Int) + 1)] := by
  intro p hp
  rw [List.mem_singleton.mp hp]
  exact ⟨by show (0 : Int) ≤ k; omega, by show (k : Int) + 1 ≤ 128; omega⟩
theorem itR_ok {r : List Nat} {q : List (Int × Int)} {s : Option Nat} {n : Nat} (hr : ∀ c ∈ r, c < 128) (h : itR r = .ok (q, s, n)) : 1 ≤ n ∧ n ≤ r.length ∧ prOk q ∧ q.length ≤ 100 ∧ ∀ k, s = some k → k < 128 := by
  unfold itR at h
  cases r with
  | nil => cases h
  | cons c r =>
    dsimp only at h
    split at h
    · cases he : escR (c :: r) with
      | error e => rw [he] at h; cases h
      | ok x =>
        rw [he] at h
        obtain ⟨x, m⟩ := x
        obtain ⟨n1, n2, n3⟩ := escR_ok hr he
        cases x with
        | code k => cases h; exact ⟨by omega, n2, prOk_1 n3, by simp, fun k hk => by cases hk; exact n3⟩
        | anc s => cases h
        | set ps => cases h; exact ⟨by omega, n2, pr_of n3, n3.1, fun k hk => by cases hk⟩
    · cases h
      have := hr c List.mem_cons_self
      exact ⟨Nat.le_refl _, by simp, prOk_1 this, by simp, fun k hk => by cases hk; exact this⟩
theorem enR_ok {r : List Nat} {f l n : Nat} (hr : ∀ c ∈ r, c < 128) (h : enR r f = .ok (l, n)) : 1 ≤ n ∧ n ≤ r.length ∧ l < 128 ∧ f ≤ l := by
  unfold enR at h
  cases r with
  | nil => cases h
  | cons c r =>
    dsimp only at h
    split at h
    · cases h
    · cases hi : itR (c :: r) with
      | error e => rw [hi] at h; cases h
      | ok x =>
        rw [hi] at h
        obtain ⟨q, s, m⟩ := x
        obtain ⟨n1, n2, n3, n4, n5⟩ := itR_ok hr hi
        cases s with
        | none => cases h
        | some k =>
          dsimp only at h
          split at h
          · cases h
          · cases h; exact ⟨n1, n2, n5 _ rfl, by omega⟩
abbrev c1183_3 : CSs := .cons (.ret (.var 2)) .nil
abbrev c1183_2 : CSs := .cons (.ret (.str "")) .nil
abbrev c1183_1 : CSs := .cons (.ifs (.or (.cmp .eq (.var 2) (.str "&&")) (.cmp .eq (.var 2) (.str "--"))) c1183_3 .nil) c1183_2
abbrev c1183 : CSs := .cons (.set 2 (.slc false (.var 0) (.some (.var 1)) (.some (.bin .add (.var 1) (.int 2))))) c1183_1
def opD' : Option (List Nat) → D
  | none => .str (tx [])
  | some l => .str (tx l)
def sp1183 : SpD := fun ds M Q E => ∃ (cs : List Nat) (i : Nat), ds = [.str (tx cs), .int i] ∧ SrcOk cs ∧ Q (opD' (opR (cs.drop i))) M
theorem ln1183 : ∀ ds M Q E, sp1183 ds M Q E → ds.length = 2 := by
  rintro _ _ _ _ ⟨_, _, rfl, _⟩; rfl
theorem rd1183 {Φ : Nat → SpD} {κ : Nat → D} : RdOk Φ κ c1183 3 (sp1183) := by
  rintro ds M Q E hM hd ⟨cs, i, rfl, hs, hQ⟩
  have t0 : Str.ofString "" = tx [] := by decide +kernel
  have ta : Str.ofString "&&" = tx [38, 38] := by decide +kernel
  have tb : Str.ofString "--" = tx [45, 45] := by decide +kernel
  have hsl := hs.len
  rw [opR_eq] at hQ
  walk_at "go"
  rw [cut_two, mk_tx, ta]
  generalize (cs.drop i).take 2 = p at hQ ⊢
  by_cases h1 : p = [38, 38]
  · rw [if_pos h1] at hQ
    rw [if_pos (by rw [h1])]
    walk_at "go"
    rw [h1]
    exact .keep hQ
  rw [if_neg h1] at hQ
  rw [if_neg (fun h => h1 (tx_inj h)), tb]
  by_cases h2 : p = [45, 45]
  · rw [if_pos h2] at hQ
    rw [if_pos (by rw [h2])]
    walk_at "go"
    rw [h2]
    exact .keep hQ
  rw [if_neg h2] at hQ
  rw [if_neg (fun h => h2 (tx_inj h))]
  walk_at "go"
  rw [t0]
  exact .keep hQ
abbrev c1187_6 : CSs := .cons (.ret (.tup (.cons (.tup (.cons (.tup (.cons (.blt .ord (.cons (.var 2) .nil)) (.cons (.bin .add (.blt .ord (.cons (.var 2) .nil)) (.int 1)) .nil))) .nil)) (.cons (.blt .ord (.cons (.var 2) .nil)) (.cons (.bin .add (.var 1) (.int 1)) .nil))))) .nil
abbrev c1187_7 : CSs := .cons (.raiseI "PatternError" ["column", "expected"] (.cons (.bin .add (.var 1) (.int 2)) (.cons (.str "a known escape") .nil))) .nil
abbrev c1187_8 : CSs := .cons (.ret (.tup (.cons (.var 4) (.cons .non (.cons (.var 5) .nil))))) .nil
abbrev c1187_5 : CSs := .cons (.ret (.tup (.cons (.tup (.cons (.tup (.cons (.var 4) (.cons (.bin .add (.var 4) (.int 1)) .nil))) .nil)) (.cons (.var 4) (.cons (.var 5) .nil))))) .nil
abbrev c1187_4 : CSs := .cons (.ifs (.cmp .eq (.var 3) (.str "set")) c1187_8 .nil) c1187_5
abbrev c1187_3 : CSs := .cons (.ifs (.cmp .eq (.var 3) (.str "anchor")) c1187_7 .nil) c1187_4
abbrev c1187_2 : CSs := .cons (.setT [3, 4, 5] (.call 1015 (.cons (.var 0) (.cons (.var 1) .nil)))) c1187_3
abbrev c1187_1 : CSs := .cons (.ifs (.cmp .ne (.var 2) (.str "\\")) c1187_6 .nil) c1187_2
abbrev c1187 : CSs := .cons (.set 2 (.idx (.var 0) (.var 1))) c1187_1
def oN : Option Nat → D
  | none => .non
  | some k => .int k
def itD (i : Nat) (x : List (Int × Int) × Option Nat × Nat) : D := .tup [csD x.1, oN x.2.1, .int ((i + x.2.2 : Nat) : Int)]
def sp1187 : SpD := fun ds M Q E => ∃ (cs : List Nat) (i : Nat), ds = [.str (tx cs), .int i] ∧ SrcOk cs ∧ i < cs.length ∧ rsQ i (itR (cs.drop i)) E M fun x => Q (itD i x) M
theorem ln1187 : ∀ ds M Q E, sp1187 ds M Q E → ds.length = 2 := by
  rintro _ _ _ _ ⟨_, _, rfl, _⟩; rfl
theorem rd1187 {Φ : Nat → SpD} {κ : Nat → D} (h1015 : Φ 1015 = sp1015) : RdOk Φ κ c1187 6 (sp1187) := by
  rintro ds M Q E hM hd ⟨cs, i, rfl, hs, hi, hQ⟩
  have t92 : Str.ofString "\\" = tx [92] := by decide +kernel
  have hsl := hs.len
  obtain ⟨c, hc⟩ : ∃ c, cs[i]? = some c := ⟨_, List.getElem?_eq_getElem hi⟩
  have hd : cs.drop i = c :: cs.drop (i + 1) := by rw [List.drop_eq_getElem_cons hi, (List.getElem?_eq_some_iff.mp hc).2]
  rw [hd] at hQ
  unfold itR at hQ
  dsimp only at hQ
  rw [← hd] at hQ
  walk_at "go"
  refine ix_txn (by rw [size_eq]; omega) hc ?_
  walk_at "go"
  rw [t92]
  by_cases h : c = 92
  · rw [if_pos h] at hQ
    rw [decide_eq_true (by rw [h])]
    walk_at "go"
    rw [h1015]
    refine ⟨cs, i, rfl, hs, ?_⟩
    cases he : escR (cs.drop i) with
    | error e => rw [he] at hQ; exact hQ
    | ok x =>
      rw [he] at hQ
      obtain ⟨x, n⟩ := x
      rw [rsQ_ok]
      cases x with
      | code k =>
        simp only [Esc.d]
        walk_at "go"
        exact .keep hQ
      | anc s =>
        simp only [Esc.d]
        walk_at "go"
        exact er0 hQ
      | set ps =>
        simp only [Esc.d]
        walk_at "go"
        exact .keep hQ
  · rw [if_neg h] at hQ
    rw [decide_eq_false (by rw [tx_1]; exact h)]
    walk_at "go"
    exact .keep hQ
abbrev c1188_7 : CSs := .cons (.raiseI "PatternError" ["column", "expected"] (.cons (.bin .add (.var 1) (.int 1)) (.cons (.str "the end of the class") .nil))) .nil
abbrev c1188_8 : CSs := .cons (.raiseI "PatternError" ["column", "expected"] (.cons (.bin .add (.var 1) (.int 1)) (.cons (.str "a character behind the hyphen") .nil))) .nil
abbrev c1188_9 : CSs := .cons (.raiseI "PatternError" ["column", "expected"] (.cons (.bin .add (.var 1) (.int 1)) (.cons (.str "a character behind the hyphen") .nil))) .nil
abbrev c1188_10 : CSs := .cons (.raiseI "PatternError" ["column", "expected"] (.cons (.bin .add (.var 1) (.int 1)) (.cons (.str "a character not less than the first") .nil))) .nil
abbrev c1188_6 : CSs := .cons (.ret (.tup (.cons (.var 4) (.cons (.var 5) .nil)))) .nil
abbrev c1188_5 : CSs := .cons (.ifs (.cmp .lt (.var 4) (.var 2)) c1188_10 .nil) c1188_6
abbrev c1188_4 : CSs := .cons (.ifs (.cmp .isN (.var 4) .non) c1188_9 .nil) c1188_5
abbrev c1188_3 : CSs := .cons (.setT [4, 5] (.slc false (.call 1187 (.cons (.var 0) (.cons (.var 1) .nil))) (.some (.int 1)) .none)) c1188_4
abbrev c1188_2 : CSs := .cons (.ifs (.or (.cmp .eq (.var 3) (.str "]")) (.or (.cmp .eq (.var 3) (.str "[")) (.cmp .ne (.call 1183 (.cons (.var 0) (.cons (.var 1) .nil))) (.str "")))) c1188_8 .nil) c1188_3
abbrev c1188_1 : CSs := .cons (.ifs (.cmp .eq (.var 3) (.str "")) c1188_7 .nil) c1188_2
abbrev c1188 : CSs := .cons (.set 3 (.slc false (.var 0) (.some (.var 1)) (.some (.bin .add (.var 1) (.int 1))))) c1188_1
def sp1188 : SpD := fun ds M Q E => ∃ (cs : List Nat) (i f : Nat), ds = [.str (tx cs), .int i, .int f] ∧ SrcOk cs ∧ rsQ i (enR (cs.drop i) f) E M fun x => Q (.tup [.int x.1, .int ((i + x.2 : Nat) : Int)]) M
theorem ln1188 : ∀ ds M Q E, sp1188 ds M Q E → ds.length = 3 := by
  rintro _ _ _ _ ⟨_, _, _, rfl, _⟩; rfl
theorem rd1188 {Φ : Nat → SpD} {κ : Nat → D} (h1183 : Φ 1183 = sp1183) (h1187 : Φ 1187 = sp1187) : RdOk Φ κ c1188 6 (sp1188) := by
  rintro ds M Q E hM hd ⟨cs, i, f, rfl, hs, hQ⟩
  have t0 : Str.ofString "" = tx [] := by decide +kernel
  have ta : Str.ofString "]" = tx [93] := by decide +kernel
  have tb : Str.ofString "[" = tx [91] := by decide +kernel
  have hsl := hs.len
  walk_at "go"
  rw [cut_one, mk_tx]
  cases hc : cs[i]? with
  | none =>
    rw [List.drop_of_length_le (by simpa using hc)] at hQ
    rw [show (none : Option Nat).toList = [] from rfl, t0]
    walk_at "go"
    exact er0 hQ
  | some c =>
    have hi := (List.getElem?_eq_some_iff.mp hc).1
    have hd : cs.drop i = c :: cs.drop (i + 1) := by rw [List.drop_eq_getElem_cons hi, (List.getElem?_eq_some_iff.mp hc).2]
    rw [hd] at hQ
    unfold enR at hQ
    dsimp only at hQ
    rw [← hd] at hQ
    rw [show (some c).toList = [c] from rfl, t0, if_neg (by rw [tx_nil_ne]; exact fun h => h)]
    walk_at "go"
    rw [ta]
    have bad : (c = 93 ∨ c = 91 ∨ opR (cs.drop i) ≠ none) → ∀ K : EndsD, nxt Φ κ c1188_8 (fun x _ M => E x M) K [some (.str (tx cs)), some (.int i), some (.int f), some (.str (tx [c])), none, none] M := by
      intro h K
      rw [if_pos h] at hQ
      walk_at "go"
      exact er0 hQ
    by_cases h1 : c = 93
    · rw [if_pos (by rw [h1])]
      exact bad (.inl h1) _
    rw [if_neg (by rw [tx_1]; exact h1)]
    walk_at "go"
    rw [tb]
    by_cases h2 : c = 91
    · rw [if_pos (by rw [h2])]
      exact bad (.inr (.inl h2)) _
    rw [if_neg (by rw [tx_1]; exact h2)]
    walk_at "go"
    rw [h1183]
    refine ⟨cs, i, rfl, hs, ?_⟩
    cases ho : opR (cs.drop i) with
    | some o =>
      have hne : tx o ≠ tx [] := by
        rw [opR_eq] at ho
        intro z
        have := tx_inj z
        split at ho
        · cases ho; cases this
        · split at ho
          · cases ho; cases this
          · cases ho
      rw [show opD' (some o) = .str (tx o) from rfl]
      walk_at "go"
      rw [t0, decide_eq_false hne]
      walk_at "rd2"
      exact bad (.inr (.inr (by rw [ho]; simp))) _
    | none =>
      rw [if_neg (by rw [ho]; simp [h1, h2])] at hQ
      rw [show opD' none = .str (tx []) from rfl, ← t0]
      walk_at "go"
      rw [h1187]
      refine ⟨cs, i, rfl, hs, hi, ?_⟩
      cases hr : itR (cs.drop i) with
      | error e => rw [hr] at hQ; exact hQ
      | ok x =>
        obtain ⟨q, s, n⟩ := x
        rw [hr] at hQ
        rw [rsQ_ok]
        have ec : ∀ y z : D, cutD [csD q, y, z] (some 1) none = [y, z] := fun y z => rfl
        cases s with
        | none =>
          simp only [itD, oN]
          walk_at "go"
          rw [ec]
          walk_at "go"
          exact er0 hQ
        | some k =>
          have hQ : rsQ i (if k < f then .error (1, "a character not less than the first") else .ok (k, n)) E M fun x => Q (.tup [.int x.1, .int ((i + x.2 : Nat) : Int)]) M := hQ
          simp only [itD, oN]
          walk_at "go"
          rw [ec]
          walk_at "go"
          refine iteI (fun h => ?_) fun h => ?_
          · rw [if_pos (by omega)] at hQ
            walk_at "go"
            exact er0 hQ
          · rw [if_neg (by omega)] at hQ
            walk_at "go"
            exact .keep hQ
/-- what a class's reader hands back -/
def ClOk (cs : List Nat) (cl : Nat → Rs (List (Int × Int) × Nat)) : Prop := ∀ i A j, cl i = .ok (A, j) → i < j ∧ j ≤ cs.length ∧ setOk A
theorem drop_lt {cs : List Nat} (h : ∀ c ∈ cs, c < 128) (i : Nat) : ∀ c ∈ cs.drop i, c < 128 := fun c hc => h c (List.mem_of_mem_drop hc)
theorem prOk_app {a b : List (Int × Int)} (h : prOk a) (k : prOk b) : prOk (a ++ b) := fun p hp => (List.mem_append.mp hp).elim (h p) (k p)
theorem prL_ok {cs : List Nat} (hs : SrcOk cs) {cl : Nat → Rs (List (Int × Int) × Nat)} (hc : ClOk cs cl) : ∀ (f i : Nat) (ps : List (Int × Int)) (sg : Option Nat) (ps' : List (Int × Int)) (j : Nat),
    prL cs cl f i ps sg = .ok (ps', j) → prOk ps → (∀ k, sg = some k → k < 128) → i ≤ j ∧ j < cs.length ∧ prOk ps' := by
  intro f
  induction f with
  | zero => intro i ps sg ps' j h; cases h
  | succ f ih =>
    intro i ps sg ps' j h hp hk
    unfold prL at h
    cases hci : cs[i]? with
    | none => rw [hci] at h; cases h
    | some c =>
      have hi := (List.getElem?_eq_some_iff.mp hci).1
      rw [hci] at h
      dsimp only at h
      split at h
      · cases h; exact ⟨Nat.le_refl _, hi, hp⟩
      split at h
      · cases hcl : cl i with
        | error e => rw [hcl] at h; cases h
        | ok x =>
          obtain ⟨q, j1⟩ := x
          rw [hcl] at h
          obtain ⟨a1, a2, a3⟩ := hc i q j1 hcl
          obtain ⟨b1, b2, b3⟩ := ih _ _ _ _ _ h (prOk_app hp (pr_of a3)) (fun k hk => by cases hk)
          exact ⟨by omega, b2, b3⟩
      split at h
      · cases hit : itR (cs.drop i) with
        | error e => rw [hit] at h; cases h
        | ok x =>
          obtain ⟨q, s, n⟩ := x
          rw [hit] at h
          obtain ⟨a1, a2, a3, a4, a5⟩ := itR_ok (drop_lt hs.lt i) hit
          obtain ⟨b1, b2, b3⟩ := ih _ _ _ _ _ h (prOk_app hp a3) a5
          exact ⟨by omega, b2, b3⟩
      · cases sg with
        | none => cases h
        | some k =>
          dsimp only at h
          cases hen : enR (cs.drop (i + 1)) k with
          | error e => rw [hen] at h; cases h
          | ok x =>
            obtain ⟨l, n⟩ := x
            rw [hen] at h
            obtain ⟨a1, a2, a3, a4⟩ := enR_ok (drop_lt hs.lt _) hen
            have hkk := hk k rfl
            obtain ⟨b1, b2, b3⟩ := ih _ _ _ _ _ h (prOk_app hp (fun p hp => by
              rw [List.mem_singleton.mp hp]
              exact ⟨by show (0 : Int) ≤ k; omega, by show (l : Int) + 1 ≤ 128; omega⟩)) (fun k hk => by cases hk)
            exact ⟨by omega, b2, b3⟩
theorem prR_ok {cs : List Nat} (hs : SrcOk cs) {cl : Nat → Rs (List (Int × Int) × Nat)} (hc : ClOk cs cl) {fold : Bool} {i j : Nat} {A : List (Int × Int)} {b : Bool}
    (h : prR cs cl fold i = .ok (A, b, j)) : i ≤ j ∧ j < cs.length ∧ setOk A ∧ b = decide (i < j) := by
  unfold prR at h
  cases hp : prL cs cl (cs.length + 1) i [] none with
  | error e => rw [hp] at h; cases h
  | ok x =>
    obtain ⟨ps, k⟩ := x
    rw [hp] at h
    obtain ⟨a1, a2, a3⟩ := prL_ok hs hc _ _ _ _ _ _ hp (fun p h => by cases h) (fun k h => by cases h)
    cases h
    refine ⟨a1, a2, ?_, rfl⟩
    cases fold
    · exact makeS_ok a3
    · exact foldS_ok (makeS_ok a3)
theorem opL_ok {cs : List Nat} {pr : Nat → Rs (List (Int × Int) × Bool × Nat)} (hp : ∀ i A b j, pr i = .ok (A, b, j) → i ≤ j ∧ j < cs.length ∧ setOk A) :
    ∀ (f i : Nat) (A : List (Int × Int)) (B : List (Int × Int)) (j : Nat), opL cs pr f i A = .ok (B, j) → setOk A → i < cs.length → i ≤ j ∧ j < cs.length ∧ setOk B := by
  intro f
  induction f with
  | zero => intro i A B j h; cases h
  | succ f ih =>
    intro i A B j h hA hi
    unfold opL at h
    cases ho : opR (cs.drop i) with
    | none => rw [ho] at h; cases h; exact ⟨Nat.le_refl _, hi, hA⟩
    | some o =>
      rw [ho] at h
      dsimp only at h
      cases hpr : pr (i + 2) with
      | error e => rw [hpr] at h; cases h
      | ok x =>
        obtain ⟨C, fl, k⟩ := x
        rw [hpr] at h
        dsimp only at h
        obtain ⟨a1, a2, a3⟩ := hp _ _ _ _ hpr
        split at h
        · obtain ⟨b1, b2, b3⟩ := ih _ _ _ _ h (by split; exact comS_ok hA; exact witS_ok hA) a2
          exact ⟨by omega, b2, b3⟩
        · cases h
theorem clR_ok {cs : List Nat} (hs : SrcOk cs) {fold : Bool} : ∀ d, ClOk cs (clR cs fold d)
  | 0 => fun i A j h => by cases h
  | d + 1 => fun i A j h => by
    have ih := clR_ok (fold := fold) hs d
    unfold clR at h
    split at h
    · cases h
    · next A1 fl k hp =>
      obtain ⟨a1, a2, a3, a4⟩ := prR_ok hs ih hp
      split at h
      · cases h
      · split at h
        · cases h
        · next B k2 ho =>
          obtain ⟨b1, b2, b3⟩ := opL_ok (fun i A b j h => by obtain ⟨x, y, z, _⟩ := prR_ok hs ih h; exact ⟨x, y, z⟩) _ _ _ _ _ ho a3 a2
          cases h
          refine ⟨by omega, by omega, ?_⟩
          split
          · exact cplS_ok
          · exact b3
def sp1014 (n : Nat) : SpD := fun ds M Q E => ∃ (cs : List Nat) (i t : Nat) (fold : Bool), ds = [.str (tx cs), .int i, .bl fold, .int t] ∧ SrcOk cs ∧ 1 ≤ t ∧ t ≤ 5 ∧ 5 - t < n ∧ cs[i]? = some 91 ∧
  rsQ 0 (clR cs fold (5 - t) i) E M fun x => Q (.tup [csD x.1, .int x.2]) M
def sp1182 (n : Nat) : SpD := fun ds M Q E => ∃ (cs : List Nat) (i t : Nat) (fold : Bool), ds = [.str (tx cs), .int i, .bl fold, .int t] ∧ SrcOk cs ∧ 1 ≤ t ∧ t ≤ 4 ∧ 4 - t < n ∧ i ≤ cs.length ∧
  rsQ 0 (prR cs (clR cs fold (4 - t)) fold i) E M fun x => Q (.tup [csD x.1, .bl x.2.1, .int x.2.2]) M
theorem prL_s {cs : List Nat} {cl : Nat → Rs (List (Int × Int) × Nat)} {f i : Nat} {ps : List (Int × Int)} {sg : Option Nat} : prL cs cl (f + 1) i ps sg = match cs[i]? with
    | none => .error (i + 1, "the end of the class")
    | some c => if c = 93 ∨ opR (cs.drop i) ≠ none then .ok (ps, i)
      else if c = 91 then (match cl i with
        | .error e => .error e
        | .ok (q, j) => prL cs cl f j (ps ++ q) none)
      else if c ≠ 45 then (match itR (cs.drop i) with
        | .error e => .error (i + e.1, e.2)
        | .ok (q, s, n) => prL cs cl f (i + n) (ps ++ q) s)
      else match sg with
        | none => .error (i + 1, "a backslash ahead of this character")
        | some k => match enR (cs.drop (i + 1)) k with
          | .error e => .error (i + 1 + e.1, e.2)
          | .ok (l, n) => prL cs cl f (i + 1 + n) (ps ++ [((k : Int), (l : Int) + 1)]) none := rfl
theorem rs0 {α : Type} {r : Rs α} {e : Nat × Str} {E : EX} {M : Md} {Q : α → Prop} (h : rsQ 0 r E M Q) (he : r = .error e) (L : Md) : E ⟨"PatternError", some [("expected", .str e.2), ("column", .int (e.1 : Int))]⟩ (M ++ L) := by
  rw [he] at h
  have := h L
  rw [Nat.zero_add] at this
  exact this
structure Fl where
  i : Bool
  m : Bool
  s : Bool
def Fl.t (f : Fl) : List Nat := (if f.i = true then [105] else []) ++ ((if f.m = true then [109] else []) ++ (if f.s = true then [115] else []))
theorem fl_i (f : Fl) : decide (105 ∈ f.t) = f.i := by obtain ⟨a, b, c⟩ := f; cases a <;> cases b <;> cases c <;> rfl
theorem fl_m (f : Fl) : decide (109 ∈ f.t) = f.m := by obtain ⟨a, b, c⟩ := f; cases a <;> cases b <;> cases c <;> rfl
theorem fl_s (f : Fl) : decide (115 ∈ f.t) = f.s := by obtain ⟨a, b, c⟩ := f; cases a <;> cases b <;> cases c <;> rfl
/-- the set of a single code -/
noncomputable def cdT (f : Fl) (c : Nat) : List (Int × Int) := if f.i = true then foldS [((c : Int), (c : Int) + 1)] else [((c : Int), (c : Int) + 1)]
theorem set_one {c : Nat} (h : c < 128) : setOk [((c : Int), (c : Int) + 1)] := setOk_of (by simp) ⟨by show (c : Int) < (c : Int) + 1; omega, fun _ z => (by cases z), trivial⟩ (prOk_1 h)
theorem cdT_ok {f : Fl} {c : Nat} (h : c < 128) : setOk (cdT f c) := by
  unfold cdT
  split
  · exact foldS_ok (set_one h)
  · exact set_one h
def sEv : List (Int × Int) := [(0, 128)]
def anS (c : Nat) (m : Bool) : Str := if c = 94 then (if m = true then "line_start" else "text_start") else (if m = true then "line_end" else "text_end")
/-- an element -/
noncomputable def elR (cs : List Nat) (f : Fl) (i : Nat) : Rs (Pt × Nat) := match cs[i]? with
  | none => .error (i, "")
  | some c => if c = 46 then .ok (.set (if f.s = true then sEv else sLn), i + 1)
    else if c = 94 ∨ c = 36 then .ok (.anchor (anS c f.m), i + 1)
    else if c = 91 then (match clR cs f.i 4 i with
      | .error e => .error e
      | .ok (A, j) => .ok (.set A, j))
    else if c = 92 then (match escR (cs.drop i) with
      | .error e => .error (i + e.1, e.2)
      | .ok (.code k, n) => .ok (.set (cdT f k), i + n)
      | .ok (.anc s, n) => .ok (.anchor s, i + n)
      | .ok (.set ps, n) => .ok (.set ps, i + n))
    else .ok (.set (cdT f c), i + 1)
theorem key_1 (a b : Nat) : decide ((some (Sum.inr (tx [a])) : Option Key) = some (Sum.inr (tx [b]))) = decide (b = a) := by
  rw [decide_eq_decide]
  constructor
  · intro h
    have := Sum.inr.inj (Option.some.inj h)
    exact ((List.cons.inj (tx_inj this)).1).symm
  · rintro rfl; rfl
theorem dct_hd {a c : Nat} {x : D} {r : List (Option Key × D)} : dctVal ((some (.inr (tx [a])), x) :: r) (some (.inr (tx [c]))) = if c = a then some x else dctVal r (some (.inr (tx [c]))) := by
  unfold dctVal
  rw [List.find?_cons]
  dsimp only
  rw [key_1]
  by_cases h : c = a <;> simp [h]
theorem dct_nil {k : Option Key} : dctVal ([] : List (Option Key × D)) k = none := rfl
theorem twp_at {p : Nat → Bool} : ∀ {l : List Nat} {i c : Nat}, i < (l.takeWhile p).length → l[i]? = some c → p c = true
  | [], _, _, h, _ => by cases h
  | x :: r, i, c, h, e => by
    rw [List.takeWhile_cons] at h
    split at h
    · next hx =>
      cases i with
      | zero => have : x = c := by simpa using e
                rw [← this]; exact hx
      | succ i => exact twp_at (by simpa using h) (by simpa using e)
    · cases h
theorem twp_end {p : Nat → Bool} : ∀ {l : List Nat} {c : Nat}, l[(l.takeWhile p).length]? = some c → p c = false
  | [], _, e => by cases e
  | x :: r, c, e => by
    rw [List.takeWhile_cons] at e
    split at e
    · exact twp_end (by simpa using e)
    · next hx =>
      have : x = c := by simpa using e
      rw [← this]; simpa using hx
theorem twp_le {p : Nat → Bool} {l : List Nat} : (l.takeWhile p).length ≤ l.length := (List.takeWhile_sublist _).length_le
def nsL : List Nat := leL ++ 95 :: fiL
def nmN (cs : List Nat) (st : Nat) : Nat := (((cs.drop st).take 20).takeWhile fun c => decide (c ∈ nsL)).length
/-- a name behind (?< -/
def nmR (cs : List Nat) (i : Nat) : Rs (List Nat × Nat) := match cs[i + 3]? with
  | none => .error (i + 4, "= ! or a name")
  | some c => if c ≠ 95 ∧ c ∉ leL then .error (i + 4, "= ! or a name")
    else if cs[i + 3 + nmN cs (i + 3)]? = some 62 then .ok ((cs.drop (i + 3)).take (nmN cs (i + 3)), i + 3 + nmN cs (i + 3) + 1)
    else .error (i + 3 + nmN cs (i + 3) + 1, "the end of the name")
inductive Bk where
  | grp (n : Nm) | plain | look (a p : Bool)
def Bk.k : Bk → Str
  | .grp _ => "group" | .plain => "plain" | .look _ _ => "look"
def Bk.told : Bk → D
  | .grp n => nmD n | .plain => .non | .look a p => .tup [.bl a, .bl p]
def opnL : List (List Nat × Bk) := [([40, 63, 58], .plain), ([40, 63, 61], .look true true), ([40, 63, 33], .look true false), ([40, 63, 60, 61], .look false true), ([40, 63, 60, 33], .look false false)]
def opnF (r : List Nat) : Option (List Nat × Bk) := opnL.find? fun x => decide (r.take x.1.length = x.1)
/-- an opening bracket -/
def bkR (cs : List Nat) (i : Nat) : Rs (Bk × Nat) := if cs[i + 1]? ≠ some 63 then .ok (.grp none, i + 1)
  else match opnF (cs.drop i) with
    | some x => .ok (x.2, i + x.1.length)
    | none => if cs[i + 2]? ≠ some 60 then .error (i + 3, ": = ! or <") else match nmR cs i with
      | .error e => .error e
      | .ok (w, j) => .ok (.grp (some w), j)
/-- digits -/
def ctR (cs : List Nat) : Nat → Nat → Nat → Rs (Nat × Nat)
  | 0, i, _ => .error (i, "")
  | f + 1, i, c => match cs[i]? with
    | none => .ok (c, i)
    | some d => if d ∈ fiL then (if 50 < 10 * c + (d - 48) then .error (i + 1, "a count up to 50") else ctR cs f (i + 1) (10 * c + (d - 48))) else .ok (c, i)
def cnR (cs : List Nat) (i : Nat) : Rs (Option Nat × Nat) := match ctR cs (cs.length + 1) i 0 with
  | .error e => .error e
  | .ok (c, j) => if j = i then .ok (none, j) else .ok (some c, j)
def ctsR (cs : List Nat) (i : Nat) : Rs (Nat × Option Nat × Nat) := match cnR cs i with
  | .error e => .error e
  | .ok (none, _) => .error (i + 1, "a count")
  | .ok (some lo, j) => if cs[j]? = some 125 then .ok (lo, some lo, j + 1)
    else if cs[j]? ≠ some 44 then .error (j + 1, "a comma or the end of the count")
    else match cnR cs (j + 1) with
      | .error e => .error e
      | .ok (hi, k) => if cs[k]? ≠ some 125 then .error (k + 1, "the end of the count")
        else if (match hi with
          | some h => decide (h < lo)
          | none => false) = true then .error (k + 1, "a count not less than the first")
        else .ok (lo, hi, k + 1)
def rp0 (cs : List Nat) (i : Nat) : Rs (Nat × Option Nat × Nat) := match cs[i]? with
  | none => .error (i, "")
  | some c => if c = 42 then .ok (0, none, i + 1) else if c = 43 then .ok (1, none, i + 1) else if c = 63 then .ok (0, some 1, i + 1) else ctsR cs (i + 1)
inductive Tk where
  | opn (b : Bk) | cls | bar | rep (lo : Nat) (hi : Option Nat) (g : Bool) | one (t : Pt)
def Tk.d (c : Nat) : Tk → D
  | .opn b => .tup [.str "open", .int c, .str b.k, b.told]
  | .cls => .tup [.str "close", .int c]
  | .bar => .tup [.str "bar", .int c]
  | .rep lo hi g => .tup [.str "repeat", .int c, .int lo, onD hi, .bl g]
  | .one t => .tup [.str "single", .int c, ptD t]
def rpR (cs : List Nat) (i : Nat) : Rs (Tk × Nat) := match rp0 cs i with
  | .error e => .error e
  | .ok (lo, hi, j) => .ok (.rep lo hi (!decide (cs[j]? = some 63)), j + (if cs[j]? = some 63 then 1 else 0))
/-- a token -/
noncomputable def tkR (cs : List Nat) (f : Fl) (i : Nat) : Rs (Tk × Nat) := match cs[i]? with
  | none => .error (i, "")
  | some c => if c = 93 ∨ c = 125 then .error (i + 1, "a backslash ahead of this character")
    else if c = 40 then (match bkR cs i with
      | .error e => .error e
      | .ok (b, j) => .ok (.opn b, j))
    else if c ∈ [42, 43, 63, 123] then rpR cs i
    else if c = 41 then .ok (.cls, i + 1)
    else if c = 124 then .ok (.bar, i + 1)
    else match elR cs f i with
      | .error e => .error e
      | .ok (t, j) => .ok (.one t, j)
/-- all tokens, with their columns -/
noncomputable def tksR (cs : List Nat) (f : Fl) : Nat → Nat → List (Nat × Tk) → Rs (List (Nat × Tk))
  | 0, i, _ => .error (i, "")
  | n + 1, i, acc => match cs[i]? with
    | none => .ok acc
    | some _ => match tkR cs f i with
      | .error e => .error e
      | .ok (t, j) => tksR cs f n j (acc ++ [(i + 1, t)])
abbrev c1181_7 : CSs := .cons (.raiseI "PatternError" ["column", "expected"] (.cons (.bin .add (.var 2) (.int 1)) (.cons (.str "= ! or a name") .nil))) .nil
abbrev c1181_8 : CSs := .cons (.set 4 (.bin .add (.var 4) (.int 1))) .nil
abbrev c1181_9 : CSs := .cons (.raiseI "PatternError" ["column", "expected"] (.cons (.bin .add (.var 4) (.int 1)) (.cons (.str "the end of the name") .nil))) .nil
abbrev c1181_6 : CSs := .cons (.ret (.tup (.cons (.tup (.cons (.str "open") (.cons (.bin .add (.var 1) (.int 1)) (.cons (.str "group") (.cons (.slc false (.var 0) (.some (.var 2)) (.some (.var 4))) .nil))))) (.cons (.bin .add (.var 4) (.int 1)) .nil)))) .nil
abbrev c1181_5 : CSs := .cons (.ifs (.cmp .ne (.slc false (.var 0) (.some (.var 4)) (.some (.bin .add (.var 4) (.int 1)))) (.str ">")) c1181_9 .nil) c1181_6
abbrev c1181_4 : CSs := .cons (.whil (.and (.cmp .lt (.var 4) (.blt .len (.cons (.var 0) .nil))) (.and (.cmp .lt (.var 4) (.bin .add (.var 2) (.glob 32))) (.cmp .inn (.idx (.var 0) (.var 4)) (.glob 33)))) c1181_8) c1181_5
abbrev c1181_3 : CSs := .cons (.set 4 (.var 2)) c1181_4
abbrev c1181_2 : CSs := .cons (.ifs (.or (.cmp .eq (.var 3) (.str "")) (.and (.cmp .ne (.var 3) (.str "_")) (.cmp .nin (.var 3) (.glob 10)))) c1181_7 .nil) c1181_3
abbrev c1181_1 : CSs := .cons (.set 3 (.slc false (.var 0) (.some (.var 2)) (.some (.bin .add (.var 2) (.int 1))))) c1181_2
abbrev c1181 : CSs := .cons (.set 2 (.bin .add (.var 1) (.int 3))) c1181_1
def sp1181 : SpD := fun ds M Q E => ∃ (cs : List Nat) (i : Nat), ds = [.str (tx cs), .int i] ∧ SrcOk cs ∧ rsQ 0 (nmR cs i) E M fun x => Q (.tup [(Tk.opn (.grp (some x.1))).d (i + 1), .int x.2]) M
theorem ln1181 : ∀ ds M Q E, sp1181 ds M Q E → ds.length = 2 := by
  rintro _ _ _ _ ⟨_, _, rfl, _⟩; rfl
theorem k33_tx : k33 = .str (tx nsL) := by
  show D.str _ = _
  congr 1
  try decide +kernel
theorem rd1181 {Φ : Nat → SpD} {κ : Nat → D} (hk10 : κ 10 = k10) (hk32 : κ 32 = k32) (hk33 : κ 33 = k33) : RdOk Φ κ c1181 5 (sp1181) := by
  rintro ds M Q E hM hd ⟨cs, i, rfl, hs, hQ⟩
  have t0 : Str.ofString "" = tx [] := by decide +kernel
  have tu : Str.ofString "_" = tx [95] := by decide +kernel
  have tg : Str.ofString ">" = tx [62] := by decide +kernel
  have e10 : κ 10 = .str (tx leL) := by rw [hk10, k10_tx]
  have e33 : κ 33 = .str (tx nsL) := by rw [hk33, k33_tx]
  have e32 : κ 32 = .int 20 := hk32
  have hsl := hs.len
  unfold nmR at hQ
  have ec : cutD cs (some ((i : Int) + 3)) (some ((i : Int) + 3 + 1)) = (cs[i + 3]?).toList := by
    rw [show (i : Int) + 3 = ((i + 3 : Nat) : Int) by omega, cut_one]
  walk_at "go"
  rw [ec, mk_tx]
  cases hc : cs[i + 3]? with
  | none =>
    rw [hc] at hQ
    rw [show (none : Option Nat).toList = [] from rfl, t0]
    walk_at "go"
    have := rs0 hQ rfl []
    rw [List.append_nil] at this
    exact this
  | some c =>
    rw [hc] at hQ
    dsimp only at hQ
    rw [show (some c).toList = [c] from rfl, t0, if_neg (by rw [tx_nil_ne]; exact fun h => h)]
    walk_at "go"
    rw [tu]
    obtain ⟨n, hn⟩ : ∃ n, n = nmN cs (i + 3) := ⟨_, rfl⟩
    rw [← hn] at hQ
    have good : ¬ (c ≠ 95 ∧ c ∉ leL) → nxt Φ κ c1181_3 (fun x _ M => E x M) (endsD M.length Q) [some (.str (tx cs)), some (.int i), some (.int ((i : Int) + 3)), some (.str (tx [c])), none] M := by
      intro h
      rw [if_neg h] at hQ
      have hn20 : n ≤ 20 ∧ n ≤ (cs.drop (i + 3)).length := by
        rw [hn]; unfold nmN
        have := twp_le (p := fun c => decide (c ∈ nsL)) (l := (cs.drop (i + 3)).take 20)
        rw [List.length_take] at this
        omega
      have hdl : (cs.drop (i + 3)).length = cs.length - (i + 3) := List.length_drop
      have at20 : ∀ k, k < 20 → ((cs.drop (i + 3)).take 20)[k]? = cs[i + 3 + k]? := fun k hk => by
        rw [List.getElem?_take_of_lt hk, List.getElem?_drop]
      have hin : ∀ k d, k < n → cs[i + 3 + k]? = some d → d ∈ nsL := fun k d hk hd => by
        have := twp_at (p := fun c => decide (c ∈ nsL)) (l := (cs.drop (i + 3)).take 20) (i := k) (c := d) (by rw [hn] at hk; exact hk) (by rw [at20 k (by omega)]; exact hd)
        exact of_decide_eq_true this
      have hout : n < 20 → ∀ d, cs[i + 3 + n]? = some d → d ∉ nsL := fun h20 d hd => by
        have := twp_end (p := fun c => decide (c ∈ nsL)) (l := (cs.drop (i + 3)).take 20) (c := d) (by
          have e : (((cs.drop (i + 3)).take 20).takeWhile fun c => decide (c ∈ nsL)).length = n := hn.symm
          rw [e, at20 n h20]; exact hd)
        exact of_decide_eq_false this
      walk_at "go"
      refine while_at [4] (fun m js M' => ∃ k : Nat, js = [some (.int ((i + 3 + k : Nat) : Int))] ∧ M = M' ∧ k ≤ n ∧ n - k ≤ m) ⟨n, [some (.int ((i + 3 + 0 : Nat) : Int))], by rw [show ((i + 3 + 0 : Nat) : Int) = (i : Int) + 3 by omega]; rfl, 0, rfl, rfl, Nat.zero_le _, by omega⟩ ?_
      rintro m js M' nx ⟨k, rfl, rfl, hk, hm⟩ hnx
      have fin : k = n → nxt Φ κ c1181_5 (fun x _ M => E x M) (endsD M.length Q) [some (.str (tx cs)), some (.int i), some (.int ((i : Int) + 3)), some (.str (tx [c])), some (.int ((i + 3 + k : Nat) : Int))] M := by
        intro e
        rw [e]
        walk_at "go"
        rw [cut_one, mk_tx, tg]
        by_cases h62 : cs[i + 3 + n]? = some 62
        · rw [if_pos h62] at hQ
          rw [h62, show (some 62 : Option Nat).toList = [62] from rfl, decide_eq_true rfl]
          walk_at "go"
          rw [show (i : Int) + 3 = ((i + 3 : Nat) : Int) by omega, cut_midT, mk_tx, show i + 3 + n - (i + 3) = n by omega]
          exact .keep hQ
        · rw [if_neg h62] at hQ
          rw [decide_eq_false (fun z => h62 (by
            have := tx_inj z
            cases hx : cs[i + 3 + n]? with
            | none => rw [hx] at this; cases this
            | some d => rw [hx] at this; cases this; rfl))]
          walk_at "go"
          have := rs0 hQ rfl []
          rw [List.append_nil] at this
          exact this
      walk_at "go"
      rw [tx_len]
      refine iteI (fun hl => ?_) fun hl => ?_
      · rw [e32]
        walk_at "go"
        refine iteI (fun h20 => ?_) fun h20 => ?_
        · obtain ⟨d, hd⟩ : ∃ d, cs[i + 3 + k]? = some d := ⟨_, List.getElem?_eq_getElem (by omega)⟩
          refine ix_txn (by rw [size_eq]; omega) hd ?_
          rw [e33, in_txl]
          by_cases hkn : k < n
          · rw [decide_eq_true (hin k d hkn hd)]
            walk_at "go"
            rw [show ((i + 3 + k : Nat) : Int) + 1 = ((i + 3 + (k + 1) : Nat) : Int) by omega]
            exact hnx (m - 1) [_] _ (by omega) ⟨k + 1, rfl, rfl, by omega, by omega⟩
          · have e : k = n := by omega
            rw [decide_eq_false (hout (by omega) d (by rw [← e]; exact hd))]
            walk_at "rd2"
            exact fin e
        · exact fin (by omega)
      · exact fin (by omega)
    have bad : (c ≠ 95 ∧ c ∉ leL) → nxt Φ κ c1181_7 (fun x _ M => E x M) ⟨nxt Φ κ c1181_3 (fun x _ M => E x M) (endsD M.length Q), (endsD M.length Q).rt, (endsD M.length Q).bk, (endsD M.length Q).ct⟩ [some (.str (tx cs)), some (.int i), some (.int ((i : Int) + 3)), some (.str (tx [c])), none] M := by
      intro h
      rw [if_pos h] at hQ
      walk_at "go"
      have := rs0 hQ rfl []
      rw [List.append_nil] at this
      exact this
    by_cases h1 : c = 95
    · rw [decide_eq_true (by rw [h1])]
      walk_at "rd2"
      exact good (fun z => z.1 h1)
    rw [decide_eq_false (by rw [tx_1]; exact h1)]
    walk_at "rd2"
    rw [e10, nin_txl]
    by_cases h2 : c ∈ leL
    · rw [decide_eq_true h2]
      walk_at "rd2"
      exact good (fun z => z.2 h2)
    · rw [decide_eq_false h2]
      walk_at "rd2"
      exact bad ⟨h1, h2⟩
abbrev c1193_4 : CSs := .cons (.ret (.tup (.cons (.tup (.cons (.str "open") (.cons (.bin .add (.var 1) (.int 1)) (.cons (.str "group") (.cons .non .nil))))) (.cons (.bin .add (.var 1) (.int 1)) .nil)))) .nil
abbrev c1193_6 : CSs := .cons (.ret (.tup (.cons (.tup (.cons (.str "open") (.cons (.bin .add (.var 1) (.int 1)) (.cons (.var 3) (.cons (.var 4) .nil))))) (.cons (.bin .add (.var 1) (.blt .len (.cons (.var 2) .nil))) .nil)))) .nil
abbrev c1193_5 : CSs := .cons (.ifs (.cmp .eq (.slc false (.var 0) (.some (.var 1)) (.some (.bin .add (.var 1) (.blt .len (.cons (.var 2) .nil))))) (.var 2)) c1193_6 .nil) .nil
abbrev c1193_7 : CSs := .cons (.raiseI "PatternError" ["column", "expected"] (.cons (.bin .add (.var 1) (.int 3)) (.cons (.str ": = ! or <") .nil))) .nil
abbrev c1193_3 : CSs := .cons (.ret (.call 1181 (.cons (.var 0) (.cons (.var 1) .nil)))) .nil
abbrev c1193_2 : CSs := .cons (.ifs (.cmp .ne (.slc false (.var 0) (.some (.bin .add (.var 1) (.int 2))) (.some (.bin .add (.var 1) (.int 3)))) (.str "<")) c1193_7 .nil) c1193_3
abbrev c1193_1 : CSs := .cons (.fors (.tp [2, 3, 4]) (.seq (.glob 13)) c1193_5) c1193_2
abbrev c1193 : CSs := .cons (.ifs (.cmp .ne (.slc false (.var 0) (.some (.bin .add (.var 1) (.int 1))) (.some (.bin .add (.var 1) (.int 2)))) (.str "?")) c1193_4 .nil) c1193_1
def sp1193 : SpD := fun ds M Q E => ∃ (cs : List Nat) (i : Nat), ds = [.str (tx cs), .int i] ∧ SrcOk cs ∧ i < cs.length ∧ rsQ 0 (bkR cs i) E M fun x => Q (.tup [(Tk.opn x.1).d (i + 1), .int x.2]) M
theorem ln1193 : ∀ ds M Q E, sp1193 ds M Q E → ds.length = 2 := by
  rintro _ _ _ _ ⟨_, _, rfl, _⟩; rfl
def opE (x : List Nat × Bk) : D := .tup [.str (tx x.1), .str x.2.k, x.2.told]
theorem k13_op : k13 = .tup (opnL.map opE) := by
  have e1 : (Str.ofString "(?:") = tx [40, 63, 58] := by decide +kernel
  have e2 : (Str.ofString "(?=") = tx [40, 63, 61] := by decide +kernel
  have e3 : (Str.ofString "(?!") = tx [40, 63, 33] := by decide +kernel
  have e4 : (Str.ofString "(?<=") = tx [40, 63, 60, 61] := by decide +kernel
  have e5 : (Str.ofString "(?<!") = tx [40, 63, 60, 33] := by decide +kernel
  show D.tup [.tup [.str (Str.ofString "(?:"), _, _], .tup [.str (Str.ofString "(?="), _, _], .tup [.str (Str.ofString "(?!"), _, _], .tup [.str (Str.ofString "(?<="), _, _], .tup [.str (Str.ofString "(?<!"), _, _]] = _
  rw [e1, e2, e3, e4, e5]
  rfl
theorem opn_len : ∀ x ∈ opnL, x.1.length ≤ 4 := by
  intro x hx
  simp only [opnL, List.mem_cons, List.not_mem_nil, or_false] at hx
  rcases hx with rfl | rfl | rfl | rfl | rfl <;> decide
theorem one_eq {cs : List Nat} {j d : Nat} : decide (tx (cs[j]?).toList = tx [d]) = decide (cs[j]? = some d) := by
  rw [decide_eq_decide]
  cases cs[j]? with
  | none =>
    constructor
    · intro h; cases tx_inj h
    · intro h; cases h
  | some c =>
    rw [show (some c).toList = [c] from rfl, tx_1]
    constructor
    · intro h; rw [h]
    · intro h; exact Option.some.inj h
theorem rd1193 {Φ : Nat → SpD} {κ : Nat → D} (h1181 : Φ 1181 = sp1181) (hk13 : κ 13 = k13) : RdOk Φ κ c1193 5 (sp1193) := by
  rintro ds M Q E hM hd ⟨cs, i, rfl, hs, hi, hQ⟩
  have tq : Str.ofString "?" = tx [63] := by decide +kernel
  have tl : Str.ofString "<" = tx [60] := by decide +kernel
  have e13 : κ 13 = .tup (opnL.map opE) := by rw [hk13, k13_op]
  have hsl := hs.len
  unfold bkR at hQ
  walk_at "go"
  rw [cut_one1, mk_tx, tq, one_eq]
  by_cases h1 : cs[i + 1]? = some 63
  · rw [if_neg (fun z => z h1)] at hQ
    rw [decide_eq_true h1]
    walk_at "go"
    rw [e13]
    walk_at "go"
    refine for_list (xs := opnL) (enc := opE) [2, 3, 4] (fun r js M' => ∃ (done : List (List Nat × Bk)) (x2 x3 x4 : Option D), js = [x2, x3, x4] ∧ M = M' ∧ done ++ r = opnL ∧ ∀ x ∈ done, ¬ (cs.drop i).take x.1.length = x.1) ⟨[_, _, _], rfl, [], _, _, _, rfl, rfl, rfl, fun _ h => by cases h⟩ ?_ ?_
    · rintro x r js M' nx ⟨done, x2, x3, x4, rfl, rfl, he, hd⟩ hn
      have hxl := opn_len x (by rw [← he]; simp)
      unfold opE
      walk_at "go"
      rw [tx_len, show (i : Int) + (x.1.length : Int) = ((i + x.1.length : Nat) : Int) by omega, cut_midT, mk_tx, Nat.add_sub_cancel_left]
      by_cases e : (cs.drop i).take x.1.length = x.1
      · have hf : opnF (cs.drop i) = some x := by
          unfold opnF
          rw [← he]
          exact find_at (fun y hy => decide_eq_false (hd y hy)) (decide_eq_true e)
        rw [hf] at hQ
        rw [if_pos (by rw [e])]
        walk_at "go"
        rw [tx_len, show (i : Int) + (x.1.length : Int) = ((i + x.1.length : Nat) : Int) by omega]
        exact .keep hQ
      · rw [if_neg (fun z => e (tx_inj z))]
        walk_at "go"
        refine hn [_, _, _] _ ⟨done ++ [x], _, _, _, rfl, rfl, by rw [List.append_assoc]; exact he, fun y hy => ?_⟩
        rcases List.mem_append.mp hy with z | z
        · exact hd y z
        · rw [List.mem_singleton.mp z]; exact e
    rintro js M' ⟨done, x2, x3, x4, rfl, rfl, he, hd⟩
    rw [List.append_nil] at he
    rw [he] at hd
    have hf : opnF (cs.drop i) = none := by
      unfold opnF
      rw [List.find?_eq_none]
      intro x hx z
      exact hd x hx (of_decide_eq_true z)
    rw [hf] at hQ
    dsimp only at hQ
    walk_at "go"
    rw [cut_one2, mk_tx, tl, one_eq]
    by_cases h2 : cs[i + 2]? = some 60
    · rw [if_neg (fun z => z h2)] at hQ
      rw [decide_eq_true h2]
      walk_at "go"
      rw [h1181]
      refine ⟨cs, i, rfl, hs, ?_⟩
      cases hr : nmR cs i with
      | error e => rw [hr] at hQ; exact hQ
      | ok x =>
        rw [hr] at hQ
        rw [rsQ_ok]
        walk_at "go"
        exact .keep hQ
    · rw [if_pos h2] at hQ
      rw [decide_eq_false h2]
      walk_at "go"
      have := rs0 hQ rfl []
      rw [List.append_nil] at this
      exact this
  · rw [if_pos h1] at hQ
    rw [decide_eq_false h1]
    walk_at "go"
    exact .keep hQ
abbrev c1013_8 : CSs := .cons (.raiseI "PatternError" ["column", "expected"] (.cons (.bin .add (.var 1) (.int 1)) (.cons (.str "a count up to 50") .nil))) .nil
abbrev c1013_7 : CSs := .cons (.set 1 (.bin .add (.var 1) (.int 1))) .nil
abbrev c1013_6 : CSs := .cons (.ifs (.cmp .gt (.var 3) (.glob 15)) c1013_8 .nil) c1013_7
abbrev c1013_5 : CSs := .cons (.set 3 (.bin .add (.bin .mul (.int 10) (.var 3)) (.blt .int (.cons (.idx (.var 0) (.var 1)) .nil)))) c1013_6
abbrev c1013_9 : CSs := .cons (.ret (.tup (.cons .non (.cons (.var 1) .nil)))) .nil
abbrev c1013_4 : CSs := .cons (.ret (.tup (.cons (.var 3) (.cons (.var 1) .nil)))) .nil
abbrev c1013_3 : CSs := .cons (.ifs (.cmp .eq (.var 1) (.var 2)) c1013_9 .nil) c1013_4
abbrev c1013_2 : CSs := .cons (.whil (.and (.cmp .lt (.var 1) (.blt .len (.cons (.var 0) .nil))) (.cmp .inn (.idx (.var 0) (.var 1)) (.glob 11))) c1013_5) c1013_3
abbrev c1013_1 : CSs := .cons (.set 3 (.int 0)) c1013_2
abbrev c1013 : CSs := .cons (.set 2 (.var 1)) c1013_1
def sp1013 : SpD := fun ds M Q E => ∃ (cs : List Nat) (i : Nat), ds = [.str (tx cs), .int i] ∧ SrcOk cs ∧ i ≤ cs.length ∧ rsQ 0 (cnR cs i) E M fun x => Q (.tup [onD x.1, .int x.2]) M
theorem ln1013 : ∀ ds M Q E, sp1013 ds M Q E → ds.length = 2 := by
  rintro _ _ _ _ ⟨_, _, rfl, _⟩; rfl
theorem fi_int {d : Nat} (h : d ∈ fiL) : PySem.intText? (tx [d]) = some ((d - 48 : Nat) : Int) := by
  have : ∀ d ∈ fiL, PySem.intText? (tx [d]) = some ((d - 48 : Nat) : Int) := by decide +kernel
  exact this d h
theorem ctR_s {cs : List Nat} {f i c : Nat} : ctR cs (f + 1) i c = match cs[i]? with
    | none => .ok (c, i)
    | some d => if d ∈ fiL then (if 50 < 10 * c + (d - 48) then .error (i + 1, "a count up to 50") else ctR cs f (i + 1) (10 * c + (d - 48))) else .ok (c, i) := rfl
theorem rd1013 {Φ : Nat → SpD} {κ : Nat → D} (hk11 : κ 11 = k11) (hk15 : κ 15 = k15) : RdOk Φ κ c1013 4 (sp1013) := by
  rintro ds M Q E hM hd ⟨cs, i0, rfl, hs, hi0, hQ⟩
  have e11 : κ 11 = .str (tx fiL) := by rw [hk11, k11_tx]
  have e15 : κ 15 = .int 50 := hk15
  have hsl := hs.len
  unfold cnR at hQ
  obtain ⟨P0, hP0⟩ : ∃ P0, P0 = ctR cs (cs.length + 1) i0 0 := ⟨_, rfl⟩
  rw [← hP0] at hQ
  walk_at "go"
  refine while_at [1, 3] (fun m js M' => ∃ (i c : Nat), js = [some (.int i), some (.int c)] ∧ M = M' ∧ cs.length < m + i ∧ i0 ≤ i ∧ i ≤ cs.length ∧ c ≤ 50 ∧ P0 = ctR cs m i c)
    ⟨cs.length + 1, [_, _], rfl, i0, 0, rfl, rfl, by omega, Nat.le_refl _, hi0, by omega, hP0⟩ ?_
  rintro m js M' nx ⟨i, c, rfl, rfl, hm, hii, hil, hc50, he⟩ hn
  obtain ⟨m, rfl⟩ : ∃ q, m = q + 1 := ⟨m - 1, by omega⟩
  rw [ctR_s] at he
  have fin : P0 = .ok (c, i) → nxt Φ κ c1013_3 (fun x _ M => E x M) (endsD M.length Q) [some (.str (tx cs)), some (.int i), some (.int i0), some (.int c)] M := by
    intro h
    rw [h] at hQ
    dsimp only at hQ
    walk_at "go"
    refine iteI (fun h => ?_) fun h => ?_
    · rw [if_pos (by omega)] at hQ
      walk_at "go"
      exact .keep hQ
    · rw [if_neg (by omega)] at hQ
      walk_at "go"
      exact .keep hQ
  walk_at "go"
  rw [tx_len]
  refine iteI (fun hl => ?_) fun hl => ?_
  · obtain ⟨d, hd⟩ : ∃ d, cs[i]? = some d := ⟨_, List.getElem?_eq_getElem (by omega)⟩
    rw [hd] at he
    dsimp only at he
    refine ix_txn (by rw [size_eq]; omega) hd ?_
    rw [e11, in_txl]
    by_cases hf : d ∈ fiL
    · rw [if_pos hf] at he
      rw [decide_eq_true hf]
      have hd10 : d - 48 ≤ 9 := by
        have : ∀ d ∈ fiL, d - 48 ≤ 9 := by decide
        exact this d hf
      walk_at "go"
      refine ⟨.inl (by decide), ?_⟩
      refine ix_txn (by rw [size_eq]; omega) hd ?_
      refine bt_int_str (fi_int hf) (by rw [tx_len]; show 1 ≤ _; decide) ?_
      walk_at "go"
      rw [e15, show (10 : Int) * (c : Int) + ((d - 48 : Nat) : Int) = ((10 * c + (d - 48) : Nat) : Int) by omega]
      walk_at "go"
      refine iteI (fun h50 => ?_) fun h50 => ?_
      · rw [if_pos (by omega)] at he
        rw [he] at hQ
        walk_at "go"
        have := rs0 hQ rfl []
        rw [List.append_nil] at this
        exact this
      · rw [if_neg (by omega)] at he
        walk_at "go"
        rw [show (i : Int) + 1 = ((i + 1 : Nat) : Int) by omega]
        exact hn m [_, _] _ rfl ⟨i + 1, 10 * c + (d - 48), rfl, rfl, by omega, by omega, by omega, by omega, he⟩
    · rw [if_neg hf] at he
      rw [decide_eq_false hf]
      walk_at "rd2"
      exact fin he
  · have hd : cs[i]? = none := List.getElem?_eq_none (by omega)
    rw [hd] at he
    exact fin he
def Tk.ok : Tk → Prop
  | .opn (.grp (some w)) => w.length ≤ 20
  | .rep lo hi _ => lo ≤ 50 ∧ ∀ k, hi = some k → lo ≤ k ∧ k ≤ 50
  | .one t => t.wf ∧ t.grps = [] ∧ t.ht = 0 ∧ t.sz = 1
  | _ => True
theorem elR_ok {cs : List Nat} (hs : SrcOk cs) {f : Fl} {i j : Nat} {t : Pt} (h : elR cs f i = .ok (t, j)) : i < j ∧ j ≤ cs.length ∧ (Tk.one t).ok := by
  have st : ∀ {A}, setOk A → (Tk.one (.set A)).ok := fun hA => ⟨⟨hA, trivial⟩, rfl, rfl, rfl⟩
  have an : ∀ {s}, ancOk s → (Tk.one (.anchor s)).ok := fun hA => ⟨⟨hA, trivial⟩, rfl, rfl, rfl⟩
  unfold elR at h
  cases hc : cs[i]? with
  | none => rw [hc] at h; cases h
  | some c =>
    have hi := (List.getElem?_eq_some_iff.mp hc).1
    have hc8 := hs.lt c (List.mem_of_getElem? hc)
    rw [hc] at h
    dsimp only at h
    split at h
    · cases h
      refine ⟨by omega, hi, ?_⟩
      split
      · exact st (setOk_of (by decide) (by simp [Canon, sEv]) (by simp [sEv]))
      · exact st (setOk_of (by decide) (by simp [Canon, sLn]) (by simp [sLn]))
    split at h
    · cases h
      refine ⟨by omega, hi, an ?_⟩
      unfold anS ancOk
      split <;> split <;> simp
    split at h
    · cases hr : clR cs f.i 4 i with
      | error e => rw [hr] at h; cases h
      | ok x =>
        obtain ⟨A, k⟩ := x
        rw [hr] at h
        cases h
        obtain ⟨a1, a2, a3⟩ := clR_ok hs _ _ _ _ hr
        exact ⟨a1, a2, st a3⟩
    split at h
    · cases hr : escR (cs.drop i) with
      | error e => rw [hr] at h; cases h
      | ok x =>
        obtain ⟨x, n⟩ := x
        rw [hr] at h
        obtain ⟨a1, a2, a3⟩ := escR_ok (drop_lt hs.lt i) hr
        rw [List.length_drop] at a2
        cases x with
        | code k => cases h; exact ⟨by omega, by omega, st (cdT_ok a3)⟩
        | anc s => cases h; exact ⟨by omega, by omega, an a3⟩
        | set ps => cases h; exact ⟨by omega, by omega, st a3⟩
    · cases h
      exact ⟨by omega, hi, st (cdT_ok hc8)⟩
theorem nmR_ok {cs : List Nat} {i j : Nat} {w : List Nat} (h : nmR cs i = .ok (w, j)) : i < j ∧ j ≤ cs.length ∧ w.length ≤ 20 := by
  have h20 : nmN cs (i + 3) ≤ 20 := by
    unfold nmN
    have := twp_le (p := fun c => decide (c ∈ nsL)) (l := (cs.drop (i + 3)).take 20)
    rw [List.length_take] at this
    omega
  unfold nmR at h
  cases hc : cs[i + 3]? with
  | none => rw [hc] at h; cases h
  | some c =>
    rw [hc] at h
    dsimp only at h
    split at h
    · cases h
    split at h
    · next h62 =>
      cases h
      have := (List.getElem?_eq_some_iff.mp h62).1
      exact ⟨by omega, by omega, by rw [List.length_take]; omega⟩
    · cases h
theorem bkR_ok {cs : List Nat} {i j : Nat} {b : Bk} (hi : i < cs.length) (h : bkR cs i = .ok (b, j)) : i < j ∧ j ≤ cs.length ∧ (Tk.opn b).ok := by
  unfold bkR at h
  split at h
  · cases h; exact ⟨by omega, hi, trivial⟩
  · cases hf : opnF (cs.drop i) with
    | some x =>
      rw [hf] at h
      cases h
      have hm := List.mem_of_find?_eq_some hf
      have he : (cs.drop i).take x.1.length = x.1 := of_decide_eq_true (List.find?_some (p := fun x : List Nat × Bk => decide ((cs.drop i).take x.1.length = x.1)) hf)
      have hl := congrArg List.length he
      rw [List.length_take, List.length_drop] at hl
      simp only [opnL, List.mem_cons, List.not_mem_nil, or_false] at hm
      have h3 : 3 ≤ x.1.length := by rcases hm with rfl | rfl | rfl | rfl | rfl <;> decide
      have ho : (Tk.opn x.2).ok := by rcases hm with rfl | rfl | rfl | rfl | rfl <;> trivial
      exact ⟨by omega, by omega, ho⟩
    | none =>
      rw [hf] at h
      dsimp only at h
      split at h
      · cases h
      · cases hr : nmR cs i with
        | error e => rw [hr] at h; cases h
        | ok x =>
          obtain ⟨w, k⟩ := x
          rw [hr] at h
          cases h
          obtain ⟨a1, a2, a3⟩ := nmR_ok hr
          exact ⟨a1, a2, a3⟩
theorem ctR_ok {cs : List Nat} : ∀ (f i c c' j : Nat), ctR cs f i c = .ok (c', j) → i ≤ cs.length → c ≤ 50 → i ≤ j ∧ j ≤ cs.length ∧ c' ≤ 50
  | 0, _, _, _, _, h, _, _ => by cases h
  | f + 1, i, c, c', j, h, hi, hc => by
    rw [ctR_s] at h
    cases hd : cs[i]? with
    | none => rw [hd] at h; cases h; exact ⟨Nat.le_refl _, hi, hc⟩
    | some d =>
      have hl := (List.getElem?_eq_some_iff.mp hd).1
      rw [hd] at h
      dsimp only at h
      split at h
      · split at h
        · cases h
        · obtain ⟨a1, a2, a3⟩ := ctR_ok f _ _ _ _ h (by omega) (by omega)
          exact ⟨by omega, a2, a3⟩
      · cases h; exact ⟨Nat.le_refl _, hi, hc⟩
theorem cnR_ok {cs : List Nat} {i j : Nat} {o : Option Nat} (hi : i ≤ cs.length) (h : cnR cs i = .ok (o, j)) : i ≤ j ∧ j ≤ cs.length ∧ ∀ k, o = some k → k ≤ 50 := by
  unfold cnR at h
  cases hr : ctR cs (cs.length + 1) i 0 with
  | error e => rw [hr] at h; cases h
  | ok x =>
    obtain ⟨c, k⟩ := x
    rw [hr] at h
    dsimp only at h
    obtain ⟨a1, a2, a3⟩ := ctR_ok _ _ _ _ _ hr hi (by omega)
    split at h
    · cases h; exact ⟨a1, a2, fun k h => by cases h⟩
    · cases h; exact ⟨a1, a2, fun k h => by cases h; exact a3⟩
theorem ctsR_ok {cs : List Nat} {i j lo : Nat} {hi : Option Nat} (h0 : i ≤ cs.length) (h : ctsR cs i = .ok (lo, hi, j)) : i < j ∧ j ≤ cs.length ∧ lo ≤ 50 ∧ ∀ k, hi = some k → lo ≤ k ∧ k ≤ 50 := by
  unfold ctsR at h
  cases hr : cnR cs i with
  | error e => rw [hr] at h; cases h
  | ok x =>
    obtain ⟨o, k⟩ := x
    rw [hr] at h
    obtain ⟨a1, a2, a3⟩ := cnR_ok h0 hr
    cases o with
    | none => cases h
    | some l =>
      dsimp only at h
      have hl := a3 l rfl
      split at h
      · next he =>
        cases h
        have := (List.getElem?_eq_some_iff.mp he).1
        exact ⟨by omega, by omega, hl, fun k h => by cases h; exact ⟨Nat.le_refl _, hl⟩⟩
      split at h
      · cases h
      · next hcm =>
        have hk : k < cs.length := by
          have : cs[k]? = some 44 := Decidable.byContradiction hcm
          exact (List.getElem?_eq_some_iff.mp this).1
        cases hr2 : cnR cs (k + 1) with
        | error e => rw [hr2] at h; cases h
        | ok x =>
          obtain ⟨h2, k2⟩ := x
          rw [hr2] at h
          dsimp only at h
          obtain ⟨b1, b2, b3⟩ := cnR_ok (by omega) hr2
          split at h
          · cases h
          · next hcl =>
            have hk2 : k2 < cs.length := by
              have : cs[k2]? = some 125 := Decidable.byContradiction hcl
              exact (List.getElem?_eq_some_iff.mp this).1
            cases h2 with
            | none =>
              rw [if_neg (by simp)] at h
              cases h
              exact ⟨by omega, by omega, hl, fun k hk => by cases hk⟩
            | some x =>
              by_cases hlt : x < l
              · rw [if_pos (decide_eq_true hlt)] at h; cases h
              · rw [if_neg (fun z => hlt (of_decide_eq_true z))] at h
                cases h
                exact ⟨by omega, by omega, hl, fun k hk => by cases hk; exact ⟨by omega, b3 _ rfl⟩⟩
theorem rpR_ok {cs : List Nat} {i j : Nat} {t : Tk} (h0 : i < cs.length) (h : rpR cs i = .ok (t, j)) : i < j ∧ j ≤ cs.length ∧ t.ok := by
  unfold rpR at h
  cases hr : rp0 cs i with
  | error e => rw [hr] at h; cases h
  | ok x =>
    obtain ⟨lo, hi, k⟩ := x
    rw [hr] at h
    have key : i < k ∧ k ≤ cs.length ∧ lo ≤ 50 ∧ ∀ x, hi = some x → lo ≤ x ∧ x ≤ 50 := by
      unfold rp0 at hr
      cases hc : cs[i]? with
      | none => rw [hc] at hr; cases hr
      | some c =>
        rw [hc] at hr
        dsimp only at hr
        split at hr
        · cases hr; exact ⟨by omega, h0, by omega, fun x h => by cases h⟩
        split at hr
        · cases hr; exact ⟨by omega, h0, by omega, fun x h => by cases h⟩
        split at hr
        · cases hr; exact ⟨by omega, h0, by omega, fun x h => by cases h; omega⟩
        · obtain ⟨a1, a2, a3, a4⟩ := ctsR_ok (by omega) hr
          exact ⟨by omega, a2, a3, a4⟩
    obtain ⟨a1, a2, a3, a4⟩ := key
    cases h
    refine ⟨by omega, ?_, a3, a4⟩
    split
    · next h63 => have := (List.getElem?_eq_some_iff.mp h63).1; omega
    · omega
theorem tkR_ok {cs : List Nat} (hs : SrcOk cs) {f : Fl} {i j : Nat} {t : Tk} (h : tkR cs f i = .ok (t, j)) : i < j ∧ j ≤ cs.length ∧ t.ok := by
  unfold tkR at h
  cases hc : cs[i]? with
  | none => rw [hc] at h; cases h
  | some c =>
    have hi := (List.getElem?_eq_some_iff.mp hc).1
    rw [hc] at h
    dsimp only at h
    split at h
    · cases h
    split at h
    · cases hr : bkR cs i with
      | error e => rw [hr] at h; cases h
      | ok x => obtain ⟨b, k⟩ := x; rw [hr] at h; cases h; exact bkR_ok hi hr
    split at h
    · exact rpR_ok hi h
    split at h
    · cases h; exact ⟨by omega, hi, trivial⟩
    split at h
    · cases h; exact ⟨by omega, hi, trivial⟩
    · cases hr : elR cs f i with
      | error e => rw [hr] at h; cases h
      | ok x => obtain ⟨b, k⟩ := x; rw [hr] at h; cases h; exact elR_ok hs hr
theorem tksR_s {cs : List Nat} {f : Fl} {n i : Nat} {acc : List (Nat × Tk)} : tksR cs f (n + 1) i acc = match cs[i]? with
    | none => .ok acc
    | some _ => match tkR cs f i with
      | .error e => .error e
      | .ok (t, j) => tksR cs f n j (acc ++ [(i + 1, t)]) := rfl
def tkE (x : Nat × Tk) : D := x.2.d x.1
theorem nr_tk (x : Nat × Tk) : noRef (tkE x) = true := by
  obtain ⟨c, t⟩ := x
  cases t with
  | opn b =>
    cases b with
    | grp n => cases n <;> rfl
    | plain => rfl
    | look a p => rfl
  | cls => rfl
  | bar => rfl
  | rep lo hi g => cases hi <;> rfl
  | one t =>
    have := nr_pt t
    unfold tkE Tk.d
    simp only [noRef, noRefs, this, Bool.and_self]
def mkB (b : Bool) (x y : Pt) : Pt := if b then .seq x y else .alt x y
def kS (b : Bool) : Str := if b then "sequence" else "choice"
theorem mkB_D {b : Bool} {x y : Pt} : ptD (mkB b x y) = .tup [.str (kS b), ptD x, ptD y] := by cases b <;> rfl
/-- what joins members: a tree and its weight -/
def jnS (b : Bool) (a x : Pt × Nat) : Pt × Nat := (mkB b x.1 a.1, a.2 + x.2)
def jnT (b : Bool) (ms : List (Pt × Nat)) : Pt × Nat := match ms.getLast? with
  | none => (.empty, 1)
  | some x => ms.dropLast.reverse.foldl (jnS b) x
theorem jnT_app {b : Bool} {ms : List (Pt × Nat)} {x : Pt × Nat} : jnT b (ms ++ [x]) = ms.reverse.foldl (jnS b) x := by
  unfold jnT
  rw [List.getLast?_concat, List.dropLast_concat]
abbrev Al := Pt × Nat
abbrev Me := (Pt × Nat) × Bool
def alD (x : Al) : D := .tup [ptD x.1, .int x.2]
def meD (x : Me) : D := .tup [ptD x.1.1, .int x.1.2, .bl x.2]
theorem alD_eq (x : Al) : alD x = .tup [ptD x.1, .int x.2] := rfl
theorem meD_eq (x : Me) : meD x = .tup [ptD x.1.1, .int x.1.2, .bl x.2] := rfl
/-- an open bracket -/
structure OB where
  tk : Option (Nat × Bk)
  nu : D
  al : List Al
  me : List Me
def tkO : Option (Nat × Bk) → D
  | none => .non
  | some (c, b) => (Tk.opn b).d c
def obO (o : OB) (ka km : Nat) : MO := .ins "OpenBracket" [("token", tkO o.tk), ("number", o.nu), ("alternatives", .ref ka), ("members", .ref km)]
theorem obO_eq (o : OB) (ka km : Nat) : obO o ka km = .ins "OpenBracket" [("token", tkO o.tk), ("number", o.nu), ("alternatives", .ref ka), ("members", .ref km)] := rfl
/-- the alternative ends -/
def OB.fin (o : OB) : OB := { o with al := o.al ++ [jnT true (o.me.map (·.1))], me := [] }
/-- what a bracket holds -/
def OB.cont (o : OB) : Pt × Nat := jnT false o.fin.al
structure BS where
  obs : List OB
  names : List Nm
  looks : Nat
theorem sl_at {M : Md} {k : Nat} {ds : List D} {lo hi : Option Int} {Q : QE} (h : M[k]? = some (.lst ds)) : slD false (.ref k) lo hi M Q = Q (.lst (cutD ds lo hi)) M := by
  have e : seqOf (.ref k) M = some ds := by rw [seqOf_R, h]; rfl
  simp only [slD, e]
  rfl
theorem cut_init' {α : Type} {xs : List α} {x : α} : cutD (xs ++ [x]) none (some (-1)) = xs := by
  unfold cutD
  have : HT.sIx (xs ++ [x]).length (xs ++ [x]).length (some (-1)) = xs.length := by
    unfold HT.sIx
    simp
    try omega
  rw [this, HT.sIx_none]
  simp
/-- the cells of a bracket -/
structure ObC (M : Md) (kc ka km : Nat) (o : OB) : Prop where
  c : M[kc]? = some (obO o ka km)
  l : M[ka]? = some (.lst (o.al.map alD))
  m : M[km]? = some (.lst (o.me.map meD))
/-- the memory when the alternative has ended -/
def finM (M : Md) (kc ka : Nat) (o : OB) : Md := ((M.set ka (MO.lst (o.fin.al.map alD))) ++ [MO.lst []]).set kc (obO o.fin ka M.length)
theorem ob_ne {M : Md} {k ka km j : Nat} {o : OB} {ds : List D} (h : M[k]? = some (obO o ka km)) (h2 : M[j]? = some (.lst ds)) : j ≠ k := by
  rintro rfl
  rw [h] at h2
  cases h2
theorem lt_of {M : Md} {k : Nat} {x : MO} (h : M[k]? = some x) : k < M.length := (List.getElem?_eq_some_iff.mp h).1
theorem finM_ob {M : Md} {kc ka km : Nat} {o : OB} (h : ObC M kc ka km o) : ObC (finM M kc ka o) kc ka M.length o.fin := by
  have h1 := lt_of h.c
  have h2 := lt_of h.l
  have h3 := ob_ne h.c h.l
  unfold finM
  refine ⟨?_, ?_, ?_⟩
  · rw [List.getElem?_set_self (by simp; omega)]
  · rw [List.getElem?_set_ne (Ne.symm h3), List.getElem?_append_left (by simp; omega), List.getElem?_set_self h2]
  · rw [List.getElem?_set_ne (by omega), List.getElem?_append_right (by simp)]
    simp [OB.fin]
theorem finM_o {M : Md} {kc ka j : Nat} {o : OB} {x : MO} (h : M[j]? = some x) (h1 : j ≠ kc) (h2 : j ≠ ka) : (finM M kc ka o)[j]? = some x := by
  unfold finM
  rw [List.getElem?_set_ne (Ne.symm h1), List.getElem?_append_left (by simp; exact lt_of h), List.getElem?_set_ne (Ne.symm h2)]
  exact h
theorem finM_len {M : Md} {kc ka : Nat} {o : OB} : (finM M kc ka o).length = M.length + 1 := by simp [finM]
theorem finM_take {M : Md} {kc ka n : Nat} {o : OB} (h1 : n ≤ kc) (h2 : n ≤ ka) (h : n ≤ M.length) : (finM M kc ka o).take n = M.take n := by
  unfold finM
  rw [List.take_set_of_le h1, List.take_append_of_le_length (by simp; omega), List.take_set_of_le h2]
theorem obj_at {M : Md} {k : Nat} {c m : Str} {fs : List (Str × D)} (h : M[k]? = some (.ins c fs)) (h2 : (fs.map (·.1)).contains m = false) : objD c m (.ref k) M := by
  simp only [objD, h]
  exact ⟨trivial, h2⟩
theorem ob_obj {M : Md} {k ka km : Nat} {o : OB} (h : M[k]? = some (obO o ka km)) {m : Str} (h2 : ([("token" : Str), "number", "alternatives", "members"].contains m) = false) : objD "OpenBracket" m (.ref k) M := obj_at h h2
/-- the cells of the open brackets, the one opened last ahead -/
inductive ObsC (M : Md) : List (Nat × Nat × Nat) → List OB → Prop
  | nil : ObsC M [] []
  | cons {r : Nat × Nat × Nat} {rs : List (Nat × Nat × Nat)} {o : OB} {os : List OB} : ObC M r.1 r.2.1 r.2.2 o → ObsC M rs os → ObsC M (r :: rs) (o :: os)
def ftR (r : Nat × Nat × Nat) : List Nat := [r.1, r.2.1, r.2.2]
def ftRs (rs : List (Nat × Nat × Nat)) : List Nat := rs.flatMap ftR
theorem ftRs_c {r : Nat × Nat × Nat} {rs : List (Nat × Nat × Nat)} : ftRs (r :: rs) = r.1 :: r.2.1 :: r.2.2 :: ftRs rs := rfl
theorem ObsC.len {M : Md} {rs : List (Nat × Nat × Nat)} {os : List OB} (h : ObsC M rs os) : rs.length = os.length := by
  induction h with
  | nil => rfl
  | cons _ _ ih => simp [ih]
theorem ObC.mono {M M' : Md} {a b c : Nat} {o : OB} (h : ObC M a b c o) (hk : ∀ j ∈ [a, b, c], M'[j]? = M[j]?) : ObC M' a b c o :=
  ⟨by rw [hk a (by simp)]; exact h.c, by rw [hk b (by simp)]; exact h.l, by rw [hk c (by simp)]; exact h.m⟩
theorem ObsC.mono {M M' : Md} {rs : List (Nat × Nat × Nat)} {os : List OB} (h : ObsC M rs os) (hk : ∀ j ∈ ftRs rs, M'[j]? = M[j]?) : ObsC M' rs os := by
  induction h with
  | nil => exact .nil
  | cons a _ ih => exact .cons (a.mono fun j hj => hk j (List.mem_append_left _ hj)) (ih fun j hj => hk j (List.mem_append_right _ hj))
def tbO (kb kg : Nat) (looks : Nat) : MO := .ins "TreeBuilder" [("brackets", .ref kb), ("group_names", .ref kg), ("look_count", .int looks)]
theorem tbO_eq (kb kg : Nat) (looks : Nat) : tbO kb kg looks = .ins "TreeBuilder" [("brackets", .ref kb), ("group_names", .ref kg), ("look_count", .int looks)] := rfl
def bkL (rs : List (Nat × Nat × Nat)) : List D := rs.reverse.map fun r => D.ref r.1
theorem bkL_c {r : Nat × Nat × Nat} {rs : List (Nat × Nat × Nat)} : bkL (r :: rs) = bkL rs ++ [.ref r.1] := by unfold bkL; rw [List.reverse_cons, List.map_append]; rfl
/-- the builder in memory: M0 is what was there before -/
structure BR (M0 M : Md) (k kb kg : Nat) (rs : List (Nat × Nat × Nat)) (s : BS) : Prop where
  t : M[k]? = some (tbO kb kg s.looks)
  b : M[kb]? = some (.lst (bkL rs))
  g : M[kg]? = some (.lst (s.names.map nmD))
  o : ObsC M rs s.obs
  nd : (k :: kb :: kg :: ftRs rs).Nodup
  lo : ∀ j ∈ k :: kb :: kg :: ftRs rs, M0.length ≤ j ∧ j < M.length
  pre : M.take M0.length = M0
/-- how much has been read -/
structure BOk (n : Nat) (s : BS) : Prop where
  nm : s.names.length ≤ n
  lk : s.looks ≤ n
  ob : ∀ o ∈ s.obs, o.al.length ≤ n ∧ o.me.length ≤ n
  bk : s.obs.length ≤ 9
  nn : ∀ w, some w ∈ s.names → w.length ≤ 20
theorem BR.len {M0 M : Md} {k kb kg : Nat} {rs : List (Nat × Nat × Nat)} {s : BS} (h : BR M0 M k kb kg rs s) : M0.length ≤ M.length := by
  have := h.lo k (by simp); omega
def Bk.nms (b : Bk) (ns : List Nm) : List Nm := match b with
  | .grp n => ns ++ [n]
  | _ => ns
def Bk.old (b : Bk) (ns : List Nm) : Bool := match b with
  | .grp (some w) => decide (some w ∈ ns)
  | _ => false
/-- a bracket opens -/
def enB (c : Nat) (b : Bk) (s : BS) : Rs BS := if 8 < s.obs.length then .error (c, "less nesting")
  else if b.old s.names = true then .error (c, "another name")
  else .ok { s with obs := ⟨some (c, b), .int (((b.nms s.names).length : Int) - 1), [], []⟩ :: s.obs, names := b.nms s.names }
def nuN : D → Nat
  | .int i => i.toNat
  | _ => 0
def OB.tree (o : OB) : Pt := match o.tk with
  | some (_, .grp _) => .grp (nuN o.nu) o.cont.1
  | some (_, .look a p) => .look a p o.cont.1 none
  | _ => o.cont.1
def OB.lks (o : OB) : Nat := match o.tk with
  | some (_, .look _ _) => 1
  | _ => 0
/-- a bracket closes -/
def lvB (c : Nat) (s : BS) : Rs BS := match s.obs with
  | o :: p :: r => .ok { s with obs := { p with me := p.me ++ [((o.tree, o.cont.2), false)] } :: r, looks := s.looks + o.lks }
  | _ => .error (c, "an open bracket")
def rpW (w lo : Nat) (hi : Option Nat) : Nat := w * (match hi with | none => lo + 1 | some h => max 1 h)
/-- the last element is repeated -/
def rpB (c lo : Nat) (hi : Option Nat) (g : Bool) (s : BS) : Rs BS := match s.obs with
  | [] => .error (c, "")
  | o :: r => match o.me.getLast? with
    | some ((t, w), false) => if 100 < rpW w lo hi then .error (c, "fewer repetitions")
      else .ok { s with obs := { o with me := o.me.dropLast ++ [((.rep t lo hi g, rpW w lo hi), true)] } :: r }
    | _ => .error (c, "something to repeat")
/-- a token is taken -/
def tkB (c : Nat) (t : Tk) (s : BS) : Rs BS := match t with
  | .opn b => enB c b s
  | .cls => lvB c s
  | .bar => match s.obs with
    | [] => .error (c, "")
    | o :: r => .ok { s with obs := o.fin :: r }
  | .rep lo hi g => rpB c lo hi g s
  | .one t => match s.obs with
    | [] => .error (c, "")
    | o :: r => .ok { s with obs := { o with me := o.me ++ [((t, 1), false)] } :: r }
/-- the whole tree -/
def whB (s : BS) : Rs (Pt × List Nm) := match s.obs with
  | [] => .error (0, "")
  | [o] => if 100 < o.cont.2 then .error (1, "a smaller pattern") else if 4 < s.looks then .error (1, "fewer lookarounds") else .ok (o.cont.1, s.names)
  | o :: _ :: _ => .error (match o.tk with | some (c, _) => c | none => 0, "a closing bracket")
/-- what is asked of the state -/
structure BOk' (s : BS) : Prop where
  tk : ∀ o ∈ s.obs, ∀ c n, o.tk = some (c, .grp n) → ∃ k : Nat, o.nu = .int k
  n0 : s.obs ≠ []
  dn : ∀ o ∈ s.obs.dropLast, ∃ x, o.tk = some x
theorem pre_er {M0 M : Md} {E : EX} {x : XD} (h : M.take M0.length = M0) (hE : ∀ L, E x (M0 ++ L)) : E x M := by
  rw [← List.take_append_drop M0.length M, h]
  exact hE _
theorem br_er {M0 M : Md} {k kb kg : Nat} {rs : List (Nat × Nat × Nat)} {s : BS} (h : BR M0 M k kb kg rs s) {α : Type} {r : Rs α} {e : Nat × Str} {E : EX} {Q : α → Prop} (hQ : rsQ 0 r E M0 Q) (he : r = .error e) : E ⟨"PatternError", some [("expected", .str e.2), ("column", .int (e.1 : Int))]⟩ M := by
  refine pre_er h.pre fun L => rs0 hQ he L
structure BNe (k kb kg : Nat) (fs : List Nat) : Prop where
  ekb : k ≠ kb
  ekg : k ≠ kg
  ebg : kb ≠ kg
  fk : ∀ j ∈ fs, j ≠ k
  fb : ∀ j ∈ fs, j ≠ kb
  fg : ∀ j ∈ fs, j ≠ kg
  nd : fs.Nodup
theorem bne_of {k kb kg : Nat} {fs : List Nat} (h : (k :: kb :: kg :: fs).Nodup) : BNe k kb kg fs := by
  simp only [List.nodup_cons, List.mem_cons, not_or] at h
  obtain ⟨⟨a1, a2, a3⟩, ⟨b1, b2⟩, c1, d⟩ := h
  exact ⟨a1, a2, b1, fun j hj e => a3 (e ▸ hj), fun j hj e => b2 (e ▸ hj), fun j hj e => c1 (e ▸ hj), d⟩
theorem take_set' {M M0 : Md} {j : Nat} {x : MO} (h : M.take M0.length = M0) (hj : M0.length ≤ j) : (M.set j x).take M0.length = M0 := by
  rw [List.take_set_of_le hj]; exact h
theorem take_app' {M M0 L : Md} (h : M.take M0.length = M0) (hl : M0.length ≤ M.length) : (M ++ L).take M0.length = M0 := by
  rw [List.take_append_of_le_length hl]; exact h
theorem BR.nm {M0 M : Md} {k kb kg : Nat} {rs : List (Nat × Nat × Nat)} {s : BS} (h : BR M0 M k kb kg rs s) (ns : List Nm) : BR M0 (M.set kg (.lst (ns.map nmD))) k kb kg rs { s with names := ns } := by
  have z := bne_of h.nd
  have hlo := h.lo
  refine ⟨?_, ?_, ?_, ?_, h.nd, ?_, take_set' h.pre (hlo kg (by simp)).1⟩
  · rw [List.getElem?_set_ne (Ne.symm z.ekg)]; exact h.t
  · rw [List.getElem?_set_ne (Ne.symm z.ebg)]; exact h.b
  · exact at_set h.g
  · exact h.o.mono fun j hj => List.getElem?_set_ne (Ne.symm (z.fg j hj))
  · intro j hj
    rw [len_set]; exact hlo j hj
theorem at_len0 {M L : Md} {n : Nat} (e : M.length = n) : (M ++ L)[n]? = L[0]? := by rw [← e]; exact at_new0
theorem at_len {M L : Md} {n i : Nat} (e : M.length = n) : (M ++ L)[n + i]? = L[i]? := by rw [← e]; exact at_new
theorem BR.push {M0 M : Md} {k kb kg : Nat} {rs : List (Nat × Nat × Nat)} {s : BS} (h : BR M0 M k kb kg rs s) (t : Option (Nat × Bk)) (n : D) :
    BR M0 (M.set kb (.lst (bkL rs ++ [.ref M.length])) ++ [obO ⟨t, n, [], []⟩ (M.length + 1) (M.length + 2), .lst [], .lst []]) k kb kg ((M.length, M.length + 1, M.length + 2) :: rs) { s with obs := ⟨t, n, [], []⟩ :: s.obs } := by
  have z := bne_of h.nd
  have hlo := h.lo
  have e : (M.set kb (.lst (bkL rs ++ [.ref M.length]))).length = M.length := len_set
  refine ⟨?_, ?_, ?_, .cons ⟨?_, ?_, ?_⟩ ?_, ?_, ?_, take_app' (take_set' h.pre (hlo kb (by simp)).1) (by rw [e]; exact h.len)⟩
  · exact at_old (at_set_ne h.t (Ne.symm z.ekb))
  · rw [bkL_c]; exact at_old (at_set h.b)
  · exact at_old (at_set_ne h.g z.ebg)
  · exact at_len0 e
  · exact at_len e
  · exact at_len e
  · refine h.o.mono fun j hj => ?_
    have hjl := (hlo j (by simp [hj])).2
    rw [List.getElem?_append_left (by rw [e]; exact hjl), List.getElem?_set_ne (Ne.symm (z.fb j hj))]
  · have hn := h.nd
    rw [ftRs_c]
    have q : ∀ m, M.length ≤ m → m ∉ k :: kb :: kg :: ftRs rs := fun m hm hmem => by have := (hlo m hmem).2; omega
    have q0 := q M.length (by omega)
    have q1 := q (M.length + 1) (by omega)
    have q2 := q (M.length + 2) (by omega)
    simp only [List.nodup_cons, List.mem_cons, not_or] at hn q0 q1 q2 ⊢
    obtain ⟨⟨a1, a2, a3⟩, ⟨b1, b2⟩, c1, d⟩ := hn
    obtain ⟨x1, x2, x3, x4⟩ := q0
    obtain ⟨y1, y2, y3, y4⟩ := q1
    obtain ⟨w1, w2, w3, w4⟩ := q2
    refine ⟨⟨a1, a2, Ne.symm x1, Ne.symm y1, Ne.symm w1, a3⟩, ⟨b1, Ne.symm x2, Ne.symm y2, Ne.symm w2, b2⟩, ⟨Ne.symm x3, Ne.symm y3, Ne.symm w3, c1⟩, ⟨by omega, by omega, x4⟩, ⟨by omega, y4⟩, w4, d⟩
  · intro j hj
    rw [List.length_append, e]
    rw [ftRs_c] at hj
    have hl := h.len
    simp only [List.mem_cons] at hj
    rcases hj with rfl | rfl | rfl | rfl | rfl | rfl | hj
    · have := hlo j (by simp); exact ⟨this.1, by simp; omega⟩
    · have := hlo j (by simp); exact ⟨this.1, by simp; omega⟩
    · have := hlo j (by simp); exact ⟨this.1, by simp; omega⟩
    · exact ⟨hl, by simp⟩
    · exact ⟨by omega, by simp⟩
    · exact ⟨by omega, by simp⟩
    · have := hlo j (by simp [hj]); exact ⟨this.1, by simp; omega⟩
theorem BR.frame {M0 M M' : Md} {k kb kg : Nat} {rs : List (Nat × Nat × Nat)} {s : BS} (h : BR M0 M k kb kg rs s) (hj : ∀ j ∈ k :: kb :: kg :: ftRs rs, M'[j]? = M[j]?) (hl : M.length ≤ M'.length) (hp : M'.take M0.length = M0) : BR M0 M' k kb kg rs s :=
  ⟨by rw [hj k (by simp)]; exact h.t, by rw [hj kb (by simp)]; exact h.b, by rw [hj kg (by simp)]; exact h.g, h.o.mono fun j hm => hj j (by simp [hm]), h.nd, fun j hm => ⟨(h.lo j hm).1, Nat.lt_of_lt_of_le (h.lo j hm).2 hl⟩, hp⟩
theorem ObsC.inv {M : Md} {r : Nat × Nat × Nat} {rs : List (Nat × Nat × Nat)} {o : OB} {os : List OB} (h : ObsC M (r :: rs) (o :: os)) : ObC M r.1 r.2.1 r.2.2 o ∧ ObsC M rs os := by
  cases h with
  | cons a b => exact ⟨a, b⟩
structure RNe (k kb kg : Nat) (r : Nat × Nat × Nat) (rs : List (Nat × Nat × Nat)) : Prop where
  own : r.1 ≠ r.2.1 ∧ r.1 ≠ r.2.2 ∧ r.2.1 ≠ r.2.2
  out : ∀ j ∈ ftR r, j ∉ k :: kb :: kg :: ftRs rs
  nd : (k :: kb :: kg :: ftRs rs).Nodup
theorem rne_of {k kb kg : Nat} {r : Nat × Nat × Nat} {rs : List (Nat × Nat × Nat)} (h : (k :: kb :: kg :: ftRs (r :: rs)).Nodup) : RNe k kb kg r rs := by
  rw [ftRs_c] at h
  simp only [List.nodup_cons, List.mem_cons, not_or] at h
  obtain ⟨⟨a1, a2, a3, a4, a5, a6⟩, ⟨b1, b2, b3, b4, b5⟩, ⟨c1, c2, c3, c4⟩, ⟨d1, d2, d3⟩, ⟨e1, e2⟩, f1, g⟩ := h
  refine ⟨⟨d1, d2, e1⟩, ?_, ?_⟩
  · intro j hj
    simp only [ftR, List.mem_cons, List.not_mem_nil, or_false] at hj
    simp only [List.mem_cons, not_or]
    rcases hj with rfl | rfl | rfl
    · exact ⟨Ne.symm a3, Ne.symm b2, Ne.symm c1, d3⟩
    · exact ⟨Ne.symm a4, Ne.symm b3, Ne.symm c2, e2⟩
    · exact ⟨Ne.symm a5, Ne.symm b4, Ne.symm c3, f1⟩
  · simp only [List.nodup_cons, List.mem_cons, not_or]
    exact ⟨⟨a1, a2, a6⟩, ⟨b1, b5⟩, c4, g⟩
theorem BR.pop {M0 M : Md} {k kb kg : Nat} {r : Nat × Nat × Nat} {rs : List (Nat × Nat × Nat)} {o : OB} {os : List OB} {ns : List Nm} {lk : Nat} (h : BR M0 M k kb kg (r :: rs) ⟨o :: os, ns, lk⟩) :
    BR M0 (M.set kb (.lst (bkL rs))) k kb kg rs ⟨os, ns, lk⟩ ∧ ObC (M.set kb (.lst (bkL rs))) r.1 r.2.1 r.2.2 o := by
  have z := bne_of h.nd
  have y := rne_of h.nd
  obtain ⟨h1, h2⟩ := h.o.inv
  refine ⟨⟨?_, ?_, ?_, ?_, y.nd, ?_, take_set' h.pre (h.lo kb (by simp)).1⟩, ?_⟩
  · exact at_set_ne h.t (Ne.symm z.ekb)
  · exact at_set h.b
  · exact at_set_ne h.g z.ebg
  · exact h2.mono fun j hj => List.getElem?_set_ne (Ne.symm (z.fb j (by rw [ftRs_c]; simp [hj])))
  · intro j hj
    rw [len_set]
    refine h.lo j ?_
    rw [ftRs_c]
    simp only [List.mem_cons] at hj ⊢
    rcases hj with h | h | h | h
    · exact .inl h
    · exact .inr (.inl h)
    · exact .inr (.inr (.inl h))
    · exact .inr (.inr (.inr (.inr (.inr (.inr h)))))
  · refine h1.mono fun j hj => List.getElem?_set_ne (Ne.symm (z.fb j ?_))
    rw [ftRs_c]
    simp only [List.mem_cons, List.not_mem_nil, or_false] at hj ⊢
    rcases hj with h | h | h
    · exact .inl h
    · exact .inr (.inl h)
    · exact .inr (.inr (.inl h))
theorem BR.look {M0 M : Md} {k kb kg : Nat} {rs : List (Nat × Nat × Nat)} {s : BS} (h : BR M0 M k kb kg rs s) (lk : Nat) : BR M0 (M.set k (tbO kb kg lk)) k kb kg rs { s with looks := lk } := by
  have z := bne_of h.nd
  have hlo := h.lo
  refine ⟨at_set h.t, at_set_ne h.b z.ekb, at_set_ne h.g z.ekg, h.o.mono fun j hj => List.getElem?_set_ne (Ne.symm (z.fk j hj)), h.nd, ?_, take_set' h.pre (hlo k (by simp)).1⟩
  intro j hj
  rw [len_set]; exact hlo j hj
theorem BR.mem {M0 M : Md} {k kb kg : Nat} {r : Nat × Nat × Nat} {rs : List (Nat × Nat × Nat)} {o : OB} {os : List OB} {ns : List Nm} {lk : Nat} (h : BR M0 M k kb kg (r :: rs) ⟨o :: os, ns, lk⟩) (me : List Me) :
    BR M0 (M.set r.2.2 (.lst (me.map meD))) k kb kg (r :: rs) ⟨{ o with me := me } :: os, ns, lk⟩ := by
  have y := rne_of h.nd
  obtain ⟨h1, h2⟩ := h.o.inv
  have yo := y.out r.2.2 (by simp [ftR])
  simp only [List.mem_cons, not_or] at yo
  obtain ⟨o1, o2, o3, o4⟩ := yo
  have hlo := h.lo
  refine ⟨at_set_ne h.t o1, at_set_ne h.b o2, at_set_ne h.g o3, .cons ⟨at_set_ne h1.c (Ne.symm y.own.2.1), at_set_ne h1.l (Ne.symm y.own.2.2), at_set h1.m⟩ (h2.mono fun j hj => List.getElem?_set_ne (show r.2.2 ≠ j from fun e => o4 (by rw [e]; exact hj))), h.nd, ?_, take_set' h.pre (hlo r.2.2 (by rw [ftRs_c]; simp)).1⟩
  intro j hj
  rw [len_set]; exact hlo j hj
theorem BR.fin {M0 M : Md} {k kb kg : Nat} {rs : List (Nat × Nat × Nat)} {s : BS} {r : Nat × Nat × Nat} {o : OB} (h : BR M0 M k kb kg rs s) (ho : ObC M r.1 r.2.1 r.2.2 o) (hout : ∀ j ∈ ftR r, j ∉ k :: kb :: kg :: ftRs rs) (hlo : ∀ j ∈ ftR r, M0.length ≤ j) : BR M0 (finM M r.1 r.2.1 o) k kb kg rs s := by
  refine h.frame (fun j hj => ?_) (by rw [finM_len]; omega) ?_
  · obtain ⟨x, hx⟩ : ∃ x, M[j]? = some x := ⟨_, List.getElem?_eq_getElem (h.lo j hj).2⟩
    rw [hx]
    refine finM_o hx (fun e => hout r.1 (by simp [ftR]) (e ▸ hj)) (fun e => hout r.2.1 (by simp [ftR]) (e ▸ hj))
  · rw [finM_take (hlo _ (by simp [ftR])) (hlo _ (by simp [ftR])) h.len]; exact h.pre
theorem BR.bar {M0 M : Md} {k kb kg : Nat} {r : Nat × Nat × Nat} {rs : List (Nat × Nat × Nat)} {o : OB} {os : List OB} {ns : List Nm} {lk : Nat} (h : BR M0 M k kb kg (r :: rs) ⟨o :: os, ns, lk⟩) :
    BR M0 (finM M r.1 r.2.1 o) k kb kg ((r.1, r.2.1, M.length) :: rs) ⟨o.fin :: os, ns, lk⟩ := by
  have y := rne_of h.nd
  have hlo := h.lo
  obtain ⟨h1, h2⟩ := h.o.inv
  have hl := h.len
  have fr : ∀ j ∈ k :: kb :: kg :: ftRs rs, ∀ x, M[j]? = some x → (finM M r.1 r.2.1 o)[j]? = some x := fun j hj x hx => finM_o hx (fun e => y.out r.1 (by simp [ftR]) (e ▸ hj)) (fun e => y.out r.2.1 (by simp [ftR]) (e ▸ hj))
  have sub : ∀ j ∈ k :: kb :: kg :: ftRs rs, j ∈ k :: kb :: kg :: ftRs (r :: rs) := by
    intro j hj
    rw [ftRs_c]
    simp only [List.mem_cons] at hj ⊢
    rcases hj with h | h | h | h
    · exact .inl h
    · exact .inr (.inl h)
    · exact .inr (.inr (.inl h))
    · exact .inr (.inr (.inr (.inr (.inr (.inr h)))))
  refine ⟨fr k (by simp) _ h.t, ?_, fr kg (by simp) _ h.g, .cons (finM_ob h1) (h2.mono fun j hj => ?_), ?_, ?_, ?_⟩
  · have := fr kb (by simp) _ h.b
    rw [bkL_c] at this ⊢
    exact this
  · have hm := hlo j (sub j (by simp [hj]))
    obtain ⟨x, hx⟩ : ∃ x, M[j]? = some x := ⟨_, List.getElem?_eq_getElem hm.2⟩
    rw [hx]
    exact fr j (by simp [hj]) x hx
  · have hn := h.nd
    have q : M.length ∉ k :: kb :: kg :: ftRs (r :: rs) := fun hm => by have := (hlo _ hm).2; omega
    rw [ftRs_c] at hn q ⊢
    simp only [List.nodup_cons, List.mem_cons, not_or] at hn q ⊢
    obtain ⟨⟨a1, a2, a3, a4, a5, a6⟩, ⟨b1, b2, b3, b4, b5⟩, ⟨c1, c2, c3, c4⟩, ⟨d1, d2, d3⟩, ⟨e1, e2⟩, f1, g⟩ := hn
    obtain ⟨x1, x2, x3, x4, x5, x6, x7⟩ := q
    exact ⟨⟨a1, a2, a3, a4, Ne.symm x1, a6⟩, ⟨b1, b2, b3, Ne.symm x2, b5⟩, ⟨c1, c2, Ne.symm x3, c4⟩, ⟨d1, Ne.symm x4, d3⟩, ⟨Ne.symm x5, e2⟩, x7, g⟩
  · intro j hj
    rw [finM_len]
    by_cases e : j = M.length
    · subst e; exact ⟨hl, by omega⟩
    · have : j ∈ k :: kb :: kg :: ftRs (r :: rs) := by
        rw [ftRs_c] at hj ⊢
        simp only [List.mem_cons] at hj ⊢
        rcases hj with h | h | h | h | h | h | h
        · exact .inl h
        · exact .inr (.inl h)
        · exact .inr (.inr (.inl h))
        · exact .inr (.inr (.inr (.inl h)))
        · exact .inr (.inr (.inr (.inr (.inl h))))
        · exact absurd h e
        · exact .inr (.inr (.inr (.inr (.inr (.inr h)))))
      have := hlo j this
      exact ⟨this.1, by omega⟩
  · rw [finM_take (hlo r.1 (by rw [ftRs_c]; simp)).1 (hlo r.2.1 (by rw [ftRs_c]; simp)).1 hl]; exact h.pre
theorem bok0 : BOk 0 ⟨[⟨none, .non, [], []⟩], [], 0⟩ := by
  refine ⟨by simp, by simp, ?_, by simp, by simp⟩
  intro o ho
  simp only [List.mem_cons, List.not_mem_nil, or_false] at ho
  subst ho
  exact ⟨Nat.le_refl _, Nat.le_refl _⟩
theorem bok0' : BOk' ⟨[⟨none, .non, [], []⟩], [], 0⟩ := by
  refine ⟨?_, by simp, by simp⟩
  intro o ho c n h
  simp only [List.mem_cons, List.not_mem_nil, or_false] at ho
  subst ho
  cases h
theorem bok_top {n : Nat} {o o' : OB} {os : List OB} {ns : List Nm} {lk : Nat} (h : BOk n ⟨o :: os, ns, lk⟩) (h1 : o'.al.length ≤ o.al.length + 1) (h2 : o'.me.length ≤ o.me.length + 1) : BOk (n + 1) ⟨o' :: os, ns, lk⟩ := by
  have := h.ob o (by simp)
  refine ⟨Nat.le_succ_of_le h.nm, Nat.le_succ_of_le h.lk, ?_, h.bk, h.nn⟩
  intro x hx
  rcases List.mem_cons.mp hx with rfl | hx
  · exact ⟨by omega, by omega⟩
  · have := h.ob x (List.mem_cons_of_mem _ hx)
    exact ⟨by omega, by omega⟩
theorem bok_top' {o o' : OB} {os : List OB} {ns : List Nm} {lk : Nat} (h : BOk' ⟨o :: os, ns, lk⟩) (h1 : o'.tk = o.tk) (h2 : o'.nu = o.nu) : BOk' ⟨o' :: os, ns, lk⟩ := by
  refine ⟨?_, by simp, ?_⟩
  · intro x hx c n e
    rcases List.mem_cons.mp hx with rfl | hx
    · rw [h1] at e
      rw [h2]
      exact h.tk o (by simp) c n e
    · exact h.tk x (List.mem_cons_of_mem _ hx) c n e
  · intro x hx
    cases os with
    | nil => simp at hx
    | cons p os =>
      rw [List.dropLast_cons₂] at hx
      rcases List.mem_cons.mp hx with rfl | hx
      · rw [h1]; exact h.dn o (by rw [List.dropLast_cons₂]; simp)
      · exact h.dn x (by rw [List.dropLast_cons₂]; exact List.mem_cons_of_mem _ hx)
theorem tkB_ok {n c : Nat} {t : Tk} {s s' : BS} (h : BOk n s) (h' : BOk' s) (ht : t.ok) (e : tkB c t s = .ok s') : BOk (n + 1) s' ∧ BOk' s' := by
  obtain ⟨os, ns, lk⟩ := s
  cases os with
  | nil => exact absurd rfl h'.n0
  | cons o os =>
  have ho := h.ob o (by simp)
  cases t with
  | opn b =>
    simp only [tkB, enB] at e
    split at e
    · cases e
    · next h8 =>
      split at e
      · cases e
      · cases e
        have hnl : (b.nms ns).length ≤ n + 1 := by
          have : ns.length ≤ n := h.nm
          cases b <;> simp [Bk.nms] <;> omega
        refine ⟨⟨hnl, Nat.le_succ_of_le h.lk, ?_, ?_, ?_⟩, ⟨?_, by simp, ?_⟩⟩
        · intro x hx
          rcases List.mem_cons.mp hx with rfl | hx
          · exact ⟨Nat.zero_le _, Nat.zero_le _⟩
          · have := h.ob x hx
            exact ⟨by omega, by omega⟩
        · simp at h8 ⊢; omega
        · intro w hw
          cases b with
          | grp m =>
            simp only [Bk.nms, List.mem_append, List.mem_singleton] at hw
            rcases hw with hw | hw
            · exact h.nn w hw
            · subst hw; exact ht
          | plain => exact h.nn w hw
          | look a p => exact h.nn w hw
        · intro x hx c2 m e2
          rcases List.mem_cons.mp hx with rfl | hx
          · simp only [Option.some.injEq, Prod.mk.injEq] at e2
            obtain ⟨_, rfl⟩ := e2
            refine ⟨ns.length, ?_⟩
            show D.int _ = D.int _
            congr 1
            simp [Bk.nms]
          · exact h'.tk x hx c2 m e2
        · intro x hx
          rw [List.dropLast_cons₂] at hx
          rcases List.mem_cons.mp hx with rfl | hx
          · exact ⟨_, rfl⟩
          · exact h'.dn x hx
  | cls =>
    simp only [tkB, lvB] at e
    cases os with
    | nil => cases e
    | cons p os =>
      cases e
      have h2 : BOk n ⟨p :: os, ns, lk⟩ := ⟨h.nm, h.lk, fun x hx => h.ob x (List.mem_cons_of_mem _ hx), by have := h.bk; simp at this ⊢; omega, h.nn⟩
      have h2' : BOk' ⟨p :: os, ns, lk⟩ := ⟨fun x hx => h'.tk x (List.mem_cons_of_mem _ hx), by simp, fun x hx => h'.dn x (by rw [List.dropLast_cons₂]; exact List.mem_cons_of_mem _ hx)⟩
      have h3 := bok_top (o' := { p with me := p.me ++ [((o.tree, o.cont.2), false)] }) h2 (by simp) (by simp)
      have h3' := bok_top' (o' := { p with me := p.me ++ [((o.tree, o.cont.2), false)] }) h2' rfl rfl
      have hk : o.lks ≤ 1 := by unfold OB.lks; split <;> omega
      have := h.lk
      exact ⟨⟨h3.nm, by simp at this ⊢; omega, h3.ob, h3.bk, h3.nn⟩, ⟨h3'.tk, h3'.n0, h3'.dn⟩⟩
  | bar =>
    simp only [tkB] at e
    cases e
    exact ⟨bok_top h (by simp [OB.fin]) (by simp [OB.fin]), bok_top' h' rfl rfl⟩
  | rep lo hi g =>
    simp only [tkB, rpB] at e
    split at e
    · split at e
      · cases e
      · cases e
        exact ⟨bok_top h (by simp) (by simp <;> omega), bok_top' h' rfl rfl⟩
    · cases e
  | one t =>
    simp only [tkB] at e
    cases e
    exact ⟨bok_top h (by simp) (by simp), bok_top' h' rfl rfl⟩
/-- all tokens are taken -/
def bdR : List (Nat × Tk) → BS → Rs BS
  | [], s => .ok s
  | x :: l, s => match tkB x.1 x.2 s with
    | .error e => .error e
    | .ok s' => bdR l s'
theorem bdR_c {x : Nat × Tk} {l : List (Nat × Tk)} {s : BS} : bdR (x :: l) s = match tkB x.1 x.2 s with
    | .error e => .error e
    | .ok s' => bdR l s' := rfl
/-- a pattern is read -/
noncomputable def rdP (cs : List Nat) (f : Fl) : Rs (Pt × List Nm) := match tksR cs f (cs.length + 1) 0 [] with
  | .error e => .error e
  | .ok l => match bdR l ⟨[⟨none, .non, [], []⟩], [], 0⟩ with
    | .error e => .error e
    | .ok s => whB s
abbrev c535_3 : CSs := .cons (.setFld "OpenBracket" (.var 0) "members" (.lst true .nil)) .nil
abbrev c535_2 : CSs := .cons (.setFld "OpenBracket" (.var 0) "alternatives" (.lst true .nil)) c535_3
abbrev c535_1 : CSs := .cons (.setFld "OpenBracket" (.var 0) "number" (.var 2)) c535_2
abbrev c535 : CSs := .cons (.setFld "OpenBracket" (.var 0) "token" (.var 1)) c535_1
def sp535 : SpD := fun ds M Q _ => ∃ (M0 : Md) (t : Option (Nat × Bk)) (n : D), ds = [.ref M0.length, tkO t, n] ∧ M = M0 ++ [.ins "OpenBracket" []] ∧ Q .non (M0 ++ [obO ⟨t, n, [], []⟩ (M0.length + 1) (M0.length + 2), .lst [], .lst []])
theorem ln535 : ∀ ds M Q E, sp535 ds M Q E → ds.length = 3 := by
  rintro _ _ _ _ ⟨_, _, _, rfl, _⟩; rfl
theorem rd535 {Φ : Nat → SpD} {κ : Nat → D} : RdOk Φ κ c535 3 (sp535) := by
  rintro ds M Q E hM hd ⟨M0, t, n, rfl, rfl, hQ⟩
  rw [obO_eq] at hQ
  walk_at "go"
  exact .keep hQ
abbrev c1189_2 : CSs := .cons (.setFld "TreeBuilder" (.var 0) "look_count" (.int 0)) .nil
abbrev c1189_1 : CSs := .cons (.setFld "TreeBuilder" (.var 0) "group_names" (.lst true .nil)) c1189_2
abbrev c1189 : CSs := .cons (.setFld "TreeBuilder" (.var 0) "brackets" (.lst true (.cons (.make true 535 "OpenBracket" (.cons .non (.cons .non .nil))) .nil))) c1189_1
def s0B : BS := ⟨[⟨none, .non, [], []⟩], [], 0⟩
def m0B (n : Nat) : Md := [tbO (n + 4) (n + 5) 0, obO ⟨none, .non, [], []⟩ (n + 2) (n + 3), .lst [], .lst [], .lst [.ref (n + 1)], .lst []]
theorem m0B_eq (n : Nat) : m0B n = [.ins "TreeBuilder" [("brackets", .ref (n + 4)), ("group_names", .ref (n + 5)), ("look_count", .int 0)], obO ⟨none, .non, [], []⟩ (n + 2) (n + 3), .lst [], .lst [], .lst [.ref (n + 1)], .lst []] := rfl
def sp1189 : SpD := fun ds M Q _ => ∃ (M0 : Md), ds = [.ref M0.length] ∧ M = M0 ++ [.ins "TreeBuilder" []] ∧ Q .non (M0 ++ m0B M0.length)
theorem ln1189 : ∀ ds M Q E, sp1189 ds M Q E → ds.length = 1 := by
  rintro _ _ _ _ ⟨_, rfl, _⟩; rfl
theorem br0 {M0 : Md} : BR M0 (M0 ++ m0B M0.length) M0.length (M0.length + 4) (M0.length + 5) [(M0.length + 1, M0.length + 2, M0.length + 3)] s0B := by
  refine ⟨at_new0, at_new, at_new, .cons ⟨at_new, at_new, at_new⟩ .nil, ?_, ?_, ?_⟩
  · simp [ftRs, ftR]
  · intro j hj
    simp [ftRs, ftR] at hj
    simp [m0B]
    omega
  · simp
theorem rd1189 {Φ : Nat → SpD} {κ : Nat → D} (h535 : Φ 535 = sp535) : RdOk Φ κ c1189 1 (sp1189) := by
  rintro ds M Q E hM hd ⟨M0, rfl, rfl, hQ⟩
  rw [m0B_eq] at hQ
  walk_at "go"
  rw [h535]
  refine ⟨M0 ++ [.ins "TreeBuilder" []], none, .non, by simp [tkO], by simp, ?_⟩
  rw [obO_eq]
  rw [obO_eq] at hQ
  walk_at "go"
  exact .keep hQ
abbrev c1347_8 : CSs := .cons (.raiseI "PatternError" ["column", "expected"] (.cons (.bin .add (.var 1) (.int 1)) (.cons (.str "a count") .nil))) .nil
abbrev c1347_9 : CSs := .cons (.ret (.tup (.cons (.var 2) (.cons (.var 2) (.cons (.bin .add (.var 3) (.int 1)) .nil))))) .nil
abbrev c1347_10 : CSs := .cons (.raiseI "PatternError" ["column", "expected"] (.cons (.bin .add (.var 3) (.int 1)) (.cons (.str "a comma or the end of the count") .nil))) .nil
abbrev c1347_11 : CSs := .cons (.raiseI "PatternError" ["column", "expected"] (.cons (.bin .add (.var 5) (.int 1)) (.cons (.str "the end of the count") .nil))) .nil
abbrev c1347_12 : CSs := .cons (.raiseI "PatternError" ["column", "expected"] (.cons (.bin .add (.var 5) (.int 1)) (.cons (.str "a count not less than the first") .nil))) .nil
abbrev c1347_7 : CSs := .cons (.ret (.tup (.cons (.var 2) (.cons (.var 4) (.cons (.bin .add (.var 5) (.int 1)) .nil))))) .nil
abbrev c1347_6 : CSs := .cons (.ifs (.and (.cmp .notN (.var 4) .non) (.cmp .lt (.var 4) (.var 2))) c1347_12 .nil) c1347_7
abbrev c1347_5 : CSs := .cons (.ifs (.cmp .ne (.slc false (.var 0) (.some (.var 5)) (.some (.bin .add (.var 5) (.int 1)))) (.str "}")) c1347_11 .nil) c1347_6
abbrev c1347_4 : CSs := .cons (.setT [4, 5] (.call 1013 (.cons (.var 0) (.cons (.bin .add (.var 3) (.int 1)) .nil)))) c1347_5
abbrev c1347_3 : CSs := .cons (.ifs (.cmp .ne (.slc false (.var 0) (.some (.var 3)) (.some (.bin .add (.var 3) (.int 1)))) (.str ",")) c1347_10 .nil) c1347_4
abbrev c1347_2 : CSs := .cons (.ifs (.cmp .eq (.slc false (.var 0) (.some (.var 3)) (.some (.bin .add (.var 3) (.int 1)))) (.str "}")) c1347_9 .nil) c1347_3
abbrev c1347_1 : CSs := .cons (.ifs (.cmp .isN (.var 2) .non) c1347_8 .nil) c1347_2
abbrev c1347 : CSs := .cons (.setT [2, 3] (.call 1013 (.cons (.var 0) (.cons (.var 1) .nil)))) c1347_1
def sp1347 : SpD := fun ds M Q E => ∃ (cs : List Nat) (i : Nat), ds = [.str (tx cs), .int i] ∧ SrcOk cs ∧ i ≤ cs.length ∧ rsQ 0 (ctsR cs i) E M fun x => Q (.tup [.int x.1, onD x.2.1, .int x.2.2]) M
theorem ln1347 : ∀ ds M Q E, sp1347 ds M Q E → ds.length = 2 := by
  rintro _ _ _ _ ⟨_, _, rfl, _⟩; rfl
theorem one_if {cs : List Nat} {j d : Nat} {P : Prop} {A B : Prop} [Decidable P] (e : P ↔ cs[j]? = some d) (h1 : cs[j]? = some d → A) (h2 : cs[j]? ≠ some d → B) : if P then A else B := by
  split
  · next h => exact h1 (e.mp h)
  · next h => exact h2 (fun z => h (e.mpr z))
theorem one_iff {cs : List Nat} {j d : Nat} : tx (cs[j]?).toList = tx [d] ↔ cs[j]? = some d := by
  have := one_eq (cs := cs) (j := j) (d := d)
  rwa [decide_eq_decide] at this
theorem rd1347 {Φ : Nat → SpD} {κ : Nat → D} (h1013 : Φ 1013 = sp1013) : RdOk Φ κ c1347 6 (sp1347) := by
  rintro ds M Q E hM hd ⟨cs, i, rfl, hs, hi, hQ⟩
  have te : Str.ofString "}" = tx [125] := by decide +kernel
  have tc : Str.ofString "," = tx [44] := by decide +kernel
  have hsl := hs.len
  unfold ctsR at hQ
  walk_at "go"
  rw [h1013]
  refine ⟨cs, i, rfl, hs, hi, ?_⟩
  cases hr : cnR cs i with
  | error e => rw [hr] at hQ; exact hQ
  | ok x =>
    obtain ⟨o, j⟩ := x
    rw [hr] at hQ
    rw [rsQ_ok]
    cases o with
    | none =>
      simp only [onD]
      walk_at "go"
      have := rs0 hQ rfl []
      rw [List.append_nil] at this
      exact this
    | some lo =>
      dsimp only at hQ
      simp only [onD]
      walk_at "go"
      rw [cut_one, mk_tx, te]
      refine one_if one_iff (fun h1 => ?_) fun h1 => ?_
      · rw [if_pos h1] at hQ
        walk_at "go"
        exact .keep hQ
      rw [if_neg h1] at hQ
      walk_at "go"
      rw [cut_one, mk_tx, tc, one_eq]
      by_cases h2 : cs[j]? = some 44
      · rw [if_neg (fun z => z h2)] at hQ
        rw [decide_eq_true h2]
        have hj := (List.getElem?_eq_some_iff.mp h2).1
        walk_at "go"
        rw [h1013]
        refine ⟨cs, j + 1, by rw [show ((j + 1 : Nat) : Int) = (j : Int) + 1 by omega], hs, by omega, ?_⟩
        cases hr2 : cnR cs (j + 1) with
        | error e => rw [hr2] at hQ; exact hQ
        | ok x =>
          obtain ⟨hi2, k⟩ := x
          rw [hr2] at hQ
          dsimp only at hQ
          rw [rsQ_ok]
          walk_at "go"
          rw [cut_one, mk_tx, te, one_eq]
          by_cases h3 : cs[k]? = some 125
          · rw [if_neg (fun z => z h3)] at hQ
            rw [decide_eq_true h3]
            cases hi2 with
            | none =>
              simp only [onD]
              walk_at "go"
              rw [if_neg (by simp)] at hQ
              exact .keep hQ
            | some h =>
              simp only [onD]
              walk_at "go"
              refine iteI (fun h4 => ?_) fun h4 => ?_
              · rw [if_pos (decide_eq_true (by omega))] at hQ
                walk_at "go"
                have := rs0 hQ rfl []
                rw [List.append_nil] at this
                exact this
              · rw [if_neg (fun z => h4 (by have := of_decide_eq_true z; omega))] at hQ
                walk_at "go"
                exact .keep hQ
          · rw [if_pos h3] at hQ
            rw [decide_eq_false h3]
            walk_at "go"
            have := rs0 hQ rfl []
            rw [List.append_nil] at this
            exact this
      · rw [if_pos h2] at hQ
        rw [decide_eq_false h2]
        walk_at "go"
        have := rs0 hQ rfl []
        rw [List.append_nil] at this
        exact this
abbrev c1194_4 : CSs := .cons (.setT [4, 5, 6] (.idx (.var 2) (.idx (.var 0) (.var 1)))) .nil
abbrev c1194_5 : CSs := .cons (.setT [4, 5, 6] (.call 1347 (.cons (.var 0) (.cons (.bin .add (.var 1) (.int 1)) .nil)))) .nil
abbrev c1194_3 : CSs := .cons (.ret (.tup (.cons (.tup (.cons (.str "repeat") (.cons (.bin .add (.var 1) (.int 1)) (.cons (.var 4) (.cons (.var 5) (.cons (.var 3) .nil)))))) (.cons (.bin .add (.var 6) (.blt .int (.cons (.not (.var 3)) .nil))) .nil)))) .nil
abbrev c1194_2 : CSs := .cons (.set 3 (.cmp .ne (.slc false (.var 0) (.some (.var 6)) (.some (.bin .add (.var 6) (.int 1)))) (.str "?"))) c1194_3
abbrev c1194_1 : CSs := .cons (.ifs (.cmp .inn (.idx (.var 0) (.var 1)) (.var 2)) c1194_4 c1194_5) c1194_2
abbrev c1194 : CSs := .cons (.set 2 (.dlit ["*", "+", "?"] (.cons (.tup (.cons (.int 0) (.cons .non (.cons (.bin .add (.var 1) (.int 1)) .nil)))) (.cons (.tup (.cons (.int 1) (.cons .non (.cons (.bin .add (.var 1) (.int 1)) .nil)))) (.cons (.tup (.cons (.int 0) (.cons (.int 1) (.cons (.bin .add (.var 1) (.int 1)) .nil)))) .nil))))) c1194_1
def sp1194 : SpD := fun ds M Q E => ∃ (cs : List Nat) (i : Nat), ds = [.str (tx cs), .int i] ∧ SrcOk cs ∧ i < cs.length ∧ rsQ 0 (rpR cs i) E M fun x => Q (.tup [x.1.d (i + 1), .int x.2]) M
theorem ln1194 : ∀ ds M Q E, sp1194 ds M Q E → ds.length = 2 := by
  rintro _ _ _ _ ⟨_, _, rfl, _⟩; rfl
theorem rd1194 {Φ : Nat → SpD} {κ : Nat → D} (h1347 : Φ 1347 = sp1347) : RdOk Φ κ c1194 7 (sp1194) := by
  rintro ds M Q E hM hd ⟨cs, i, rfl, hs, hi, hQ⟩
  have tq : Str.ofString "?" = tx [63] := by decide +kernel
  have hsl := hs.len
  obtain ⟨c, hc⟩ : ∃ c, cs[i]? = some c := ⟨_, List.getElem?_eq_getElem hi⟩
  unfold rpR at hQ
  obtain ⟨P0, hP0⟩ : ∃ P0, P0 = rp0 cs i := ⟨_, rfl⟩
  rw [← hP0] at hQ
  unfold rp0 at hP0
  rw [hc] at hP0
  dsimp only at hP0
  have e : dlitP [Str.ofString "*", Str.ofString "+", Str.ofString "?"] [D.tup [.int 0, .non, .int ((i : Int) + 1)], D.tup [.int 1, .non, .int ((i : Int) + 1)], D.tup [.int 0, .int 1, .int ((i : Int) + 1)]] [] = [(some (.inr (tx [42])), D.tup [.int 0, .non, .int ((i : Int) + 1)]), (some (.inr (tx [43])), D.tup [.int 1, .non, .int ((i : Int) + 1)]), (some (.inr (tx [63])), D.tup [.int 0, .int 1, .int ((i : Int) + 1)])] := by
    rw [show Str.ofString "*" = tx [42] by decide +kernel, show Str.ofString "+" = tx [43] by decide +kernel, show Str.ofString "?" = tx [63] by decide +kernel]
    rfl
  walk_at "go"
  rw [e]
  obtain ⟨dd, hdd⟩ : ∃ dd : List (Option Key × D), dd = [(some (.inr (tx [42])), D.tup [.int 0, .non, .int ((i : Int) + 1)]), (some (.inr (tx [43])), D.tup [.int 1, .non, .int ((i : Int) + 1)]), (some (.inr (tx [63])), D.tup [.int 0, .int 1, .int ((i : Int) + 1)])] := ⟨_, rfl⟩
  have hv : dctVal dd (some (.inr (tx [c]))) = if c = 42 then some (D.tup [.int 0, .non, .int ((i : Int) + 1)]) else if c = 43 then some (D.tup [.int 1, .non, .int ((i : Int) + 1)]) else if c = 63 then some (D.tup [.int 0, .int 1, .int ((i : Int) + 1)]) else none := by
    rw [hdd, dct_hd, dct_hd, dct_hd, dct_nil]
  rw [← hdd]
  have fin : ∀ (lo j : Nat) (hi2 : Option Nat), P0 = .ok (lo, hi2, j) → nxt Φ κ c1194_2 (fun x _ M => E x M) (endsD M.length Q) [some (.str (tx cs)), some (.int i), some (.ref M.length), none, some (.int lo), some (onD hi2), some (.int j)] (M ++ [.dct dd]) := by
    intro lo j hi2 h
    rw [h] at hQ
    have hQ : Q (.tup [(Tk.rep lo hi2 (!decide (cs[j]? = some 63))).d (i + 1), .int ((j + (if cs[j]? = some 63 then 1 else 0) : Nat) : Int)]) M := hQ
    walk_at "go"
    rw [cut_one, mk_tx, tq, one_eq]
    by_cases h63 : cs[j]? = some 63
    · rw [if_pos h63, decide_eq_true h63] at hQ
      rw [decide_eq_true h63]
      try walk_at "go"
      rw [if_pos (one_iff.mpr h63)]
      refine .val rfl hM ?_ (show Q (.tup [(Tk.rep lo hi2 false).d (i + 1), .int ((j : Int) + 1)]) M from hQ)
      cases hi2 <;> rfl
    · rw [if_neg h63, decide_eq_false h63] at hQ
      rw [decide_eq_false h63]
      try walk_at "go"
      rw [if_neg (fun z => h63 (one_iff.mp z))]
      refine .val rfl hM ?_ (show Q (.tup [(Tk.rep lo hi2 true).d (i + 1), .int ((j : Int) + 0)]) M from hQ)
      cases hi2 <;> rfl
  refine ix_txn (by rw [size_eq]; omega) hc ?_
  walk_at "go"
  rw [hv]
  by_cases h1 : c = 42
  · rw [if_pos h1] at hP0
    rw [if_pos h1] at hv ⊢
    walk_at "go"
    refine ix_txn (by rw [size_eq]; omega) hc ?_
    walk_at "go"
    rw [hv]
    walk_at "rd2"
    exact fin 0 (i + 1) none hP0
  rw [if_neg h1] at hP0
  rw [if_neg h1] at hv ⊢
  by_cases h2 : c = 43
  · rw [if_pos h2] at hP0
    rw [if_pos h2] at hv ⊢
    walk_at "go"
    refine ix_txn (by rw [size_eq]; omega) hc ?_
    walk_at "go"
    rw [hv]
    walk_at "rd2"
    exact fin 1 (i + 1) none hP0
  rw [if_neg h2] at hP0
  rw [if_neg h2] at hv ⊢
  by_cases h3 : c = 63
  · rw [if_pos h3] at hP0
    rw [if_pos h3] at hv ⊢
    walk_at "go"
    refine ix_txn (by rw [size_eq]; omega) hc ?_
    walk_at "go"
    rw [hv]
    walk_at "rd2"
    exact fin 0 (i + 1) (some 1) hP0
  rw [if_neg h3] at hP0
  rw [if_neg h3] at hv ⊢
  walk_at "go"
  rw [h1347]
  refine ⟨cs, i + 1, by rw [show ((i + 1 : Nat) : Int) = (i : Int) + 1 by omega], hs, by omega, ?_⟩
  cases hr : ctsR cs (i + 1) with
  | error e =>
    rw [hr] at hP0
    rw [hP0] at hQ
    intro L
    rw [List.append_assoc]
    have := hQ ([.dct dd] ++ L)
    exact this
  | ok x =>
    obtain ⟨lo, hi2, j⟩ := x
    rw [hr] at hP0
    rw [rsQ_ok]
    walk_at "rd2"
    exact fin lo j hi2 hP0
abbrev c95_1 : CSs := .cons (.ret (.tup (.cons (.str "anchor") (.cons (.idx (.idx (.var 2) (.var 0)) (.blt .int (.cons (.cmp .inn (.str "m") (.var 1)) .nil))) .nil)))) .nil
abbrev c95 : CSs := .cons (.set 2 (.dlit ["^", "$"] (.cons (.tup (.cons (.str "text_start") (.cons (.str "line_start") .nil))) (.cons (.tup (.cons (.str "text_end") (.cons (.str "line_end") .nil))) .nil)))) c95_1
def sp95 : SpD := fun ds M Q _ => ∃ (c : Nat) (f : Fl), ds = [.str (tx [c]), .str (tx f.t)] ∧ (c = 94 ∨ c = 36) ∧ Q (ptD (.anchor (anS c f.m))) M
theorem ln95 : ∀ ds M Q E, sp95 ds M Q E → ds.length = 2 := by
  rintro _ _ _ _ ⟨_, _, rfl, _⟩; rfl
theorem rd95 {Φ : Nat → SpD} {κ : Nat → D} : RdOk Φ κ c95 3 (sp95) := by
  rintro ds M Q E hM hd ⟨c, f, rfl, hc, hQ⟩
  have tm : Str.ofString "m" = tx [109] := by decide +kernel
  have hQ : Q (.tup [.str "anchor", .str (anS c f.m)]) M := hQ
  unfold anS at hQ
  walk_at "go"
  have e : dlitP [Str.ofString "^", Str.ofString "$"] [D.tup [.str (Str.ofString "text_start"), .str (Str.ofString "line_start")], D.tup [.str (Str.ofString "text_end"), .str (Str.ofString "line_end")]] [] = [(some (.inr (tx [94])), D.tup [.str (Str.ofString "text_start"), .str (Str.ofString "line_start")]), (some (.inr (tx [36])), D.tup [.str (Str.ofString "text_end"), .str (Str.ofString "line_end")])] := by
    rw [show Str.ofString "^" = tx [94] by decide +kernel, show Str.ofString "$" = tx [36] by decide +kernel]
    rfl
  rw [e, dct_hd, dct_hd]
  rcases hc with rfl | rfl
  · rw [if_pos rfl] at hQ ⊢
    walk_at "go"
    rw [tm, in_txl, fl_m]
    cases hf : f.m <;>
    · rw [hf] at hQ
      simp only [Bool.false_eq_true, if_true, if_false] at hQ ⊢
      walk_at "go"
      exact .val rfl hM rfl hQ
  · rw [if_neg (by decide)] at hQ
    rw [if_neg (by decide), if_pos rfl]
    walk_at "go"
    rw [tm, in_txl, fl_m]
    cases hf : f.m <;>
    · rw [hf] at hQ
      simp only [Bool.false_eq_true, if_true, if_false] at hQ ⊢
      walk_at "go"
      exact .val rfl hM rfl hQ
abbrev c98_3 : CSs := .cons (.set 2 (.call 18 (.cons (.var 2) .nil))) .nil
abbrev c98_2 : CSs := .cons (.ret (.tup (.cons (.str "set") (.cons (.var 2) .nil)))) .nil
abbrev c98_1 : CSs := .cons (.ifs (.cmp .inn (.str "i") (.var 1)) c98_3 .nil) c98_2
abbrev c98 : CSs := .cons (.set 2 (.tup (.cons (.tup (.cons (.var 0) (.cons (.bin .add (.var 0) (.int 1)) .nil))) .nil))) c98_1
def sp98 : SpD := fun ds M Q _ => ∃ (c : Nat) (f : Fl), ds = [.int c, .str (tx f.t)] ∧ c < 128 ∧ Q (ptD (.set (cdT f c))) M
theorem ln98 : ∀ ds M Q E, sp98 ds M Q E → ds.length = 2 := by
  rintro _ _ _ _ ⟨_, _, rfl, _⟩; rfl
theorem rd98 {Φ : Nat → SpD} {κ : Nat → D} (h18 : Φ 18 = sp18) : RdOk Φ κ c98 3 (sp98) := by
  rintro ds M Q E hM hd ⟨c, f, rfl, hc, hQ⟩
  have ti : Str.ofString "i" = tx [105] := by decide +kernel
  have hset := set_one hc
  have hQ : Q (.tup [.str "set", csD (cdT f c)]) M := hQ
  unfold cdT at hQ
  walk_at "go"
  rw [ti, in_txl, fl_i]
  cases hf : f.i with
  | true =>
    rw [hf, if_pos rfl] at hQ
    walk_at "go"
    rw [h18]
    refine ⟨[((c : Int), (c : Int) + 1)], rfl, hset.2.1, hset.2.2, fun L hL hx => ?_⟩
    have eL : L = foldS [((c : Int), (c : Int) + 1)] := cnS_eq hL hx
    rw [eL]
    walk_at "go"
    exact .keep hQ
  | false =>
    rw [hf, if_neg (by simp)] at hQ
    walk_at "go"
    exact .keep hQ
abbrev c1182_11 : CSs := .cons (.raiseI "PatternError" ["column", "expected"] (.cons (.bin .add (.var 1) (.int 1)) (.cons (.str "the end of the class") .nil))) .nil
abbrev c1182_12 : CSs := .cons .brk .nil
abbrev c1182_15 : CSs := .cons (.set 5 .non) .nil
abbrev c1182_14 : CSs := .cons (.expr (.mth .extend (.var 4) (.cons (.var 9) .nil))) c1182_15
abbrev c1182_13 : CSs := .cons (.setT [9, 1] (.call 1014 (.cons (.var 0) (.cons (.var 1) (.cons (.var 2) (.cons (.bin .add (.var 3) (.int 1)) .nil)))))) c1182_14
abbrev c1182_18 : CSs := .cons (.expr (.mth .extend (.var 4) (.cons (.var 9) .nil))) .nil
abbrev c1182_17 : CSs := .cons (.setT [9, 5, 1] (.call 1187 (.cons (.var 0) (.cons (.var 1) .nil)))) c1182_18
abbrev c1182_20 : CSs := .cons (.raiseI "PatternError" ["column", "expected"] (.cons (.bin .add (.var 1) (.int 1)) (.cons (.str "a backslash ahead of this character") .nil))) .nil
abbrev c1182_23 : CSs := .cons (.set 5 .non) .nil
abbrev c1182_22 : CSs := .cons (.expr (.mth .append (.var 4) (.cons (.tup (.cons (.var 5) (.cons (.bin .add (.var 10) (.int 1)) .nil))) .nil))) c1182_23
abbrev c1182_21 : CSs := .cons (.setT [10, 1] (.call 1188 (.cons (.var 0) (.cons (.bin .add (.var 1) (.int 1)) (.cons (.var 5) .nil))))) c1182_22
abbrev c1182_19 : CSs := .cons (.ifs (.cmp .isN (.var 5) .non) c1182_20 c1182_21) .nil
abbrev c1182_16 : CSs := .cons (.ifs (.cmp .ne (.var 8) (.str "-")) c1182_17 c1182_19) .nil
abbrev c1182_10 : CSs := .cons (.ifs (.cmp .eq (.var 8) (.str "[")) c1182_13 c1182_16) .nil
abbrev c1182_9 : CSs := .cons (.ifs (.or (.cmp .eq (.var 8) (.str "]")) (.cmp .ne (.call 1183 (.cons (.var 0) (.cons (.var 1) .nil))) (.str ""))) c1182_12 .nil) c1182_10
abbrev c1182_8 : CSs := .cons (.ifs (.cmp .eq (.var 8) (.str "")) c1182_11 .nil) c1182_9
abbrev c1182_7 : CSs := .cons (.set 8 (.slc false (.var 0) (.some (.var 1)) (.some (.bin .add (.var 1) (.int 1))))) c1182_8
abbrev c1182_24 : CSs := .cons (.set 7 (.call 18 (.cons (.var 7) .nil))) .nil
abbrev c1182_6 : CSs := .cons (.ret (.tup (.cons (.var 7) (.cons (.cmp .gt (.var 1) (.var 6)) (.cons (.var 1) .nil))))) .nil
abbrev c1182_5 : CSs := .cons (.ifs (.var 2) c1182_24 .nil) c1182_6
abbrev c1182_4 : CSs := .cons (.set 7 (.call 0 (.cons (.var 4) .nil))) c1182_5
abbrev c1182_3 : CSs := .cons (.whil (.bl true) c1182_7) c1182_4
abbrev c1182_2 : CSs := .cons (.set 6 (.var 1)) c1182_3
abbrev c1182_1 : CSs := .cons (.set 5 .non) c1182_2
abbrev c1182 : CSs := .cons (.set 4 (.lst true .nil)) c1182_1
theorem ln1182 (n : Nat) : ∀ ds M Q E, sp1182 n ds M Q E → ds.length = 4 := by
  rintro _ _ _ _ ⟨_, _, _, _, rfl, _⟩; rfl
theorem opD_ne {cs o : List Nat} (ho : opR cs = some o) : tx o ≠ tx [] := by
  rw [opR_eq] at ho
  intro z
  have := tx_inj z
  split at ho
  · cases ho; cases this
  · split at ho
    · cases ho; cases this
    · cases ho
theorem rd1182 {Φ : Nat → SpD} {κ : Nat → D} {n : Nat} (h1183 : Φ 1183 = sp1183) (h1014 : Φ 1014 = sp1014 n) (h1187 : Φ 1187 = sp1187) (h1188 : Φ 1188 = sp1188) (h0 : Φ 0 = sp0) (h18 : Φ 18 = sp18) : RdOk Φ κ c1182 11 (sp1182 n) := by
  rintro ds M Q E hM hd ⟨cs, i0, t, fold, rfl, hs, ht1, ht4, htn, hi0, hQ⟩
  have t0 : Str.ofString "" = tx [] := by decide +kernel
  have ta : Str.ofString "]" = tx [93] := by decide +kernel
  have tb : Str.ofString "[" = tx [91] := by decide +kernel
  have tm : Str.ofString "-" = tx [45] := by decide +kernel
  have hsl := hs.len
  obtain ⟨cl, hcl⟩ : ∃ cl, cl = clR cs fold (4 - t) := ⟨_, rfl⟩
  have hok : ClOk cs cl := by rw [hcl]; exact clR_ok hs _
  rw [← hcl] at hQ
  unfold prR at hQ
  obtain ⟨P0, hP0⟩ : ∃ P0, P0 = prL cs cl (cs.length + 1) i0 [] none := ⟨_, rfl⟩
  rw [← hP0] at hQ
  walk_at "go"
  refine while_at [1, 5, 8, 9, 10] (fun m js M' => ∃ (i : Nat) (ps : List (Int × Int)) (sg : Option Nat) (x8 x9 x10 : Option D), js = [some (.int i), some (oN sg), x8, x9, x10] ∧ M ++ [.lst (ps.map pr)] = M' ∧ cs.length < m + i ∧ i0 ≤ i ∧ i ≤ cs.length ∧ prOk ps ∧ ps.length ≤ 100 * i ∧ (∀ k, sg = some k → k < 128) ∧ P0 = prL cs cl m i ps sg)
    ⟨cs.length + 1, [_, _, _, _, _], rfl, i0, [], none, _, _, _, rfl, rfl, by omega, Nat.le_refl _, hi0, (fun p h => by cases h), Nat.zero_le _, (fun k h => by cases h), hP0⟩ ?_
  rintro m js M' nx ⟨i, ps, sg, x8, x9, x10, rfl, rfl, hm, hii, hil, hp, hpl, hsg, he⟩ hn
  obtain ⟨m, rfl⟩ : ∃ q, m = q + 1 := ⟨m - 1, by omega⟩
  rw [prL_s] at he
  have er : ∀ e, P0 = .error e → ∀ L, E ⟨"PatternError", some [("expected", .str e.2), ("column", .int (e.1 : Int))]⟩ (M ++ L) := fun e h L => by
    rw [h] at hQ
    exact rs0 (r := .error e) hQ rfl L
  walk_at "go"
  rw [cut_one, mk_tx]
  cases hc : cs[i]? with
  | none =>
    rw [hc] at he
    rw [show (none : Option Nat).toList = [] from rfl, t0]
    walk_at "go"
    exact er _ he _
  | some c =>
    have hi := (List.getElem?_eq_some_iff.mp hc).1
    rw [hc] at he
    dsimp only at he
    rw [show (some c).toList = [c] from rfl, t0, if_neg (by rw [tx_nil_ne]; exact fun h => h)]
    walk_at "go"
    rw [ta]
    have fin : (c = 93 ∨ opR (cs.drop i) ≠ none) → ∀ x5 x8 x9 x10, nxt Φ κ c1182_4 (fun x _ M => E x M) (endsD M.length Q) [some (.str (tx cs)), some (.int i), some (.bl fold), some (.int t), some (.ref M.length), x5, some (.int i0), none, x8, x9, x10] (M ++ [.lst (ps.map pr)]) := by
      intro h x5 x8 x9 x10
      rw [if_pos h] at he
      rw [he] at hQ
      have hQ : Q (.tup [csD (if fold = true then foldS (makeS ps) else makeS ps), .bl (decide (i0 < i)), .int i]) M := hQ
      walk_at "go"
      rw [h0]
      refine ⟨_, ps, rfl, by rw [lstOf_R, at_new0]; rfl, by rw [size_eq]; omega, fun L hL hx _ => ?_⟩
      have eL : L = makeS ps := cnS_eq hL hx
      rw [eL]
      have e2 : decide ((i0 : Int) < (i : Int)) = decide (i0 < i) := by rw [decide_eq_decide]; omega
      cases fold with
      | true =>
        have mo := makeS_ok hp
        walk_at "go"
        rw [h18]
        refine ⟨_, rfl, mo.2.1, mo.2.2, fun L hL hx => ?_⟩
        have eL : L = foldS (makeS ps) := cnS_eq hL hx
        rw [eL]
        walk_at "go"
        rw [e2]
        rw [if_pos rfl] at hQ
        refine .val rfl hM ?_ hQ
        have := nr_cs (foldS (makeS ps))
        simp only [noRef, noRefs, Bool.and_self, Bool.and_true]
        exact this
      | false =>
        walk_at "go"
        rw [e2]
        rw [if_neg (by simp)] at hQ
        refine .val rfl hM ?_ hQ
        have := nr_cs (makeS ps)
        simp only [noRef, noRefs, Bool.and_self, Bool.and_true]
        exact this
    by_cases h1 : c = 93
    · rw [if_pos (by rw [h1])]
      refine nxt_of ?_
      walk_at "rd2"
      exact fin (.inl h1) _ _ _ _
    rw [if_neg (by rw [tx_1]; exact h1)]
    walk_at "go"
    rw [h1183]
    refine ⟨cs, i, rfl, hs, ?_⟩
    cases ho : opR (cs.drop i) with
    | some o =>
      rw [show opD' (some o) = .str (tx o) from rfl]
      walk_at "rd2"
      rw [t0, decide_eq_false (opD_ne ho)]
      walk_at "rd2"
      refine nxt_of ?_
      walk_at "rd2"
      exact fin (.inr (by rw [ho]; simp)) _ _ _ _
    | none =>
      rw [if_neg (by rw [ho]; simp [h1])] at he
      rw [show opD' none = .str (tx []) from rfl, ← t0]
      walk_at "go"
      rw [tb]
      by_cases h2 : c = 91
      · subst h2
        rw [if_pos rfl] at he
        rw [if_pos rfl]
        walk_at "go"
        rw [h1014]
        refine ⟨cs, i, t + 1, fold, by rw [show ((t + 1 : Nat) : Int) = (t : Int) + 1 by omega], hs, by omega, by omega, by omega, hc, ?_⟩
        rw [show 5 - (t + 1) = 4 - t by omega, ← hcl]
        cases hr : cl i with
        | error e =>
          rw [hr] at he
          intro L
          rw [Nat.zero_add, List.append_assoc]
          exact er _ he _
        | ok x =>
          obtain ⟨q, j⟩ := x
          rw [hr] at he
          dsimp only at he
          obtain ⟨a1, a2, a3⟩ := hok _ _ _ hr
          have hq := a3.1
          rw [rsQ_ok]
          unfold csD
          walk_at "go"
          refine hn m [_, _, _, _, _] _ rfl ⟨j, ps ++ q, none, some (.str (tx [91])), some (csD q), x10, rfl, by rw [List.map_append], by omega, by omega, a2, prOk_app hp (pr_of a3), by rw [List.length_append]; omega, (fun k h => by cases h), he⟩
      rw [if_neg h2] at he
      rw [if_neg (by rw [tx_1]; exact h2)]
      walk_at "go"
      rw [tm]
      by_cases h3 : c = 45
      · subst h3
        rw [if_neg (by simp)] at he
        rw [decide_eq_true rfl]
        walk_at "go"
        cases sg with
        | none =>
          simp only [oN]
          walk_at "go"
          exact er _ he _
        | some k =>
          have hk := hsg k rfl
          dsimp only at he
          simp only [oN]
          walk_at "go"
          rw [h1188]
          refine ⟨cs, i + 1, k, by rw [show ((i + 1 : Nat) : Int) = (i : Int) + 1 by omega], hs, ?_⟩
          cases hr : enR (cs.drop (i + 1)) k with
          | error e =>
            rw [hr] at he
            intro L
            rw [List.append_assoc]
            exact er _ he _
          | ok x =>
            obtain ⟨l, n'⟩ := x
            rw [hr] at he
            dsimp only at he
            obtain ⟨a1, a2, a3, a4⟩ := enR_ok (drop_lt hs.lt _) hr
            rw [List.length_drop] at a2
            rw [rsQ_ok]
            walk_at "go"
            refine hn m [_, _, _, _, _] _ rfl ⟨i + 1 + n', ps ++ [((k : Int), (l : Int) + 1)], none, some (.str (tx [45])), x9, some (.int l), rfl, by rw [List.map_append]; rfl, by omega, by omega, by omega, prOk_app hp (fun p hp => by
              rw [List.mem_singleton.mp hp]
              exact ⟨by show (0 : Int) ≤ k; omega, by show (l : Int) + 1 ≤ 128; omega⟩), by rw [List.length_append, List.length_singleton]; omega, (fun k h => by cases h), he⟩
      · rw [if_pos h3] at he
        rw [decide_eq_false (by rw [tx_1]; exact h3)]
        walk_at "go"
        rw [h1187]
        refine ⟨cs, i, rfl, hs, hi, ?_⟩
        cases hr : itR (cs.drop i) with
        | error e =>
          rw [hr] at he
          intro L
          rw [List.append_assoc]
          exact er _ he _
        | ok x =>
          obtain ⟨q, s, n'⟩ := x
          rw [hr] at he
          dsimp only at he
          obtain ⟨a1, a2, a3, a4, a5⟩ := itR_ok (drop_lt hs.lt _) hr
          rw [List.length_drop] at a2
          rw [rsQ_ok]
          simp only [itD]
          unfold csD
          walk_at "go"
          refine hn m [_, _, _, _, _] _ rfl ⟨i + n', ps ++ q, s, some (.str (tx [c])), some (csD q), x10, rfl, by rw [List.map_append], by omega, by omega, by omega, prOk_app hp a3, by rw [List.length_append]; omega, a5, he⟩
def c11 : CSs := .cons (.ret (.call 9 (.cons (.var 0) (.cons (.call 10 (.cons (.var 1) .nil)) .nil)))) .nil
def sp11 : SpD := fun ds M Q _ => ∃ A B : List (Int × Int), ds = [.tup (A.map pr), .tup (B.map pr)] ∧ Canon A ∧ Canon B ∧ (∀ x, inP A x = true → 0 ≤ x ∧ x < 128) ∧ (∀ x, inP B x = true → 0 ≤ x ∧ x < 128) ∧ ∀ L, Canon L → (∀ x : Int, inP L x = true ↔ inP A x = true ∧ ¬ inP B x = true) → Q (.tup (L.map pr)) M
theorem ln11 : ∀ ds M Q E, sp11 ds M Q E → ds.length = 2 := by
  rintro _ _ _ _ ⟨_, _, rfl, _⟩; rfl
theorem rd11 {Φ : Nat → SpD} {κ : Nat → D} (h9 : Φ 9 = sp9) (h10 : Φ 10 = sp10) : RdOk Φ κ c11 2 sp11 := by
  rintro ds M Q E hM hd ⟨A, B, rfl, hA, hB, hA2, hB2, hQ⟩
  rw [c11]; walk_at "rd"
  rw [h10]
  refine ⟨B, rfl, hB, hB2, fun C hC hC2 => ?_⟩
  walk_at "rd"
  rw [h9]
  have a1 := canon_64 hA hA2
  have a2 := canon_64 hC (fun x hx => ((hC2 x).mp hx).1)
  refine ⟨A, C, rfl, ?_, fun L hL hx => .keep (hQ L hL fun x => ?_)⟩
  · have : A.length * C.length ≤ 64 * 64 := Nat.mul_le_mul a1 a2
    rw [size_eq]; omega
  · rw [hx, hC2]
    constructor
    · rintro ⟨a, b⟩; exact ⟨a, b.2⟩
    · rintro ⟨a, b⟩; exact ⟨a, hA2 x a, b⟩
abbrev c1014_8 : CSs := .cons (.raiseI "PatternError" ["column", "expected"] (.cons (.bin .add (.var 1) (.int 1)) (.cons (.str "less nesting") .nil))) .nil
abbrev c1014_9 : CSs := .cons (.raiseI "PatternError" ["column", "expected"] (.cons (.bin .add (.var 8) (.int 1)) (.cons (.str "something ahead of the operator") .nil))) .nil
abbrev c1014_14 : CSs := .cons (.raiseI "PatternError" ["column", "expected"] (.cons (.bin .add (.var 8) (.int 1)) (.cons (.str "something behind the operator") .nil))) .nil
abbrev c1014_15 : CSs := .cons (.set 6 (.call 9 (.cons (.var 6) (.cons (.var 9) .nil)))) .nil
abbrev c1014_16 : CSs := .cons (.set 6 (.call 11 (.cons (.var 6) (.cons (.var 9) .nil)))) .nil
abbrev c1014_13 : CSs := .cons (.set 5 (.call 1183 (.cons (.var 0) (.cons (.var 8) .nil)))) .nil
abbrev c1014_12 : CSs := .cons (.ifs (.cmp .eq (.var 5) (.str "&&")) c1014_15 c1014_16) c1014_13
abbrev c1014_11 : CSs := .cons (.ifs (.not (.var 7)) c1014_14 .nil) c1014_12
abbrev c1014_10 : CSs := .cons (.setT [9, 7, 8] (.call 1182 (.cons (.var 0) (.cons (.bin .add (.var 8) (.int 2)) (.cons (.var 2) (.cons (.var 3) .nil)))))) c1014_11
abbrev c1014_17 : CSs := .cons (.set 6 (.call 10 (.cons (.var 6) .nil))) .nil
abbrev c1014_7 : CSs := .cons (.ret (.tup (.cons (.var 6) (.cons (.bin .add (.var 8) (.int 1)) .nil)))) .nil
abbrev c1014_6 : CSs := .cons (.ifs (.var 4) c1014_17 .nil) c1014_7
abbrev c1014_5 : CSs := .cons (.whil (.cmp .ne (.var 5) (.str "")) c1014_10) c1014_6
abbrev c1014_4 : CSs := .cons (.ifs (.and (.cmp .ne (.var 5) (.str "")) (.not (.var 7))) c1014_9 .nil) c1014_5
abbrev c1014_3 : CSs := .cons (.set 5 (.call 1183 (.cons (.var 0) (.cons (.var 8) .nil)))) c1014_4
abbrev c1014_2 : CSs := .cons (.setT [6, 7, 8] (.call 1182 (.cons (.var 0) (.cons (.bin .add (.bin .add (.var 1) (.int 1)) (.blt .int (.cons (.var 4) .nil))) (.cons (.var 2) (.cons (.var 3) .nil)))))) c1014_3
abbrev c1014_1 : CSs := .cons (.set 4 (.cmp .eq (.slc false (.var 0) (.some (.bin .add (.var 1) (.int 1))) (.some (.bin .add (.var 1) (.int 2)))) (.str "^"))) c1014_2
abbrev c1014 : CSs := .cons (.ifs (.cmp .gt (.var 3) (.glob 14)) c1014_8 .nil) c1014_1
theorem ln1014 (n : Nat) : ∀ ds M Q E, sp1014 n ds M Q E → ds.length = 4 := by
  rintro _ _ _ _ ⟨_, _, _, _, rfl, _⟩; rfl
theorem z1014 : ∀ ds M Q E, sp1014 0 ds M Q E → False := by
  rintro _ _ _ _ ⟨_, _, _, _, _, _, _, _, h, _⟩; omega
theorem opL_s {cs : List Nat} {pr : Nat → Rs (List (Int × Int) × Bool × Nat)} {f i : Nat} {A : List (Int × Int)} : opL cs pr (f + 1) i A = match opR (cs.drop i) with
    | none => .ok (A, i)
    | some o => match pr (i + 2) with
      | .error e => .error e
      | .ok (B, fl, j) => if fl = true then opL cs pr f j (if o = [38, 38] then comS A B else witS A B) else .error (j + 1, "something behind the operator") := rfl
theorem opR_len {cs : List Nat} {i : Nat} {o : List Nat} (h : opR (cs.drop i) = some o) : i + 2 ≤ cs.length := by
  have : 2 ≤ (cs.drop i).length := by
    unfold opR at h
    split at h
    · next e => rw [e]; simp
    · next e => rw [e]; simp
    · cases h
  rw [List.length_drop] at this; omega
theorem opR_26 {r o : List Nat} (h : opR r = some o) : o = [38, 38] ∨ o = [45, 45] := by
  rw [opR_eq] at h
  split at h
  · cases h; exact .inl rfl
  · split at h
    · cases h; exact .inr rfl
    · cases h
theorem rd1014 {Φ : Nat → SpD} {κ : Nat → D} {n : Nat} (h1182 : Φ 1182 = sp1182 n) (h1183 : Φ 1183 = sp1183) (h9 : Φ 9 = sp9) (h11 : Φ 11 = sp11) (h10 : Φ 10 = sp10) (hk14 : κ 14 = k14) : RdOk Φ κ c1014 10 (sp1014 (n + 1)) := by
  rintro ds M Q E hM hd ⟨cs, i, t, fold, rfl, hs, ht1, ht5, htn, hci, hQ⟩
  have t0 : Str.ofString "" = tx [] := by decide +kernel
  have tc : Str.ofString "^" = tx [94] := by decide +kernel
  have tand : Str.ofString "&&" = tx [38, 38] := by decide +kernel
  have e14 : κ 14 = .int 4 := hk14
  have hsl := hs.len
  have hi := (List.getElem?_eq_some_iff.mp hci).1
  walk_at "go"
  rw [e14]
  walk_at "go"
  refine iteI (fun h => ?_) fun h => ?_
  · have : t = 5 := by omega
    subst this
    walk_at "go"
    have := rs0 hQ rfl []
    rw [List.append_nil] at this
    exact this
  have h5 : 5 - t = (4 - t) + 1 := by omega
  rw [h5] at hQ
  unfold clR at hQ
  obtain ⟨pr, hpr⟩ : ∃ pr, pr = prR cs (clR cs fold (4 - t)) fold := ⟨_, rfl⟩
  rw [← hpr] at hQ
  have hpo : ∀ i A b j, pr i = .ok (A, b, j) → i ≤ j ∧ j < cs.length ∧ setOk A := by
    intro i A b j h
    rw [hpr] at h
    obtain ⟨x, y, z, _⟩ := prR_ok hs (clR_ok hs _) h
    exact ⟨x, y, z⟩
  obtain ⟨inv, hinv⟩ : ∃ b : Bool, b = decide (cs[i + 1]? = some 94) := ⟨_, rfl⟩
  have hdi : decide (tx (cs[i + 1]?).toList = Str.ofString "^") = inv := by
    rw [hinv, tc, decide_eq_decide]
    cases cs[i + 1]? with
    | none =>
      constructor
      · intro h; cases tx_inj h
      · intro h; cases h
    | some c =>
      rw [show (some c).toList = [c] from rfl, tx_1]
      constructor
      · intro h; rw [h]
      · intro h; exact Option.some.inj h
  obtain ⟨st, hst⟩ : ∃ st, st = i + 1 + (if cs[i + 1]? = some 94 then 1 else 0) := ⟨_, rfl⟩
  have hst2 : ((i : Int) + 1 + if tx (cs[i + 1]?).toList = Str.ofString "^" then 1 else 0) = (st : Int) := by
    by_cases h : cs[i + 1]? = some 94
    · rw [if_pos (by rw [h]; exact tc.symm), hst, if_pos h]; omega
    · rw [if_neg (fun z => by rw [decide_eq_true z] at hdi; rw [← hdi] at hinv; exact h (of_decide_eq_true hinv.symm)), hst, if_neg h]; omega
  have hsl2 : st ≤ cs.length := by
    rw [hst]
    split
    · next h => have := (List.getElem?_eq_some_iff.mp h).1; omega
    · omega
  rw [← hst] at hQ
  obtain ⟨R0, hR⟩ : ∃ R0, R0 = (match pr st with
    | .error e => (.error e : Rs (List (Int × Int) × Nat))
    | .ok (A, fl, j) => if opR (cs.drop j) ≠ none ∧ fl = false then .error (j + 1, "something ahead of the operator")
      else match opL cs pr (cs.length + 1) j A with
        | .error e => .error e
        | .ok (B, k) => .ok (if cs[i + 1]? = some 94 then cplS B else B, k + 1)) := ⟨_, rfl⟩
  have hQ : rsQ 0 R0 E M fun x => Q (.tup [csD x.1, .int x.2]) M := by rw [hR]; exact hQ
  have er : ∀ e, R0 = .error e → ∀ L, E ⟨"PatternError", some [("expected", .str e.2), ("column", .int (e.1 : Int))]⟩ (M ++ L) := fun e h L => rs0 hQ h L
  have er' : ∀ e, R0 = .error e → E ⟨"PatternError", some [("expected", .str e.2), ("column", .int (e.1 : Int))]⟩ M := fun e h => er0 (er e h)
  walk_at "go"
  rw [cut_one1, mk_tx, hdi, hst2, h1182]
  refine ⟨cs, st, t, fold, rfl, hs, ht1, by omega, by omega, hsl2, ?_⟩
  rw [← hpr]
  cases hp : pr st with
  | error e =>
    rw [hp] at hR
    intro L
    rw [Nat.zero_add]
    exact er _ hR L
  | ok x =>
    obtain ⟨A, fl, j⟩ := x
    rw [hp] at hR
    dsimp only at hR
    obtain ⟨a1, a2, a3⟩ := hpo _ _ _ _ hp
    rw [rsQ_ok]
    walk_at "go"
    rw [h1183]
    refine ⟨cs, j, rfl, hs, ?_⟩
    have rest : ¬ (opR (cs.drop j) ≠ none ∧ fl = false) → nxt Φ κ c1014_5 (fun x _ M => E x M) (endsD M.length Q) [some (.str (tx cs)), some (.int i), some (.bl fold), some (.int t), some (.bl inv), some (opD' (opR (cs.drop j))), some (csD A), some (.bl fl), some (.int j), none] M := by
      intro h0
      rw [if_neg h0] at hR
      obtain ⟨R1, hR1⟩ : ∃ R1, R1 = opL cs pr (cs.length + 1) j A := ⟨_, rfl⟩
      rw [← hR1] at hR
      walk_at "go"
      refine while_at [5, 6, 7, 8, 9] (fun m js M' => ∃ (i : Nat) (A : List (Int × Int)) (fl : Bool) (x9 : Option D), js = [some (opD' (opR (cs.drop i))), some (csD A), some (.bl fl), some (.int i), x9] ∧ M = M' ∧ cs.length < m + i ∧ i < cs.length ∧ setOk A ∧ R1 = opL cs pr m i A)
        ⟨cs.length + 1, [_, _, _, _, _], rfl, j, A, fl, _, rfl, rfl, by omega, a2, a3, hR1⟩ ?_
      rintro m js M' nx ⟨j, A, fl, x9, rfl, rfl, hm, hj, hA, he⟩ hn
      obtain ⟨m, rfl⟩ : ∃ q, m = q + 1 := ⟨m - 1, by omega⟩
      rw [opL_s] at he
      cases ho : opR (cs.drop j) with
      | none =>
        rw [ho] at he
        have he : R1 = .ok (A, j) := he
        rw [he] at hR
        have hQ : Q (.tup [csD (if cs[i + 1]? = some 94 then cplS A else A), .int ((j + 1 : Nat) : Int)]) M := by rw [hR] at hQ; exact hQ
        rw [show opD' none = .str (Str.ofString "") by rw [t0]; rfl]
        walk_at "go"
        by_cases h94 : cs[i + 1]? = some 94
        · rw [hinv, decide_eq_true h94]
          rw [if_pos h94] at hQ
          walk_at "go"
          rw [h10]
          refine ⟨A, rfl, hA.2.1, hA.2.2, fun L hL hx => ?_⟩
          have eL : L = cplS A := cnS_eq hL hx
          rw [eL]
          walk_at "go"
          exact .keep hQ
        · rw [hinv, decide_eq_false h94]
          rw [if_neg h94] at hQ
          walk_at "go"
          exact .keep hQ
      | some o =>
        rw [ho] at he
        dsimp only at he
        have hj2 := opR_len ho
        rw [show opD' (some o) = .str (tx o) from rfl]
        walk_at "go"
        rw [t0, decide_eq_false (opD_ne ho)]
        walk_at "go"
        rw [h1182]
        refine ⟨cs, j + 2, t, fold, by rw [show ((j + 2 : Nat) : Int) = (j : Int) + 2 by omega], hs, ht1, by omega, by omega, hj2, ?_⟩
        rw [← hpr]
        cases hp2 : pr (j + 2) with
        | error e =>
          rw [hp2] at he
          have he : R1 = .error e := he
          rw [he] at hR
          intro L
          rw [Nat.zero_add]
          exact er _ hR L
        | ok x =>
          obtain ⟨B, fl2, k⟩ := x
          rw [hp2] at he
          dsimp only at he
          obtain ⟨b1, b2, b3⟩ := hpo _ _ _ _ hp2
          rw [rsQ_ok]
          cases fl2 with
          | false =>
            rw [if_neg (by simp)] at he
            rw [he] at hR
            walk_at "go"
            exact er' _ hR
          | true =>
            rw [if_pos rfl] at he
            walk_at "go"
            rw [tand]
            have nxt1 : ∀ C, setOk C → R1 = opL cs pr m k C → nxt Φ κ c1014_13 (fun x _ M => E x M) ⟨nx, (endsD M.length Q).rt, nxt Φ κ c1014_6 (fun x _ M => E x M) (endsD M.length Q), nx⟩ [some (.str (tx cs)), some (.int i), some (.bl fold), some (.int t), some (.bl inv), some (.str (tx o)), some (csD C), some (.bl true), some (.int k), some (csD B)] M := by
              intro C hC hE
              walk_at "go"
              rw [h1183]
              refine ⟨cs, k, rfl, hs, ?_⟩
              walk_at "go"
              exact hn m [_, _, _, _, _] _ rfl ⟨k, C, true, some (csD B), rfl, rfl, by omega, b2, hC, hE⟩
            have hlA := hA.1
            have hlB := b3.1
            rcases opR_26 ho with rfl | rfl
            · rw [if_pos rfl] at he
              rw [if_pos rfl]
              walk_at "go"
              rw [h9]
              have hmul : A.length * B.length ≤ 100 * 100 := Nat.mul_le_mul hlA hlB
              refine ⟨A, B, rfl, by rw [size_eq]; omega, fun L hL hx => ?_⟩
              have eL : L = comS A B := cnS_eq hL hx
              rw [eL]
              refine nxt_of ?_
              walk_at "rd2"
              exact nxt1 _ (comS_ok hA) he
            · rw [if_neg (by decide)] at he
              rw [if_neg (fun z => by cases tx_inj z)]
              walk_at "go"
              rw [h11]
              refine ⟨A, B, rfl, hA.2.1, b3.2.1, hA.2.2, b3.2.2, fun L hL hx => ?_⟩
              have eL : L = witS A B := cnS_eq hL hx
              rw [eL]
              refine nxt_of ?_
              walk_at "rd2"
              exact nxt1 _ (witS_ok hA) he
    walk_at "go"
    cases ho : opR (cs.drop j) with
    | none =>
      rw [ho] at rest
      rw [show opD' none = .str (Str.ofString "") by rw [t0]; rfl] at rest ⊢
      walk_at "rd2"
      exact rest (fun z => z.1 rfl)
    | some o =>
      rw [ho] at rest
      rw [show opD' (some o) = .str (tx o) from rfl] at rest ⊢
      walk_at "rd2"
      rw [t0, decide_eq_false (opD_ne ho)]
      walk_at "rd2"
      cases fl with
      | true =>
        walk_at "rd2"
        exact rest (fun z => by cases z.2)
      | false =>
        rw [if_pos ⟨by rw [ho]; simp, rfl⟩] at hR
        walk_at "go"
        exact er' _ hR
abbrev c1195_8 : CSs := .cons (.ret (.tup (.cons (.tup (.cons (.str "set") (.cons (.glob 6) .nil))) (.cons (.bin .add (.var 1) (.int 1)) .nil)))) .nil
abbrev c1195_7 : CSs := .cons (.ret (.tup (.cons (.tup (.cons (.str "set") (.cons (.glob 1) .nil))) (.cons (.bin .add (.var 1) (.int 1)) .nil)))) .nil
abbrev c1195_6 : CSs := .cons (.ifs (.cmp .inn (.str "s") (.var 2)) c1195_8 .nil) c1195_7
abbrev c1195_9 : CSs := .cons (.ret (.tup (.cons (.call 95 (.cons (.var 3) (.cons (.var 2) .nil))) (.cons (.bin .add (.var 1) (.int 1)) .nil)))) .nil
abbrev c1195_11 : CSs := .cons (.ret (.tup (.cons (.tup (.cons (.str "set") (.cons (.var 4) .nil))) (.cons (.var 5) .nil)))) .nil
abbrev c1195_10 : CSs := .cons (.setT [4, 5] (.call 1014 (.cons (.var 0) (.cons (.var 1) (.cons (.cmp .inn (.str "i") (.var 2)) (.cons (.int 1) .nil)))))) c1195_11
abbrev c1195_15 : CSs := .cons (.ret (.tup (.cons (.call 98 (.cons (.var 7) (.cons (.var 2) .nil))) (.cons (.var 5) .nil)))) .nil
abbrev c1195_14 : CSs := .cons (.ret (.tup (.cons (.tup (.cons (.var 6) (.cons (.var 7) .nil))) (.cons (.var 5) .nil)))) .nil
abbrev c1195_13 : CSs := .cons (.ifs (.cmp .eq (.var 6) (.str "code")) c1195_15 .nil) c1195_14
abbrev c1195_12 : CSs := .cons (.setT [6, 7, 5] (.call 1015 (.cons (.var 0) (.cons (.var 1) .nil)))) c1195_13
abbrev c1195_5 : CSs := .cons (.ret (.tup (.cons (.call 98 (.cons (.blt .ord (.cons (.var 3) .nil)) (.cons (.var 2) .nil))) (.cons (.bin .add (.var 1) (.int 1)) .nil)))) .nil
abbrev c1195_4 : CSs := .cons (.ifs (.cmp .eq (.var 3) (.str "\\")) c1195_12 .nil) c1195_5
abbrev c1195_3 : CSs := .cons (.ifs (.cmp .eq (.var 3) (.str "[")) c1195_10 .nil) c1195_4
abbrev c1195_2 : CSs := .cons (.ifs (.or (.cmp .eq (.var 3) (.str "^")) (.cmp .eq (.var 3) (.str "$"))) c1195_9 .nil) c1195_3
abbrev c1195_1 : CSs := .cons (.ifs (.cmp .eq (.var 3) (.str ".")) c1195_6 .nil) c1195_2
abbrev c1195 : CSs := .cons (.set 3 (.idx (.var 0) (.var 1))) c1195_1
def sp1195 : SpD := fun ds M Q E => ∃ (cs : List Nat) (i : Nat) (f : Fl), ds = [.str (tx cs), .int i, .str (tx f.t)] ∧ SrcOk cs ∧ i < cs.length ∧ rsQ 0 (elR cs f i) E M fun x => Q (.tup [ptD x.1, .int x.2]) M
theorem ln1195 : ∀ ds M Q E, sp1195 ds M Q E → ds.length = 3 := by
  rintro _ _ _ _ ⟨_, _, _, rfl, _⟩; rfl
theorem rd1195 {Φ : Nat → SpD} {κ : Nat → D} (h95 : Φ 95 = sp95) (h1014 : Φ 1014 = sp1014 (6)) (h1015 : Φ 1015 = sp1015) (h98 : Φ 98 = sp98) (hk6 : κ 6 = k6) (hk1 : κ 1 = k1) : RdOk Φ κ c1195 8 (sp1195) := by
  rintro ds M Q E hM hd ⟨cs, i, f, rfl, hs, hi, hQ⟩
  have td : Str.ofString "." = tx [46] := by decide +kernel
  have tca : Str.ofString "^" = tx [94] := by decide +kernel
  have tdo : Str.ofString "$" = tx [36] := by decide +kernel
  have tbr : Str.ofString "[" = tx [91] := by decide +kernel
  have tbs : Str.ofString "\\" = tx [92] := by decide +kernel
  have ti : Str.ofString "i" = tx [105] := by decide +kernel
  have ts : Str.ofString "s" = tx [115] := by decide +kernel
  have e6 : κ 6 = csD sEv := hk6
  have e1 : κ 1 = csD sLn := hk1
  have hsl := hs.len
  obtain ⟨c, hc⟩ : ∃ c, cs[i]? = some c := ⟨_, List.getElem?_eq_getElem hi⟩
  have hc8 := hs.lt c (List.mem_of_getElem? hc)
  unfold elR at hQ
  rw [hc] at hQ
  dsimp only at hQ
  walk_at "go"
  refine ix_txn (by rw [size_eq]; omega) hc ?_
  walk_at "go"
  rw [td]
  by_cases h1 : c = 46
  · rw [if_pos h1] at hQ
    rw [if_pos (by rw [h1])]
    walk_at "go"
    rw [ts, in_txl, fl_s]
    have hQ : Q (.tup [.tup [.str "set", csD (if f.s = true then sEv else sLn)], .int ((i + 1 : Nat) : Int)]) M := hQ
    cases hf : f.s with
    | true => rw [hf, if_pos rfl] at hQ; walk_at "go"; rw [e6]; exact .keep hQ
    | false => rw [hf, if_neg (by simp)] at hQ; walk_at "go"; rw [e1]; exact .keep hQ
  rw [if_neg h1] at hQ
  rw [if_neg (by rw [tx_1]; exact h1)]
  walk_at "go"
  rw [tca]
  have cd : (c = 94 ∨ c = 36) → ∀ K : EndsD, K.rt = (endsD M.length Q).rt → nxt Φ κ c1195_9 (fun x _ M => E x M) K [some (.str (tx cs)), some (.int i), some (.str (tx f.t)), some (.str (tx [c])), none, none, none, none] M := by
    intro h K hK
    rw [if_pos h] at hQ
    walk_at "go"
    rw [h95]
    refine ⟨c, f, rfl, h, ?_⟩
    walk_at "go"
    rw [hK]
    exact .keep hQ
  by_cases h2 : c = 94
  · rw [if_pos (by rw [h2])]
    exact cd (.inl h2) _ rfl
  rw [if_neg (by rw [tx_1]; exact h2), tdo]
  by_cases h3 : c = 36
  · rw [if_pos (by rw [h3])]
    exact cd (.inr h3) _ rfl
  rw [if_neg (by simp [h2, h3])] at hQ
  rw [if_neg (by rw [tx_1]; exact h3)]
  walk_at "go"
  rw [tbr]
  by_cases h4 : c = 91
  · subst h4
    rw [if_pos rfl] at hQ
    rw [if_pos rfl]
    walk_at "go"
    rw [ti, in_txl, fl_i, h1014]
    refine ⟨cs, i, 1, f.i, rfl, hs, by decide, by decide, by decide, hc, ?_⟩
    rw [show 5 - 1 = 4 from rfl]
    cases hr : clR cs f.i 4 i with
    | error e => rw [hr] at hQ; exact hQ
    | ok x =>
      obtain ⟨A, j⟩ := x
      rw [hr] at hQ
      rw [rsQ_ok]
      walk_at "go"
      exact .keep hQ
  rw [if_neg h4] at hQ
  rw [if_neg (by rw [tx_1]; exact h4)]
  walk_at "go"
  rw [tbs]
  by_cases h5 : c = 92
  · rw [if_pos h5] at hQ
    rw [if_pos (by rw [h5])]
    walk_at "go"
    rw [h1015]
    refine ⟨cs, i, rfl, hs, ?_⟩
    cases hr : escR (cs.drop i) with
    | error e =>
      rw [hr] at hQ
      intro L
      exact rs0 hQ rfl L
    | ok x =>
      obtain ⟨x, n⟩ := x
      rw [hr] at hQ
      rw [rsQ_ok]
      have hx := (escR_ok (drop_lt hs.lt i) hr).2.2
      cases x with
      | code k =>
        have hk : k < 128 := hx
        simp only [Esc.d]
        walk_at "go"
        rw [h98]
        refine ⟨k, f, rfl, hk, ?_⟩
        walk_at "go"
        exact .keep hQ
      | anc s =>
        simp only [Esc.d]
        walk_at "go"
        exact .keep hQ
      | set ps =>
        simp only [Esc.d]
        walk_at "go"
        exact .keep hQ
  rw [if_neg h5] at hQ
  rw [if_neg (by rw [tx_1]; exact h5)]
  walk_at "go"
  rw [show ((#[c].getD 0 0 : Nat) : Int) = (c : Int) from rfl, h98]
  refine ⟨c, f, rfl, hc8, ?_⟩
  walk_at "go"
  exact .keep hQ
abbrev c1057_8 : CSs := .cons (.raiseI "PatternError" ["column", "expected"] (.cons (.bin .add (.var 1) (.int 1)) (.cons (.str "a backslash ahead of this character") .nil))) .nil
abbrev c1057_9 : CSs := .cons (.ret (.call 1193 (.cons (.var 0) (.cons (.var 1) .nil)))) .nil
abbrev c1057_10 : CSs := .cons (.ret (.call 1194 (.cons (.var 0) (.cons (.var 1) .nil)))) .nil
abbrev c1057_11 : CSs := .cons (.ret (.tup (.cons (.tup (.cons (.str "close") (.cons (.bin .add (.var 1) (.int 1)) .nil))) (.cons (.bin .add (.var 1) (.int 1)) .nil)))) .nil
abbrev c1057_12 : CSs := .cons (.ret (.tup (.cons (.tup (.cons (.str "bar") (.cons (.bin .add (.var 1) (.int 1)) .nil))) (.cons (.bin .add (.var 1) (.int 1)) .nil)))) .nil
abbrev c1057_7 : CSs := .cons (.ret (.tup (.cons (.tup (.cons (.str "single") (.cons (.bin .add (.var 1) (.int 1)) (.cons (.var 4) .nil)))) (.cons (.var 5) .nil)))) .nil
abbrev c1057_6 : CSs := .cons (.setT [4, 5] (.call 1195 (.cons (.var 0) (.cons (.var 1) (.cons (.var 2) .nil))))) c1057_7
abbrev c1057_5 : CSs := .cons (.ifs (.cmp .eq (.var 3) (.str "|")) c1057_12 .nil) c1057_6
abbrev c1057_4 : CSs := .cons (.ifs (.cmp .eq (.var 3) (.str ")")) c1057_11 .nil) c1057_5
abbrev c1057_3 : CSs := .cons (.ifs (.cmp .inn (.var 3) (.str "*+?{")) c1057_10 .nil) c1057_4
abbrev c1057_2 : CSs := .cons (.ifs (.cmp .eq (.var 3) (.str "(")) c1057_9 .nil) c1057_3
abbrev c1057_1 : CSs := .cons (.ifs (.or (.cmp .eq (.var 3) (.str "]")) (.cmp .eq (.var 3) (.str "}"))) c1057_8 .nil) c1057_2
abbrev c1057 : CSs := .cons (.set 3 (.idx (.var 0) (.var 1))) c1057_1
def sp1057 : SpD := fun ds M Q E => ∃ (cs : List Nat) (i : Nat) (f : Fl), ds = [.str (tx cs), .int i, .str (tx f.t)] ∧ SrcOk cs ∧ i < cs.length ∧ rsQ 0 (tkR cs f i) E M fun x => Q (.tup [x.1.d (i + 1), .int x.2]) M
theorem ln1057 : ∀ ds M Q E, sp1057 ds M Q E → ds.length = 3 := by
  rintro _ _ _ _ ⟨_, _, _, rfl, _⟩; rfl
theorem rd1057 {Φ : Nat → SpD} {κ : Nat → D} (h1193 : Φ 1193 = sp1193) (h1194 : Φ 1194 = sp1194) (h1195 : Φ 1195 = sp1195) : RdOk Φ κ c1057 6 (sp1057) := by
  rintro ds M Q E hM hd ⟨cs, i, f, rfl, hs, hi, hQ⟩
  have t1 : Str.ofString "]" = tx [93] := by decide +kernel
  have t2 : Str.ofString "}" = tx [125] := by decide +kernel
  have t3 : Str.ofString "(" = tx [40] := by decide +kernel
  have t4 : Str.ofString "*+?{" = tx [42, 43, 63, 123] := by decide +kernel
  have t5 : Str.ofString ")" = tx [41] := by decide +kernel
  have t6 : Str.ofString "|" = tx [124] := by decide +kernel
  have hsl := hs.len
  obtain ⟨c, hc⟩ : ∃ c, cs[i]? = some c := ⟨_, List.getElem?_eq_getElem hi⟩
  unfold tkR at hQ
  rw [hc] at hQ
  dsimp only at hQ
  walk_at "go"
  refine ix_txn (by rw [size_eq]; omega) hc ?_
  walk_at "go"
  rw [t1]
  have bad : (c = 93 ∨ c = 125) → ∀ K : EndsD, nxt Φ κ c1057_8 (fun x _ M => E x M) K [some (.str (tx cs)), some (.int i), some (.str (tx f.t)), some (.str (tx [c])), none, none] M := by
    intro h K
    rw [if_pos h] at hQ
    walk_at "go"
    have := rs0 hQ rfl []
    rw [List.append_nil] at this
    exact this
  by_cases h1 : c = 93
  · rw [if_pos (by rw [h1])]
    exact bad (.inl h1) _
  rw [if_neg (by rw [tx_1]; exact h1), t2]
  by_cases h2 : c = 125
  · rw [if_pos (by rw [h2])]
    exact bad (.inr h2) _
  rw [if_neg (by simp [h1, h2])] at hQ
  rw [if_neg (by rw [tx_1]; exact h2)]
  walk_at "go"
  rw [t3]
  by_cases h3 : c = 40
  · rw [if_pos h3] at hQ
    rw [if_pos (by rw [h3])]
    walk_at "go"
    rw [h1193]
    refine ⟨cs, i, rfl, hs, hi, ?_⟩
    cases hr : bkR cs i with
    | error e => rw [hr] at hQ; exact hQ
    | ok x =>
      rw [hr] at hQ
      rw [rsQ_ok]
      exact .keep hQ
  rw [if_neg h3] at hQ
  rw [if_neg (by rw [tx_1]; exact h3)]
  walk_at "go"
  rw [t4, in_txl]
  by_cases h4 : c ∈ [42, 43, 63, 123]
  · rw [if_pos h4] at hQ
    rw [decide_eq_true h4]
    walk_at "go"
    rw [h1194]
    refine ⟨cs, i, rfl, hs, hi, ?_⟩
    cases hr : rpR cs i with
    | error e => rw [hr] at hQ; exact hQ
    | ok x =>
      rw [hr] at hQ
      rw [rsQ_ok]
      exact .keep hQ
  rw [if_neg h4] at hQ
  rw [decide_eq_false h4]
  walk_at "go"
  rw [t5]
  by_cases h5 : c = 41
  · rw [if_pos h5] at hQ
    rw [if_pos (by rw [h5])]
    walk_at "go"
    exact .keep hQ
  rw [if_neg h5] at hQ
  rw [if_neg (by rw [tx_1]; exact h5)]
  walk_at "go"
  rw [t6]
  by_cases h6 : c = 124
  · rw [if_pos h6] at hQ
    rw [if_pos (by rw [h6])]
    walk_at "go"
    exact .keep hQ
  rw [if_neg h6] at hQ
  rw [if_neg (by rw [tx_1]; exact h6)]
  walk_at "go"
  rw [h1195]
  refine ⟨cs, i, f, rfl, hs, hi, ?_⟩
  cases hr : elR cs f i with
  | error e => rw [hr] at hQ; exact hQ
  | ok x =>
    obtain ⟨t, j⟩ := x
    rw [hr] at hQ
    rw [rsQ_ok]
    walk_at "go"
    exact .keep hQ
abbrev c1190_5 : CSs := .cons (.expr (.mth .append (.var 2) (.cons (.var 4) .nil))) .nil
abbrev c1190_4 : CSs := .cons (.setT [4, 3] (.call 1057 (.cons (.var 0) (.cons (.var 3) (.cons (.var 1) .nil))))) c1190_5
abbrev c1190_3 : CSs := .cons (.ret (.var 2)) .nil
abbrev c1190_2 : CSs := .cons (.whil (.cmp .lt (.var 3) (.blt .len (.cons (.var 0) .nil))) c1190_4) c1190_3
abbrev c1190_1 : CSs := .cons (.set 3 (.int 0)) c1190_2
abbrev c1190 : CSs := .cons (.set 2 (.lst true .nil)) c1190_1
def sp1190 : SpD := fun ds M Q E => ∃ (cs : List Nat) (f : Fl), ds = [.str (tx cs), .str (tx f.t)] ∧ SrcOk cs ∧ rsQ 0 (tksR cs f (cs.length + 1) 0 []) E M fun l => Q (.lst (l.map tkE)) M
theorem ln1190 : ∀ ds M Q E, sp1190 ds M Q E → ds.length = 2 := by
  rintro _ _ _ _ ⟨_, _, rfl, _⟩; rfl
theorem rd1190 {Φ : Nat → SpD} {κ : Nat → D} (h1057 : Φ 1057 = sp1057) : RdOk Φ κ c1190 5 (sp1190) := by
  rintro ds M Q E hM hd ⟨cs, f, rfl, hs, hQ⟩
  have hsl := hs.len
  obtain ⟨P0, hP0⟩ : ∃ P0, P0 = tksR cs f (cs.length + 1) 0 [] := ⟨_, rfl⟩
  rw [← hP0] at hQ
  walk_at "go"
  refine while_at [3, 4] (fun m js M' => ∃ (i : Nat) (l : List (Nat × Tk)) (x4 : Option D), js = [some (.int i), x4] ∧ M ++ [.lst (l.map tkE)] = M' ∧ cs.length < m + i ∧ i ≤ cs.length ∧ l.length ≤ i ∧ P0 = tksR cs f m i l)
    ⟨cs.length + 1, [_, _], rfl, 0, [], _, rfl, rfl, by omega, Nat.zero_le _, Nat.zero_le _, hP0⟩ ?_
  rintro m js M' nx ⟨i, l, x4, rfl, rfl, hm, hil, hl, he⟩ hn
  obtain ⟨m, rfl⟩ : ∃ q, m = q + 1 := ⟨m - 1, by omega⟩
  rw [tksR_s] at he
  walk_at "go"
  rw [tx_len]
  refine iteI (fun hlt => ?_) fun hlt => ?_
  · have hi : i < cs.length := by omega
    obtain ⟨c, hc⟩ : ∃ c, cs[i]? = some c := ⟨_, List.getElem?_eq_getElem hi⟩
    rw [hc] at he
    dsimp only at he
    walk_at "go"
    rw [h1057]
    refine ⟨cs, i, f, rfl, hs, hi, ?_⟩
    cases hr : tkR cs f i with
    | error e =>
      rw [hr] at he
      intro L
      rw [Nat.zero_add, List.append_assoc]
      exact rs0 hQ he _
    | ok x =>
      obtain ⟨t, j⟩ := x
      rw [hr] at he
      dsimp only at he
      obtain ⟨a1, a2, _⟩ := tkR_ok hs hr
      rw [rsQ_ok]
      walk_at "go"
      exact hn m [_, _] _ rfl ⟨j, l ++ [(i + 1, t)], some (t.d (i + 1)), rfl, by rw [List.map_append]; rfl, by omega, a2, by rw [List.length_append, List.length_singleton]; omega, he⟩
  · have hc : cs[i]? = none := List.getElem?_eq_none (by omega)
    rw [hc] at he
    rw [he] at hQ
    walk_at "go"
    exact .lst rfl hM (at_new0 ..) (Nat.le_refl _) (noRefs_map fun _ _ => nr_tk _) hQ
abbrev c1346_5 : CSs := .cons (.ret (.tup (.cons (.tup (.cons (.str "empty") .nil)) (.cons (.int 1) .nil)))) .nil
abbrev c1346_7 : CSs := .cons (.set 3 (.bin .add (.var 3) (.idx (.var 4) (.int 1)))) .nil
abbrev c1346_6 : CSs := .cons (.set 2 (.tup (.cons (.var 1) (.cons (.idx (.var 4) (.int 0)) (.cons (.var 2) .nil))))) c1346_7
abbrev c1346_4 : CSs := .cons (.ret (.tup (.cons (.var 2) (.cons (.var 3) .nil)))) .nil
abbrev c1346_3 : CSs := .cons (.fors (.nm 4) (.seq (.rev false (.slc false (.var 0) .none (.some (.neg (.int 1)))))) c1346_6) c1346_4
abbrev c1346_2 : CSs := .cons (.set 3 (.idx (.idx (.var 0) (.neg (.int 1))) (.int 1))) c1346_3
abbrev c1346_1 : CSs := .cons (.set 2 (.idx (.idx (.var 0) (.neg (.int 1))) (.int 0))) c1346_2
abbrev c1346 : CSs := .cons (.ifs (.not (.var 0)) c1346_5 .nil) c1346_1
def sp1346 : SpD := fun ds M Q _ => ∃ (k : Nat) (b : Bool) (X : Type) (f : X → Al) (enc : X → D) (ms : List X), ds = [.ref k, .str (kS b)] ∧ M[k]? = some (.lst (ms.map enc)) ∧ ms.length ≤ 200000 ∧ (∀ x ∈ ms, ∃ r, enc x = .tup (ptD (f x).1 :: .int (f x).2 :: r)) ∧ Q (alD (jnT b (ms.map f))) M
theorem ln1346 : ∀ ds M Q E, sp1346 ds M Q E → ds.length = 2 := by
  rintro _ _ _ _ ⟨_, _, _, _, _, _, rfl, _⟩; rfl
theorem rd1346 {Φ : Nat → SpD} {κ : Nat → D} : RdOk Φ κ c1346 5 (sp1346) := by
  rintro ds M Q E hM hd ⟨k, b, X, f, enc, ms, rfl, hk, hl, he, hQ⟩
  walk_at "go"
  rw [hk]
  walk_at "go"
  rcases List.eq_nil_or_concat ms with rfl | ⟨xs, x, hxs⟩
  · walk_at "go"
    exact .keep hQ
  · rw [List.concat_eq_append] at hxs
    subst hxs
    obtain ⟨rx, hx⟩ := he x (by simp)
    rw [List.map_append, List.map_cons, List.map_nil] at hk
    rw [if_neg (by simp)]
    walk_at "go"
    rw [hk]
    walk_at "go"
    rw [hx]
    walk_at "go"
    rw [hk]
    walk_at "go"
    rw [hx]
    walk_at "go"
    rw [sl_at hk, cut_init']
    walk_at "go"
    rw [← List.map_reverse]
    rw [List.map_append, List.map_cons, List.map_nil, jnT_app] at hQ
    obtain ⟨P0, hP0⟩ : ∃ P0, P0 = (xs.map f).reverse.foldl (jnS b) (f x) := ⟨_, rfl⟩
    rw [← hP0, alD_eq] at hQ
    rw [← List.map_reverse] at hP0
    refine for_list [2, 3, 4] (fun r js M' => ∃ (a : Al) (x4 : Option D), js = [some (ptD a.1), some (.int a.2), x4] ∧ M = M' ∧ (∀ y ∈ r, y ∈ xs) ∧ P0 = (r.map f).foldl (jnS b) a)
      ⟨[_, _, _], rfl, f x, _, rfl, rfl, fun y hy => List.mem_reverse.mp hy, hP0⟩ ?_ ?_
    · rintro y r js M' nx ⟨a, x4, rfl, rfl, hr, hp⟩ hn
      obtain ⟨ry, hy⟩ := he y (List.mem_append_left _ (hr y (List.mem_cons_self ..)))
      walk_at "go"
      rw [hy]
      walk_at "go"
      rw [← mkB_D]
      exact hn [_, _, _] _ ⟨jnS b a (f y), _, rfl, rfl, fun z hz => hr z (List.mem_cons_of_mem _ hz), hp⟩
    · rintro js M' ⟨a, x4, rfl, rfl, hr, hp⟩
      rw [hp] at hQ
      walk_at "go"
      exact .keep hQ
abbrev c1342_1 : CSs := .cons (.setFld "OpenBracket" (.var 0) "members" (.lst true .nil)) .nil
abbrev c1342 : CSs := .cons (.expr (.mth .append (.fld "OpenBracket" (.var 0) "alternatives") (.cons (.call 1346 (.cons (.fld "OpenBracket" (.var 0) "members") (.cons (.str "sequence") .nil))) .nil))) c1342_1
def sp1342 : SpD := fun ds M Q _ => ∃ (kc ka km : Nat) (o : OB), ds = [.ref kc] ∧ ObC M kc ka km o ∧ ka ≠ km ∧ o.al.length < 200000 ∧ o.me.length < 200000 ∧ Q .non (finM M kc ka o)
theorem ln1342 : ∀ ds M Q E, sp1342 ds M Q E → ds.length = 1 := by
  rintro _ _ _ _ ⟨_, _, _, _, rfl, _⟩; rfl
theorem rd1342 {Φ : Nat → SpD} {κ : Nat → D} (h1346 : Φ 1346 = sp1346) : RdOk Φ κ c1342 1 (sp1342) := by
  rintro ds M Q E hM hd ⟨kc, ka, km, o, rfl, h, hne, h1, h2, hQ⟩
  have hc := h.c
  rw [obO_eq] at hc
  have hl := h.l
  have h3 := ob_ne h.c h.l
  unfold finM at hQ
  rw [obO_eq] at hQ
  walk_at "go"
  rw [hc]
  walk_at "go"
  rw [hl]
  walk_at "go"
  rw [hc]
  walk_at "go"
  rw [h1346]
  refine ⟨km, true, Me, fun x => x.1, meD, o.me, rfl, h.m, by omega, fun x _ => ⟨[.bl x.2], rfl⟩, ?_⟩
  walk_at "go"
  rw [hl]
  walk_at "go"
  rw [List.getElem?_append_left (by simp; exact lt_of hc), List.getElem?_set_ne h3, hc]
  walk_at "go"
  have e : List.map alD o.al ++ [alD (jnT true (o.me.map fun x => x.1))] = List.map alD o.fin.al := by rw [OB.fin, List.map_append]; rfl
  rw [e]
  exact .keep hQ
abbrev c1344_3 : CSs := .cons (.raiseI "PatternError" ["column", "expected"] (.cons (.idx (.var 1) (.int 1)) (.cons (.str "less nesting") .nil))) .nil
abbrev c1344_6 : CSs := .cons (.raiseI "PatternError" ["column", "expected"] (.cons (.idx (.var 1) (.int 1)) (.cons (.str "another name") .nil))) .nil
abbrev c1344_5 : CSs := .cons (.expr (.mth .append (.fld "TreeBuilder" (.var 0) "group_names") (.cons (.idx (.var 1) (.int 3)) .nil))) .nil
abbrev c1344_4 : CSs := .cons (.ifs (.and (.cmp .notN (.idx (.var 1) (.int 3)) .non) (.cmp .inn (.idx (.var 1) (.int 3)) (.fld "TreeBuilder" (.var 0) "group_names"))) c1344_6 .nil) c1344_5
abbrev c1344_2 : CSs := .cons (.expr (.mth .append (.fld "TreeBuilder" (.var 0) "brackets") (.cons (.make true 535 "OpenBracket" (.cons (.var 1) (.cons (.bin .sub (.blt .len (.cons (.fld "TreeBuilder" (.var 0) "group_names") .nil)) (.int 1)) .nil))) .nil))) .nil
abbrev c1344_1 : CSs := .cons (.ifs (.cmp .eq (.idx (.var 1) (.int 2)) (.str "group")) c1344_4 .nil) c1344_2
abbrev c1344 : CSs := .cons (.ifs (.cmp .gt (.blt .len (.cons (.fld "TreeBuilder" (.var 0) "brackets") .nil)) (.glob 40)) c1344_3 .nil) c1344_1
def sp1344 : SpD := fun ds M Q E => ∃ (M0 : Md) (k kb kg : Nat) (rs : List (Nat × Nat × Nat)) (s : BS) (n c : Nat) (b : Bk), ds = [.ref k, (Tk.opn b).d c] ∧ BR M0 M k kb kg rs s ∧ BOk n s ∧ n ≤ 100000 ∧ (Tk.opn b).ok ∧ rsQ 0 (enB c b s) E M0 fun s' => ∀ M' rs', BR M0 M' k kb kg rs' s' → Q .non M'
theorem ln1344 : ∀ ds M Q E, sp1344 ds M Q E → ds.length = 2 := by
  rintro _ _ _ _ ⟨_, _, _, _, _, _, _, _, _, rfl, _⟩; rfl
theorem opn_D {c : Nat} {b : Bk} : (Tk.opn b).d c = .tup [.str "open", .int c, .str b.k, b.told] := rfl
theorem bkL_len {rs : List (Nat × Nat × Nat)} : (bkL rs).length = rs.length := by simp [bkL]
theorem nmf_flat : ∀ ns : List Nm, (ns.map nmD).all flatD = true
  | [] => rfl
  | n :: ns => by
    rw [List.map_cons, List.all_cons, nmf_flat ns]
    cases n <;> rfl
theorem nmf_any {l : List Nat} {ns : List Nm} : ((ns.map nmD).any fun d => eqF d (.str (tx l))) = decide (some l ∈ ns) := by
  by_cases h : some l ∈ ns
  · rw [decide_eq_true h]
    refine List.any_eq_true.mpr ⟨nmD (some l), List.mem_map.mpr ⟨_, h, rfl⟩, ?_⟩
    show eqF (.str (tx l)) (.str (tx l)) = true
    simp [eqF]
  · rw [decide_eq_false h]
    refine List.any_eq_false.mpr fun d hd he => h ?_
    obtain ⟨x, hx, rfl⟩ := List.mem_map.mp hd
    cases x with
    | none => simp [nmD, eqF] at he
    | some w =>
      have e : tx w = tx l := by simpa [nmD, eqF] using he
      rw [← tx_inj e]
      exact hx
theorem rd1344 {Φ : Nat → SpD} {κ : Nat → D} (h535 : Φ 535 = sp535) (hk40 : κ 40 = k40) : RdOk Φ κ c1344 2 (sp1344) := by
  rintro ds M Q E hM hd ⟨M0, k, kb, kg, rs, s, n, c, b, rfl, h, hb, hn, hok, hQ⟩
  have ht := h.t
  rw [tbO_eq] at ht
  have hbk := hb.bk
  have hrl := h.o.len
  have hnm := hb.nm
  rw [opn_D] at hd ⊢
  walk_at "go"
  rw [ht]
  walk_at "go"
  rw [h.b]
  walk_at "go"
  rw [bkL_len, hk40]
  unfold enB at hQ
  unfold k40
  walk_at "go"
  refine iteI (fun h8 => ?_) fun h8 => ?_
  · rw [if_pos (by omega)] at hQ
    walk_at "go"
    exact br_er h hQ rfl
  rw [if_neg (by omega)] at hQ
  walk_at "go"
  have rest : ∀ M1 s1, BR M0 M1 k kb kg rs s1 → (∀ M' rs', BR M0 M' k kb kg rs' { s1 with obs := ⟨some (c, b), .int ((s1.names.length : Int) - 1), [], []⟩ :: s1.obs } → Q .non M') → nxt Φ κ c1344_2 (fun x _ M => E x M) (endsD (List.length M) Q)
      [some (D.ref k), some (D.tup [D.str "open", D.int c, D.str b.k, b.told])] M1 := by
    intro M1 s1 h1 hq
    have ht1 := h1.t
    rw [tbO_eq] at ht1
    walk_at "go"
    rw [ht1]
    walk_at "go"
    rw [h1.b]
    walk_at "go"
    rw [ht1]
    walk_at "go"
    rw [h1.g]
    walk_at "go"
    rw [h535]
    refine ⟨M1, some (c, b), _, rfl, rfl, ?_⟩
    walk_at "go"
    rw [at_old h1.b]
    walk_at "go"
    have hr1 := h1.o.len
    refine ⟨by rw [size_eq, bkL_len]; omega, ?_⟩
    rw [set_old h1.b, List.length_map]
    exact .keep (hq _ _ (h1.push (some (c, b)) _))
  cases b with
  | grp w =>
    show if ("group" : Str) = "group" then _ else _
    rw [if_pos rfl]
    have go2 : (Bk.grp w).old s.names = false → nxt Φ κ c1344_2 (fun x _ M => E x M) (endsD (List.length M) Q)
        [some (D.ref k), some (D.tup [D.str "open", D.int c, D.str (Bk.grp w).k, (Bk.grp w).told])] (M.set kg (.lst (s.names.map nmD ++ [(Bk.grp w).told]))) := by
      intro ho
      rw [if_neg (by rw [ho]; exact Bool.false_ne_true), rsQ_ok] at hQ
      have e : List.map nmD s.names ++ [(Bk.grp w).told] = (s.names ++ [w]).map nmD := by rw [List.map_append]; rfl
      rw [e]
      refine rest _ _ (h.nm (s.names ++ [w])) hQ
    cases w with
    | none =>
      refine nxt_of ?_
      show rS _ _ _ _ _ _ _
      walk_at "go"
      rw [ht]
      walk_at "go"
      rw [h.g]
      walk_at "go"
      exact go2 rfl
    | some l =>
      refine nxt_of ?_
      show rS _ _ _ _ _ _ _
      walk_at "go"
      rw [ht]
      walk_at "go"
      rw [h.g]
      walk_at "go"
      rw [if_pos (show isNon (Bk.grp (some l)).told = false from rfl)]
      rw [inR_flat (x := (Bk.grp (some l)).told) h.g rfl (nmf_flat _)]
      show if ((s.names.map nmD).any fun d => eqF d (.str (tx l))) = true then _ else _
      rw [nmf_any]
      refine iteI (fun hm => ?_) fun hm => ?_
      · rw [if_pos (show (Bk.grp (some l)).old s.names = true from hm)] at hQ
        walk_at "go"
        exact br_er h hQ rfl
      · rw [ht]
        walk_at "go"
        rw [h.g]
        walk_at "go"
        refine go2 ?_
        cases e : (Bk.grp (some l)).old s.names with
        | false => rfl
        | true => exact absurd e hm
  | plain =>
    show if ("plain" : Str) = "group" then _ else _
    rw [if_neg (by decide)]
    rw [if_neg (by simp [Bk.old]), rsQ_ok] at hQ
    exact rest M s h hQ
  | look a p =>
    show if ("look" : Str) = "group" then _ else _
    rw [if_neg (by decide)]
    rw [if_neg (by simp [Bk.old]), rsQ_ok] at hQ
    exact rest M s h hQ
abbrev c1343_1 : CSs := .cons (.ret (.call 1346 (.cons (.fld "OpenBracket" (.var 0) "alternatives") (.cons (.str "choice") .nil)))) .nil
abbrev c1343 : CSs := .cons (.expr (.meth "OpenBracket" "end_alternative" 1342 (.var 0) .nil)) c1343_1
def sp1343 : SpD := fun ds M Q _ => ∃ (kc ka km : Nat) (o : OB), ds = [.ref kc] ∧ ObC M kc ka km o ∧ ka ≠ km ∧ o.al.length < 100002 ∧ o.me.length < 100002 ∧ Q (alD o.cont) (finM M kc ka o)
theorem ln1343 : ∀ ds M Q E, sp1343 ds M Q E → ds.length = 1 := by
  rintro _ _ _ _ ⟨_, _, _, _, rfl, _⟩; rfl
theorem rd1343 {Φ : Nat → SpD} {κ : Nat → D} (h1342 : Φ 1342 = sp1342) (h1346 : Φ 1346 = sp1346) : RdOk Φ κ c1343 1 (sp1343) := by
  rintro ds M Q E hM hd ⟨kc, ka, km, o, rfl, h, hne, h1, h2, hQ⟩
  walk_at "go"
  refine ⟨?_, ?_⟩
  · exact ob_obj h.c (by decide)
  walk_at "go"
  rw [h1342]
  refine ⟨kc, ka, km, o, rfl, h, hne, by omega, by omega, ?_⟩
  have h' := finM_ob h
  have hc := h'.c
  rw [obO_eq] at hc
  walk_at "go"
  rw [hc]
  walk_at "go"
  rw [h1346]
  refine ⟨ka, false, Al, fun x => x, alD, o.fin.al, rfl, h'.l, by simp [OB.fin]; omega, fun x _ => ⟨[], rfl⟩, ?_⟩
  rw [List.map_id']
  exact .keep hQ
abbrev c1348_6 : CSs := .cons (.raiseI "PatternError" ["column", "expected"] (.cons (.idx (.var 1) (.int 1)) (.cons (.str "an open bracket") .nil))) .nil
abbrev c1348_7 : CSs := .cons (.set 3 (.tup (.cons (.str "group") (.cons (.fld "OpenBracket" (.var 2) "number") (.cons (.var 3) .nil))))) .nil
abbrev c1348_10 : CSs := .cons (.setFld "TreeBuilder" (.var 0) "look_count" (.bin .add (.fld "TreeBuilder" (.var 0) "look_count") (.int 1))) .nil
abbrev c1348_9 : CSs := .cons (.set 3 (.tup (.cons (.str "look") (.cons (.idx (.var 6) (.int 0)) (.cons (.idx (.var 6) (.int 1)) (.cons (.var 3) .nil)))))) c1348_10
abbrev c1348_8 : CSs := .cons (.ifs (.cmp .eq (.var 5) (.str "look")) c1348_9 .nil) .nil
abbrev c1348_5 : CSs := .cons (.expr (.mth .append (.fld "OpenBracket" (.idx (.fld "TreeBuilder" (.var 0) "brackets") (.neg (.int 1))) "members") (.cons (.tup (.cons (.var 3) (.cons (.var 4) (.cons (.bl false) .nil)))) .nil))) .nil
abbrev c1348_4 : CSs := .cons (.ifs (.cmp .eq (.var 5) (.str "group")) c1348_7 c1348_8) c1348_5
abbrev c1348_3 : CSs := .cons (.setP [5, 6] (.cons (.idx (.fld "OpenBracket" (.var 2) "token") (.int 2)) (.cons (.idx (.fld "OpenBracket" (.var 2) "token") (.int 3)) .nil))) c1348_4
abbrev c1348_2 : CSs := .cons (.setT [3, 4] (.meth "OpenBracket" "content" 1343 (.var 2) .nil)) c1348_3
abbrev c1348_1 : CSs := .cons (.set 2 (.mth .pop (.fld "TreeBuilder" (.var 0) "brackets") .nil)) c1348_2
abbrev c1348 : CSs := .cons (.ifs (.cmp .eq (.blt .len (.cons (.fld "TreeBuilder" (.var 0) "brackets") .nil)) (.int 1)) c1348_6 .nil) c1348_1
def sp1348 : SpD := fun ds M Q E => ∃ (M0 : Md) (k kb kg : Nat) (rs : List (Nat × Nat × Nat)) (s : BS) (n c : Nat), ds = [.ref k, Tk.cls.d c] ∧ BR M0 M k kb kg rs s ∧ BOk n s ∧ BOk' s ∧ n ≤ 100000 ∧ rsQ 0 (lvB c s) E M0 fun s' => ∀ M' rs', BR M0 M' k kb kg rs' s' → Q .non M'
theorem ln1348 : ∀ ds M Q E, sp1348 ds M Q E → ds.length = 2 := by
  rintro _ _ _ _ ⟨_, _, _, _, _, _, _, _, rfl, _⟩; rfl
theorem cls_D {c : Nat} : Tk.cls.d c = .tup [.str "close", .int c] := rfl
theorem bkL_len2 {rs : List (Nat × Nat × Nat)} : (bkL rs).length = rs.length := by simp [bkL]
theorem rd1348 {Φ : Nat → SpD} {κ : Nat → D} (h1343 : Φ 1343 = sp1343) : RdOk Φ κ c1348 7 (sp1348) := by
  rintro ds M Q E hM hd ⟨M0, k, kb, kg, rs, s, n, c, rfl, h, hb, hb', hn, hQ⟩
  obtain ⟨os, ns, lk⟩ := s
  have hrl := h.o.len
  have ht := h.t
  rw [tbO_eq] at ht
  rw [cls_D] at hd ⊢
  unfold lvB at hQ
  dsimp only at hQ hrl
  walk_at "go"
  rw [ht]
  walk_at "go"
  rw [h.b]
  walk_at "go"
  rw [bkL_len2]
  have n0 := hb'.n0
  dsimp only at n0
  refine iteI (fun h1 => ?_) fun h1 => ?_
  · match os, n0, hrl, hQ with
    | [], n0, _, _ => exact absurd rfl n0
    | [o], _, _, hQ =>
      walk_at "go"
      exact br_er h hQ rfl
    | _ :: _ :: _, _, hrl, _ => simp at hrl; omega
  match os, rs, hrl, h, hQ, hb, hb' with
  | [], _, _, _, _, _, _ => exact absurd rfl n0
  | [o], rs, hrl, _, _, _, _ => simp at hrl; omega
  | o :: p :: os, [], hrl, _, _, _, _ => simp at hrl
  | o :: p :: os, [_], hrl, _, _, _, _ => simp at hrl
  | o :: p :: os, r :: r2 :: rs, _, h, hQ, hb, hb' =>
    obtain ⟨hp, hpo⟩ := h.pop
    have y := rne_of h.nd
    have hlo := h.lo
    have hbb := h.b
    rw [bkL_c] at hbb
    have hol := hb.ob o (by simp)
    have hpl := hb.ob p (by simp)
    walk_at "go"
    rw [ht]
    walk_at "go"
    rw [hbb]
    walk_at "go"
    rw [List.getLast?_concat, List.dropLast_concat]
    walk_at "go"
    refine ⟨ob_obj hpo.c (by decide), ?_⟩
    rw [h1343]
    refine ⟨r.1, r.2.1, r.2.2, o, rfl, hpo, y.own.2.2, by omega, by omega, ?_⟩
    have hf := hp.fin hpo y.out (fun j hj => (hlo j (by rw [ftRs_c]; simp only [ftR, List.mem_cons, List.not_mem_nil, or_false] at hj; simp only [List.mem_cons]; rcases hj with h | h | h <;> simp [h])).1)
    have hfo := finM_ob hpo
    have hfc := hfo.c
    rw [obO_eq] at hfc
    have eal : alD o.cont = .tup [ptD o.cont.1, .int o.cont.2] := rfl
    rw [eal]
    walk_at "go"
    rw [hfc]
    walk_at "go"
    obtain ⟨x, hx⟩ := hb'.dn o (by simp)
    obtain ⟨c', b⟩ := x
    have htk : tkO o.fin.tk = .tup [.str "open", .int c', .str b.k, b.told] := by
      show tkO o.tk = _
      rw [hx]; rfl
    rw [htk] at hfc ⊢
    obtain ⟨M2, hM2⟩ : ∃ M2, M2 = finM (List.set M kb (MO.lst (bkL (r2 :: rs)))) r.fst r.snd.fst o := ⟨_, rfl⟩
    rw [← hM2] at hf hfc ⊢
    walk_at "go"
    rw [hfc]
    walk_at "go"
    rw [rsQ_ok] at hQ
    have rest : ∀ (M3 : Md) (lk2 : Nat) (x5 x6 : D) (t : Pt), BR M0 M3 k kb kg (r2 :: rs) ⟨p :: os, ns, lk2⟩ → t = o.tree → lk2 = lk + o.lks → nxt Φ κ c1348_5 (fun x _ M => E x M) (endsD (List.length M) Q)
        [some (D.ref k), some (D.tup [D.str "close", D.int c]), some (D.ref r.1), some (ptD t), some (D.int o.cont.2), some x5, some x6] M3 := by
      intro M3 lk2 x5 x6 t h3 e1 e2
      subst e1 e2
      have ht3 := h3.t
      rw [tbO_eq] at ht3
      have hb3 := h3.b
      rw [bkL_c] at hb3
      obtain ⟨hp3, _⟩ := h3.o.inv
      have hc3 := hp3.c
      rw [obO_eq] at hc3
      walk_at "go"
      rw [ht3]
      walk_at "go"
      rw [hb3]
      walk_at "go"
      rw [hc3]
      walk_at "go"
      rw [hp3.m]
      walk_at "go"
      have e : p.me.map meD ++ [D.tup [ptD o.tree, D.int o.cont.2, D.bl false]] = (p.me ++ [((o.tree, o.cont.2), false)]).map meD := by rw [List.map_append]; rfl
      rw [e]
      exact .keep (hQ _ _ (h3.mem (p.me ++ [((o.tree, o.cont.2), false)])))
    walk_at "go"
    cases b with
    | grp w =>
      show if ("group" : Str) = "group" then _ else _
      rw [if_pos rfl]
      refine nxt_of ?_
      walk_at "rd2"
      rw [hfc]
      walk_at "rd2"
      obtain ⟨num, hnum⟩ := hb'.tk o (by simp) c' w hx
      have en : D.tup [D.str "group", o.nu, ptD o.cont.1] = ptD (.grp num o.cont.1) := by rw [hnum]; rfl
      show nxt _ _ _ _ _ [_, _, _, some (D.tup [D.str "group", o.nu, ptD o.cont.1]), _, _, _] _
      rw [en]
      exact rest M2 lk _ _ _ hf (by unfold OB.tree; rw [hx, hnum]; rfl) (by unfold OB.lks; rw [hx]; rfl)
    | plain =>
      show if ("plain" : Str) = "group" then _ else _
      rw [if_neg (by decide)]
      refine nxt_of ?_
      walk_at "rd2"
      exact rest M2 lk _ _ o.cont.1 hf (by unfold OB.tree; rw [hx]) (by unfold OB.lks; rw [hx]; rfl)
    | look a q =>
      show if ("look" : Str) = "group" then _ else _
      rw [if_neg (by decide)]
      walk_at "go"
      show if ("look" : Str) = "look" then _ else _
      rw [if_pos rfl]
      refine nxt_of ?_
      walk_at "rd2"
      have ht2 := hf.t
      rw [tbO_eq] at ht2
      have en : D.tup [D.str "look", D.bl a, D.bl q, ptD o.cont.1] = ptD (.look a q o.cont.1 none) := rfl
      rw [show (Bk.look a q).told = D.tup [D.bl a, D.bl q] from rfl]
      walk_at "rd2"
      rw [en]
      refine nxt_of ?_
      walk_at "rd2"
      rw [ht2]
      walk_at "rd2"
      rw [ht2]
      walk_at "rd2"
      exact rest _ (lk + 1) _ _ _ (hf.look (lk + 1)) (by unfold OB.tree; rw [hx]) (by unfold OB.lks; rw [hx])
abbrev c1349_7 : CSs := .cons (.raiseI "PatternError" ["column", "expected"] (.cons (.idx (.var 1) (.int 1)) (.cons (.str "something to repeat") .nil))) .nil
abbrev c1349_8 : CSs := .cons (.set 4 (.bin .mul (.var 4) (.bin .add (.var 6) (.int 1)))) .nil
abbrev c1349_9 : CSs := .cons (.set 4 (.bin .mul (.var 4) (.blt .max2 (.cons (.int 1) (.cons (.var 7) .nil))))) .nil
abbrev c1349_10 : CSs := .cons (.raiseI "PatternError" ["column", "expected"] (.cons (.idx (.var 1) (.int 1)) (.cons (.str "fewer repetitions") .nil))) .nil
abbrev c1349_6 : CSs := .cons (.expr (.mth .append (.var 2) (.cons (.tup (.cons (.tup (.cons (.str "repeat") (.cons (.var 3) (.cons (.var 6) (.cons (.var 7) (.cons (.idx (.var 1) (.int 4)) .nil)))))) (.cons (.var 4) (.cons (.bl true) .nil)))) .nil))) .nil
abbrev c1349_5 : CSs := .cons (.ifs (.cmp .gt (.var 4) (.glob 39)) c1349_10 .nil) c1349_6
abbrev c1349_4 : CSs := .cons (.ifs (.cmp .isN (.var 7) .non) c1349_8 c1349_9) c1349_5
abbrev c1349_3 : CSs := .cons (.setP [6, 7] (.cons (.idx (.var 1) (.int 2)) (.cons (.idx (.var 1) (.int 3)) .nil))) c1349_4
abbrev c1349_2 : CSs := .cons (.setT [3, 4, 5] (.mth .pop (.var 2) .nil)) c1349_3
abbrev c1349_1 : CSs := .cons (.ifs (.or (.not (.var 2)) (.idx (.idx (.var 2) (.neg (.int 1))) (.int 2))) c1349_7 .nil) c1349_2
abbrev c1349 : CSs := .cons (.set 2 (.fld "OpenBracket" (.idx (.fld "TreeBuilder" (.var 0) "brackets") (.neg (.int 1))) "members")) c1349_1
def sp1349 : SpD := fun ds M Q E => ∃ (M0 : Md) (k kb kg : Nat) (rs : List (Nat × Nat × Nat)) (s : BS) (n c lo : Nat) (hi : Option Nat) (g : Bool), ds = [.ref k, (Tk.rep lo hi g).d c] ∧ BR M0 M k kb kg rs s ∧ BOk n s ∧ n ≤ 100000 ∧ (Tk.rep lo hi g).ok ∧ s.obs ≠ [] ∧ rsQ 0 (rpB c lo hi g s) E M0 fun s' => ∀ M' rs', BR M0 M' k kb kg rs' s' → Q .non M'
theorem ln1349 : ∀ ds M Q E, sp1349 ds M Q E → ds.length = 2 := by
  rintro _ _ _ _ ⟨_, _, _, _, _, _, _, _, _, _, _, rfl, _⟩; rfl
theorem rep_D {c lo : Nat} {hi : Option Nat} {g : Bool} : (Tk.rep lo hi g).d c = .tup [.str "repeat", .int c, .int lo, onD hi, .bl g] := rfl
theorem rd1349 {Φ : Nat → SpD} {κ : Nat → D} (hk39 : κ 39 = k39) : RdOk Φ κ c1349 8 (sp1349) := by
  rintro ds M Q E hM hd ⟨M0, k, kb, kg, rs, s, n, c, lo, hi, g, rfl, h, hb, hn, hok, hne, hQ⟩
  obtain ⟨os, ns, lk⟩ := s
  cases os with
  | nil => exact absurd rfl hne
  | cons o os =>
  cases rs with
  | nil => have := h.o.len; simp at this
  | cons r rs =>
  have ht := h.t
  rw [tbO_eq] at ht
  have hbb := h.b
  rw [bkL_c] at hbb
  obtain ⟨hoc, _⟩ := h.o.inv
  have hc := hoc.c
  rw [obO_eq] at hc
  rw [rep_D] at hd ⊢
  have hml := (hb.ob o (by simp)).2
  unfold rpB at hQ
  dsimp only at hQ
  walk_at "go"
  rw [ht]
  walk_at "go"
  rw [hbb]
  walk_at "go"
  rw [hc]
  walk_at "go"
  rw [hoc.m]
  walk_at "go"
  have hne7 : ∀ σ5, rsQ 0 (Except.error (c, "something to repeat") : Rs BS) E M0 (fun s' => ∀ M' rs', BR M0 M' k kb kg rs' s' → Q .non M') →
      nxt Φ κ c1349_7 (fun x _ M => E x M) { nx := nxt Φ κ c1349_2 (fun x _ M => E x M) (endsD (List.length M) Q), rt := (endsD (List.length M) Q).rt, bk := (endsD (List.length M) Q).bk, ct := (endsD (List.length M) Q).ct }
      (some (D.ref k) :: some (D.tup [D.str "repeat", D.int c, D.int lo, onD hi, D.bl g]) :: σ5) M := by
    intro σ5 hq
    walk_at "go"
    exact br_er h hq rfl
  have hm := hoc.m
  rcases List.eq_nil_or_concat o.me with e0 | ⟨xs, x, hxs⟩
  · rw [e0] at hQ ⊢
    exact hne7 _ hQ
  rw [List.concat_eq_append] at hxs
  obtain ⟨⟨t, w⟩, b⟩ := x
  rw [hxs, List.getLast?_concat, List.dropLast_concat] at hQ
  rw [hxs, List.map_append, List.map_cons, List.map_nil] at hm ⊢
  rw [if_neg (by simp), meD_eq]
  walk_at "go"
  cases b with
  | true => exact hne7 _ hQ
  | false =>
    rw [if_neg Bool.false_ne_true]
    dsimp only at hQ
    rw [meD_eq] at hm
    walk_at "go"
    rw [hm]
    walk_at "go"
    rw [List.getLast?_concat, List.dropLast_concat]
    have hk := at_set (m' := .lst (xs.map meD)) hm
    have rest : ∀ W : Nat, W = rpW w lo hi → nxt Φ κ c1349_5 (fun x _ M => E x M) (endsD (List.length M) Q)
        [some (D.ref k), some (D.tup [D.str "repeat", D.int c, D.int lo, onD hi, D.bl g]), some (D.ref r.2.2), some (ptD t), some (D.int W), some (D.bl false), some (D.int lo), some (onD hi)] (M.set r.2.2 (.lst (xs.map meD))) := by
      intro W hW
      rw [← hW] at hQ
      have hp := h.mem xs
      walk_at "go"
      rw [hk39]
      unfold k39
      walk_at "go"
      refine iteI (fun h1 => ?_) fun h1 => ?_
      · rw [if_pos (by omega)] at hQ
        walk_at "go"
        exact br_er hp hQ rfl
      · rw [if_neg (by omega), rsQ_ok] at hQ
        walk_at "go"
        rw [hk]
        walk_at "go"
        have hxl := congrArg List.length hxs
        rw [List.length_append, List.length_singleton] at hxl
        refine ⟨by rw [size_eq, List.length_map]; omega, ?_⟩
        have e : xs.map meD ++ [D.tup [D.tup [D.str "repeat", ptD t, D.int lo, onD hi, D.bl g], D.int W, D.bl true]] = (xs ++ [((Pt.rep t lo hi g, W), true)]).map meD := by rw [List.map_append]; rfl
        rw [e]
        have := hp.mem (xs ++ [((Pt.rep t lo hi g, W), true)])
        exact .keep (hQ _ _ this)
    walk_at "go"
    cases hi with
    | none =>
      show if isNon .non = true then _ else _
      rw [isNon_non, if_pos rfl]
      walk_at "go"
      refine ⟨.inr ⟨by omega, by have := hok.1; omega⟩, ?_⟩
      walk_at "go"
      exact rest (w * (lo + 1)) rfl
    | some hh =>
      have := hok.2 hh rfl
      show if isNon (.int hh) = true then _ else _
      rw [isNon_int, if_neg Bool.false_ne_true]
      rw [show onD (some hh) = D.int hh from rfl] at rest ⊢
      have hr := rest (w * max 1 hh) rfl
      have e : ((w * max 1 hh : Nat) : Int) = w * (if (hh : Int) > 1 then (hh : Int) else 1) := by rw [Int.natCast_mul]; congr 1; split <;> omega
      rw [e] at hr
      walk_at "go"
      refine ⟨.inr ⟨by split <;> omega, by split <;> omega⟩, ?_⟩
      exact hr
abbrev c1191_2 : CSs := .cons (.expr (.meth "TreeBuilder" "enter" 1344 (.var 0) (.cons (.var 1) .nil))) .nil
abbrev c1191_4 : CSs := .cons (.expr (.meth "TreeBuilder" "leave" 1348 (.var 0) (.cons (.var 1) .nil))) .nil
abbrev c1191_6 : CSs := .cons (.expr (.meth "OpenBracket" "end_alternative" 1342 (.idx (.fld "TreeBuilder" (.var 0) "brackets") (.neg (.int 1))) .nil)) .nil
abbrev c1191_8 : CSs := .cons (.expr (.meth "TreeBuilder" "repeat_last" 1349 (.var 0) (.cons (.var 1) .nil))) .nil
abbrev c1191_9 : CSs := .cons (.expr (.mth .append (.fld "OpenBracket" (.idx (.fld "TreeBuilder" (.var 0) "brackets") (.neg (.int 1))) "members") (.cons (.tup (.cons (.idx (.var 1) (.int 2)) (.cons (.int 1) (.cons (.bl false) .nil)))) .nil))) .nil
abbrev c1191_7 : CSs := .cons (.ifs (.cmp .eq (.var 2) (.str "repeat")) c1191_8 c1191_9) .nil
abbrev c1191_5 : CSs := .cons (.ifs (.cmp .eq (.var 2) (.str "bar")) c1191_6 c1191_7) .nil
abbrev c1191_3 : CSs := .cons (.ifs (.cmp .eq (.var 2) (.str "close")) c1191_4 c1191_5) .nil
abbrev c1191_1 : CSs := .cons (.ifs (.cmp .eq (.var 2) (.str "open")) c1191_2 c1191_3) .nil
abbrev c1191 : CSs := .cons (.set 2 (.idx (.var 1) (.int 0))) c1191_1
def sp1191 : SpD := fun ds M Q E => ∃ (M0 : Md) (k kb kg : Nat) (rs : List (Nat × Nat × Nat)) (s : BS) (n c : Nat) (t : Tk), ds = [.ref k, t.d c] ∧ BR M0 M k kb kg rs s ∧ BOk n s ∧ BOk' s ∧ n ≤ 100000 ∧ t.ok ∧ rsQ 0 (tkB c t s) E M0 fun s' => ∀ M' rs', BR M0 M' k kb kg rs' s' → Q .non M'
theorem ln1191 : ∀ ds M Q E, sp1191 ds M Q E → ds.length = 2 := by
  rintro _ _ _ _ ⟨_, _, _, _, _, _, _, _, _, rfl, _⟩; rfl
theorem tb_obj {M : Md} {k kb kg lk : Nat} (h : M[k]? = some (tbO kb kg lk)) {m : Str} (h2 : ([("brackets" : Str), "group_names", "look_count"].contains m) = false) : objD "TreeBuilder" m (.ref k) M := obj_at h h2
theorem keepR {M0 : Md} {k kb kg n : Nat} {α : Type} {r : Rs BS} {E : EX} {Q : QE} (h : rsQ 0 r E M0 fun s' => ∀ M' rs', BR M0 M' k kb kg rs' s' → Q .non M') : rsQ 0 r E M0 fun s' => ∀ M' rs', BR M0 M' k kb kg rs' s' → Fin n Q .non M' := by
  cases r with
  | error e => exact h
  | ok s => intro M' rs' hb; exact .keep (h M' rs' hb)
theorem rd1191 {Φ : Nat → SpD} {κ : Nat → D} (h1344 : Φ 1344 = sp1344) (h1348 : Φ 1348 = sp1348) (h1342 : Φ 1342 = sp1342) (h1349 : Φ 1349 = sp1349) : RdOk Φ κ c1191 3 (sp1191) := by
  rintro ds M Q E hM hd ⟨M0, k, kb, kg, rs, s, n, c, t, rfl, h, hb, hb', hn, hok, hQ⟩
  have ht := h.t
  have hob := @tb_obj M k kb kg s.looks ht
  cases t with
  | opn b =>
    rw [show (Tk.opn b).d c = .tup [.str "open", .int c, .str b.k, b.told] from rfl]
    walk_at "go"
    refine ⟨hob (by decide), ?_⟩
    rw [h1344]
    exact ⟨M0, k, kb, kg, rs, s, n, c, b, rfl, h, hb, hn, hok, keepR (α := Unit) hQ⟩
  | cls =>
    rw [show Tk.cls.d c = .tup [.str "close", .int c] from rfl]
    walk_at "go"
    refine ⟨hob (by decide), ?_⟩
    rw [h1348]
    exact ⟨M0, k, kb, kg, rs, s, n, c, rfl, h, hb, hb', hn, keepR (α := Unit) hQ⟩
  | rep lo hi g =>
    rw [show (Tk.rep lo hi g).d c = .tup [.str "repeat", .int c, .int lo, onD hi, .bl g] from rfl]
    walk_at "go"
    refine ⟨hob (by decide), ?_⟩
    rw [h1349]
    exact ⟨M0, k, kb, kg, rs, s, n, c, lo, hi, g, rfl, h, hb, hn, hok, hb'.n0, keepR (α := Unit) hQ⟩
  | bar =>
    obtain ⟨os, ns, lk⟩ := s
    have n0 := hb'.n0
    have hrl := h.o.len
    match os, rs, n0, hrl, h, hQ, hb with
    | [], _, n0, _, _, _, _ => exact absurd rfl n0
    | o :: os, [], _, hrl, _, _, _ => simp at hrl
    | o :: os, r :: rs, _, _, h, hQ, hb =>
      have y := rne_of h.nd
      have hol := hb.ob o (by simp)
      obtain ⟨ho, _⟩ := h.o.inv
      rw [tbO_eq] at ht
      have hbb := h.b
      rw [bkL_c] at hbb
      rw [show Tk.bar.d c = .tup [.str "bar", .int c] from rfl]
      walk_at "go"
      rw [ht]
      walk_at "go"
      rw [hbb]
      walk_at "go"
      refine ⟨ob_obj ho.c (by decide), ?_⟩
      rw [h1342]
      exact ⟨r.1, r.2.1, r.2.2, o, rfl, ho, y.own.2.2, by omega, by omega, .keep (hQ _ _ h.bar)⟩
  | one t =>
    obtain ⟨os, ns, lk⟩ := s
    have n0 := hb'.n0
    have hrl := h.o.len
    match os, rs, n0, hrl, h, hQ, hb with
    | [], _, n0, _, _, _, _ => exact absurd rfl n0
    | o :: os, [], _, hrl, _, _, _ => simp at hrl
    | o :: os, r :: rs, _, _, h, hQ, hb =>
      have hol := hb.ob o (by simp)
      obtain ⟨ho, _⟩ := h.o.inv
      have hc := ho.c
      rw [obO_eq] at hc
      rw [tbO_eq] at ht
      have hbb := h.b
      rw [bkL_c] at hbb
      rw [show (Tk.one t).d c = .tup [.str "single", .int c, ptD t] from rfl]
      walk_at "go"
      rw [ht]
      walk_at "go"
      rw [hbb]
      walk_at "go"
      rw [hc]
      walk_at "go"
      rw [ho.m]
      walk_at "go"
      have e : o.me.map meD ++ [D.tup [ptD t, D.int 1, D.bl false]] = (o.me ++ [((t, 1), false)]).map meD := by rw [List.map_append]; rfl
      rw [e]
      exact .keep (hQ _ _ (h.mem (o.me ++ [((t, 1), false)])))
abbrev c1192_5 : CSs := .cons (.raiseI "PatternError" ["column", "expected"] (.cons (.idx (.fld "OpenBracket" (.idx (.fld "TreeBuilder" (.var 0) "brackets") (.neg (.int 1))) "token") (.int 1)) (.cons (.str "a closing bracket") .nil))) .nil
abbrev c1192_6 : CSs := .cons (.raiseI "PatternError" ["column", "expected"] (.cons (.int 1) (.cons (.str "a smaller pattern") .nil))) .nil
abbrev c1192_7 : CSs := .cons (.raiseI "PatternError" ["column", "expected"] (.cons (.int 1) (.cons (.str "fewer lookarounds") .nil))) .nil
abbrev c1192_4 : CSs := .cons (.ret (.tup (.cons (.var 1) (.cons (.blt .tuple (.cons (.fld "TreeBuilder" (.var 0) "group_names") .nil)) .nil)))) .nil
abbrev c1192_3 : CSs := .cons (.ifs (.cmp .gt (.fld "TreeBuilder" (.var 0) "look_count") (.glob 41)) c1192_7 .nil) c1192_4
abbrev c1192_2 : CSs := .cons (.ifs (.cmp .gt (.var 2) (.glob 39)) c1192_6 .nil) c1192_3
abbrev c1192_1 : CSs := .cons (.setT [1, 2] (.meth "OpenBracket" "content" 1343 (.idx (.fld "TreeBuilder" (.var 0) "brackets") (.int 0)) .nil)) c1192_2
abbrev c1192 : CSs := .cons (.ifs (.cmp .gt (.blt .len (.cons (.fld "TreeBuilder" (.var 0) "brackets") .nil)) (.int 1)) c1192_5 .nil) c1192_1
def sp1192 : SpD := fun ds M Q E => ∃ (M0 : Md) (k kb kg : Nat) (rs : List (Nat × Nat × Nat)) (s : BS) (n : Nat), ds = [.ref k] ∧ BR M0 M k kb kg rs s ∧ BOk n s ∧ BOk' s ∧ n ≤ 100000 ∧ rsQ 0 (whB s) E M0 fun x => ∀ L, Q (.tup [ptD x.1, .tup (x.2.map nmD)]) (M0 ++ L)
theorem ln1192 : ∀ ds M Q E, sp1192 ds M Q E → ds.length = 1 := by
  rintro _ _ _ _ ⟨_, _, _, _, _, _, _, rfl, _⟩; rfl
theorem pre_q {M0 M : Md} {d : D} {Q : QE} (h : M.take M0.length = M0) (hQ : ∀ L, Q d (M0 ++ L)) : Q d M := by
  rw [← List.take_append_drop M0.length M, h]
  exact hQ _
theorem rd1192 {Φ : Nat → SpD} {κ : Nat → D} (h1343 : Φ 1343 = sp1343) (hk39 : κ 39 = k39) (hk41 : κ 41 = k41) : RdOk Φ κ c1192 3 (sp1192) := by
  rintro ds M Q E hM hd ⟨M0, k, kb, kg, rs, s, n, rfl, h, hb, hb', hn, hQ⟩
  obtain ⟨os, ns, lk⟩ := s
  have n0 := hb'.n0
  have hrl := h.o.len
  have ht := h.t
  rw [tbO_eq] at ht
  match os, rs, n0, hrl, h, hQ, hb, hb' with
  | [], _, n0, _, _, _, _, _ => exact absurd rfl n0
  | _ :: _, [], _, hrl, _, _, _, _ => simp at hrl
  | [_], _ :: _ :: _, _, hrl, _, _, _, _ => simp at hrl
  | _ :: _ :: _, [_], _, hrl, _, _, _, _ => simp at hrl
  | o :: p :: os, r :: r2 :: rs, _, _, h, hQ, hb, hb' =>
    obtain ⟨ho, _⟩ := h.o.inv
    have hc := ho.c
    rw [obO_eq] at hc
    obtain ⟨x, hx⟩ := hb'.dn o (by simp)
    obtain ⟨c', b⟩ := x
    have htk : tkO o.tk = .tup [.str "open", .int c', .str b.k, b.told] := by rw [hx]; rfl
    rw [htk] at hc
    have hbb := h.b
    rw [bkL_c] at hbb
    have hl : (bkL (r2 :: rs) ++ [D.ref r.1]).length = rs.length + 2 := by simp [bkL]
    walk_at "go"
    rw [ht]
    walk_at "go"
    rw [hbb]
    walk_at "go"
    try rw [hl]
    rw [if_pos (by simp [bkL]; omega)]
    walk_at "go"
    rw [ht]
    walk_at "go"
    rw [hbb]
    walk_at "go"
    rw [hc]
    walk_at "go"
    have hQ' : rsQ 0 (.error (c', "a closing bracket") : Rs (Pt × List Nm)) E M0 fun x => ∀ L, Q (.tup [ptD x.1, .tup (x.2.map nmD)]) (M0 ++ L) := by
      have := hQ
      unfold whB at this
      dsimp only at this
      rw [hx] at this
      exact this
    exact br_er h hQ' rfl
  | [o], [r], _, _, h, hQ, hb, hb' =>
    obtain ⟨ho, _⟩ := h.o.inv
    have y := rne_of h.nd
    have hol := hb.ob o (by simp)
    have hbb := h.b
    rw [bkL_c] at hbb
    have hbb : M[kb]? = some (.lst [.ref r.1]) := hbb
    unfold whB at hQ
    dsimp only at hQ
    walk_at "go"
    rw [ht]
    walk_at "go"
    rw [hbb]
    walk_at "go"
    rw [ht]
    walk_at "go"
    rw [hbb]
    walk_at "go"
    refine ⟨ob_obj ho.c (by decide), ?_⟩
    rw [h1343]
    refine ⟨r.1, r.2.1, r.2.2, o, rfl, ho, y.own.2.2, by omega, by omega, ?_⟩
    have hf := h.bar
    rw [show alD o.cont = .tup [ptD o.cont.1, .int o.cont.2] from rfl]
    have ht2 := hf.t
    rw [tbO_eq] at ht2
    walk_at "go"
    rw [hk39]
    unfold k39
    walk_at "go"
    refine iteI (fun h1 => ?_) fun h1 => ?_
    · rw [if_pos (by omega)] at hQ
      walk_at "go"
      exact br_er hf hQ rfl
    rw [if_neg (by omega)] at hQ
    walk_at "go"
    rw [ht2]
    walk_at "go"
    rw [hk41]
    unfold k41
    walk_at "go"
    refine iteI (fun h2 => ?_) fun h2 => ?_
    · rw [if_pos (show 4 < lk by have : (4 : Int) < (lk : Int) := h2; omega)] at hQ
      walk_at "go"
      exact br_er hf hQ rfl
    rw [if_neg (show ¬ 4 < lk by have : ¬ (4 : Int) < (lk : Int) := h2; omega), rsQ_ok] at hQ
    walk_at "go"
    rw [ht2]
    walk_at "go"
    rw [hf.g]
    walk_at "go"
    exact .keep (pre_q hf.pre hQ)
abbrev c1056_4 : CSs := .cons (.raise "FlagsError" (.str "unknown flags")) .nil
abbrev c1056_5 : CSs := .cons (.expr (.meth "TreeBuilder" "take" 1191 (.var 2) (.cons (.var 3) .nil))) .nil
abbrev c1056_3 : CSs := .cons (.ret (.meth "TreeBuilder" "whole_tree" 1192 (.var 2) .nil)) .nil
abbrev c1056_2 : CSs := .cons (.fors (.nm 3) (.seq (.call 1190 (.cons (.var 0) (.cons (.var 1) .nil)))) c1056_5) c1056_3
abbrev c1056_1 : CSs := .cons (.set 2 (.make true 1189 "TreeBuilder" .nil)) c1056_2
abbrev c1056 : CSs := .cons (.ifs (.cmp .nin (.var 1) (.glob 16)) c1056_4 .nil) c1056_1
def flN (w : List Nat) : Prop := w ∉ [[], [105], [109], [115], [105, 109], [105, 115], [109, 115], [105, 109, 115]]
def sp1056 : SpD := fun ds M Q E => ∃ (cs w : List Nat), ds = [.str (tx cs), .str (tx w)] ∧ ((flN w ∧ ∀ L, E ⟨"FlagsError", none⟩ (M ++ L)) ∨ (SrcOk cs ∧ ∃ f : Fl, w = f.t ∧ rsQ 0 (rdP cs f) E M fun x => Q (.tup [ptD x.1, .tup (x.2.map nmD)]) M))
theorem ln1056 : ∀ ds M Q E, sp1056 ds M Q E → ds.length = 2 := by
  rintro _ _ _ _ ⟨_, _, rfl, _⟩; rfl
theorem fl_in (f : Fl) : ((([[], [105], [109], [115], [105, 109], [105, 115], [109, 115], [105, 109, 115]] : List (List Nat)).map fun l => D.str (tx l)).any fun d => eqF d (.str (tx f.t))) = true := by
  obtain ⟨a, b, c⟩ := f
  refine List.any_eq_true.mpr ⟨.str (tx (Fl.t ⟨a, b, c⟩)), List.mem_map.mpr ⟨_, ?_, rfl⟩, by simp [eqF]⟩
  cases a <;> cases b <;> cases c <;> simp [Fl.t]
theorem fl_out {w : List Nat} (h : flN w) : ((([[], [105], [109], [115], [105, 109], [105, 115], [109, 115], [105, 109, 115]] : List (List Nat)).map fun l => D.str (tx l)).any fun d => eqF d (.str (tx w))) = false := by
  refine List.any_eq_false.mpr fun d hd he => h ?_
  obtain ⟨x, hx, rfl⟩ := List.mem_map.mp hd
  have e : tx x = tx w := by simpa [eqF] using he
  rw [← tx_inj e]
  exact hx
theorem k16_eq : k16 = .tup ((([[], [105], [109], [115], [105, 109], [105, 115], [109, 115], [105, 109, 115]] : List (List Nat)).map fun l => D.str (tx l))) := by
  unfold k16
  simp only [List.map_cons, List.map_nil]
  rfl
theorem tksR_ok {cs : List Nat} (hs : SrcOk cs) {f : Fl} : ∀ (n i : Nat) (acc l : List (Nat × Tk)), tksR cs f n i acc = .ok l → i ≤ cs.length → acc.length ≤ i → (∀ x ∈ acc, x.2.ok) → l.length ≤ cs.length ∧ ∀ x ∈ l, x.2.ok
  | 0, _, _, _, h, _, _, _ => by cases h
  | n + 1, i, acc, l, h, hi, ha, ho => by
    rw [tksR_s] at h
    cases hc : cs[i]? with
    | none => rw [hc] at h; cases h; exact ⟨by omega, ho⟩
    | some c =>
      have hl := (List.getElem?_eq_some_iff.mp hc).1
      rw [hc] at h
      dsimp only at h
      cases hr : tkR cs f i with
      | error e => rw [hr] at h; cases h
      | ok x =>
        obtain ⟨t, j⟩ := x
        rw [hr] at h
        dsimp only at h
        obtain ⟨a1, a2, a3⟩ := tkR_ok hs hr
        refine tksR_ok hs n j _ l h a2 (by rw [List.length_append, List.length_singleton]; omega) ?_
        intro x hx
        rcases List.mem_append.mp hx with hx | hx
        · exact ho x hx
        · rw [List.mem_singleton.mp hx]; exact a3
theorem nr_pat (x : Pt × List Nm) : noRef (.tup [ptD x.1, .tup (x.2.map nmD)]) = true := by
  have h1 : noRefs (x.2.map nmD) = true := noRefs_map fun n _ => by cases n <;> rfl
  have h2 : noRef (ptD x.1) = true := nr_pt _
  simp only [noRef, noRefs, h1, h2, Bool.and_self]
theorem rd1056 {Φ : Nat → SpD} {κ : Nat → D} (h1189 : Φ 1189 = sp1189) (h1190 : Φ 1190 = sp1190) (h1191 : Φ 1191 = sp1191) (h1192 : Φ 1192 = sp1192) (hk16 : κ 16 = k16) : RdOk Φ κ c1056 4 (sp1056) := by
  rintro ds M Q E hM hd ⟨cs, w, rfl, hQ⟩
  walk_at "go"
  rw [hk16, k16_eq, cp_nin_tup rfl rfl]
  rcases hQ with ⟨hw, hE⟩ | ⟨hs, f, rfl, hQ⟩
  · rw [fl_out hw]
    walk_at "go"
    exact er0 hE
  have hsl := hs.len
  rw [fl_in]
  walk_at "go"
  rw [h1189]
  refine ⟨M, rfl, rfl, ?_⟩
  walk_at "go"
  rw [h1190]
  refine ⟨cs, f, rfl, hs, ?_⟩
  unfold rdP at hQ
  cases hr : tksR cs f (cs.length + 1) 0 [] with
  | error e =>
    rw [hr] at hQ
    intro L
    rw [Nat.zero_add, List.append_assoc]
    exact rs0 hQ rfl _
  | ok l =>
    rw [hr] at hQ
    dsimp only at hQ
    rw [rsQ_ok]
    walk_at "go"
    obtain ⟨hll, hlo⟩ := tksR_ok hs _ _ _ _ hr (Nat.zero_le _) (Nat.zero_le _) (fun x hx => by cases hx)
    have hnr := nr_pat
    refine for_list [3] (fun r js M' => ∃ (s : BS) (rs : List (Nat × Nat × Nat)) (n : Nat) (x3 : Option D), js = [x3] ∧ BR M M' M.length (M.length + 4) (M.length + 5) rs s ∧ BOk n s ∧ BOk' s ∧ n + r.length ≤ 100000 ∧ (∀ y ∈ r, y.2.ok) ∧ bdR l ⟨[⟨none, .non, [], []⟩], [], 0⟩ = bdR r s)
      ⟨[_], rfl, _, _, 0, _, rfl, br0, bok0, bok0', by omega, hlo, rfl⟩ ?_ ?_
    · rintro y r js M' nx ⟨s, rs, n, x3, rfl, h, hb, hb', hn, hy, hbd⟩ hnx
      rw [bdR_c] at hbd
      rw [List.length_cons] at hn
      have hyo := hy y (List.mem_cons_self ..)
      walk_at "go"
      refine ⟨tb_obj h.t (by decide), ?_⟩
      rw [h1191]
      refine ⟨M, M.length, _, _, rs, s, n, y.1, y.2, rfl, h, hb, hb', by omega, hyo, ?_⟩
      cases ht : tkB y.1 y.2 s with
      | error e =>
        rw [ht] at hbd
        rw [hbd] at hQ
        intro L
        rw [Nat.zero_add]
        exact rs0 hQ rfl _
      | ok s' =>
        rw [ht] at hbd
        rw [rsQ_ok]
        intro M2 rs2 h2
        obtain ⟨b1, b2⟩ := tkB_ok hb hb' hyo ht
        exact hnx [_] _ ⟨s', rs2, n + 1, _, rfl, h2, b1, b2, by omega, fun z hz => hy z (List.mem_cons_of_mem _ hz), hbd⟩
    · rintro js M' ⟨s, rs, n, x3, rfl, h, hb, hb', hn, hy, hbd⟩
      rw [hbd] at hQ
      have hQ : rsQ 0 (whB s) E M fun x => Q (.tup [ptD x.1, .tup (x.2.map nmD)]) M := hQ
      walk_at "go"
      refine ⟨tb_obj h.t (by decide), ?_⟩
      rw [h1192]
      refine ⟨M, M.length, _, _, rs, s, n, rfl, h, hb, hb', by simpa using hn, ?_⟩
      cases hw : whB s with
      | error e => rw [hw] at hQ; exact hQ
      | ok x =>
        rw [hw, rsQ_ok] at hQ
        rw [rsQ_ok]
        intro L
        exact Fin.val rfl hM (hnr x) hQ
/-- what an escape makes -/
noncomputable def Esc.t (f : Fl) : Esc → Pt
  | .code k => .set (cdT f k)
  | .anc s => .anchor s
  | .set ps => .set ps
inductive Rds (cs : List Nat) (f : Fl) : Nat → List Tk → Nat → Prop
  | nil {i : Nat} : Rds cs f i [] i
  | cons {i j k : Nat} {t : Tk} {ts : List Tk} : tkR cs f i = .ok (t, j) → Rds cs f j ts k → Rds cs f i (t :: ts) k
theorem Rds.one {cs : List Nat} {f : Fl} {i j : Nat} {t : Tk} (h : tkR cs f i = .ok (t, j)) : Rds cs f i [t] j := .cons h .nil
def Pt.isRep : Pt → Bool
  | .rep _ _ _ _ => true
  | _ => false
/-- how deep brackets stand within one another -/
def Pt.dp : Pt → Nat
  | .seq a b => max a.dp b.dp + 1
  | .alt a b => max a.dp b.dp + 1
  | .rep t _ _ _ => if t.isRep = true then t.dp + 1 else t.dp
  | .grp _ t => t.dp + 1
  | .look _ _ t _ => t.dp + 1
  | .empty => 1
  | _ => 0
/-- the tokens ts lead from s to s', wherever they stand -/
def Bds (ts : List Tk) (s s' : BS) : Prop := ∀ l : List (Nat × Tk), l.map (·.2) = ts → bdR l s = .ok s'
theorem Bds.nil {s : BS} : Bds [] s s := by
  intro l hl
  rw [List.map_eq_nil_iff.mp hl]
  rfl
theorem Bds.cons {t : Tk} {ts : List Tk} {s1 s3 : BS} (h : ∀ c, ∃ s2, tkB c t s1 = .ok s2 ∧ Bds ts s2 s3) : Bds (t :: ts) s1 s3 := by
  intro l hl
  cases l with
  | nil => cases hl
  | cons x l =>
    obtain ⟨e1, e2⟩ := List.cons.inj hl
    obtain ⟨s2, h1, h2⟩ := h x.1
    rw [bdR_c, show x.2 = t from e1, h1]
    exact h2 l e2
theorem Bds.one {t : Tk} {s1 s2 : BS} (h : ∀ c, tkB c t s1 = .ok s2) : Bds [t] s1 s2 := Bds.cons fun c => ⟨s2, h c, .nil⟩
def shE {α : Type} (n : Nat) : Rs (α × Nat) → Rs (α × Nat)
  | .ok x => .ok (x.1, n + x.2)
  | .error e => .error (n + e.1, e.2)
theorem sh_at {pre cs : List Nat} {j : Nat} : (pre ++ cs)[pre.length + j]? = cs[j]? := by
  rw [List.getElem?_append_right (by omega)]
  congr 1; omega
theorem sh_drop {pre cs : List Nat} {j : Nat} : (pre ++ cs).drop (pre.length + j) = cs.drop j := by
  rw [← List.drop_drop, List.drop_left]
theorem escR_pos {r : List Nat} {x : Esc} {n : Nat} (h : escR r = .ok (x, n)) : 1 ≤ n := by
  unfold escR at h
  repeat' split at h
  all_goals first | (cases h; omega) | cases h
theorem itR_pos {r : List Nat} {q : List (Int × Int)} {s : Option Nat} {n : Nat} (h : itR r = .ok (q, s, n)) : 1 ≤ n := by
  unfold itR at h
  split at h
  · cases h
  · split at h
    · cases he : escR _ with
      | error e => rw [he] at h; cases h
      | ok x =>
        obtain ⟨x, m⟩ := x
        rw [he] at h
        have := escR_pos he
        cases x <;> cases h <;> exact this
    · cases h; exact Nat.le_refl _
theorem prL_sh {pre cs : List Nat} {cl cl' : Nat → Rs (List (Int × Int) × Nat)} (hcl : ∀ j, cl (pre.length + j) = shE pre.length (cl' j)) (hpos : ∀ j q k, cl' j = .ok (q, k) → j < k) :
    ∀ (f f' j : Nat) (ps : List (Int × Int)) (sg : Option Nat), cs.length - j < f → cs.length - j < f' → prL (pre ++ cs) cl f (pre.length + j) ps sg = shE pre.length (prL cs cl' f' j ps sg)
  | 0, _, _, _, _, h, _ => by omega
  | _, 0, _, _, _, _, h => by omega
  | f + 1, f' + 1, j, ps, sg, h, h' => by
    rw [prL_s, prL_s, sh_at, sh_drop]
    cases hc : cs[j]? with
    | none => show Except.error _ = Except.error _; rw [Nat.add_assoc]
    | some c =>
      have hj := (List.getElem?_eq_some_iff.mp hc).1
      dsimp only
      by_cases h1 : c = 93 ∨ opR (cs.drop j) ≠ none
      · rw [if_pos h1, if_pos h1]; rfl
      rw [if_neg h1, if_neg h1]
      by_cases h2 : c = 91
      · rw [if_pos h2, if_pos h2, hcl]
        cases hq : cl' j with
        | error e => rfl
        | ok x =>
          obtain ⟨q, k⟩ := x
          have := hpos j q k hq
          exact prL_sh hcl hpos f f' k _ _ (by omega) (by omega)
      rw [if_neg h2, if_neg h2]
      by_cases h3 : c ≠ 45
      · rw [if_pos h3, if_pos h3]
        cases hq : itR (cs.drop j) with
        | error e => show Except.error _ = Except.error _; rw [Nat.add_assoc]
        | ok x =>
          obtain ⟨q, s, n⟩ := x
          have := itR_pos hq
          dsimp only
          rw [Nat.add_assoc]
          exact prL_sh hcl hpos f f' (j + n) _ _ (by omega) (by omega)
      rw [if_neg h3, if_neg h3]
      cases sg with
      | none => show Except.error _ = Except.error _; rw [Nat.add_assoc]
      | some k =>
        dsimp only
        rw [Nat.add_assoc, sh_drop]
        cases hq : enR (cs.drop (j + 1)) k with
        | error e => show Except.error _ = Except.error _; congr 2; omega
        | ok x =>
          obtain ⟨l, n⟩ := x
          dsimp only
          rw [Nat.add_assoc]
          exact prL_sh hcl hpos f f' (j + 1 + n) _ _ (by omega) (by omega)
def shT {α β : Type} (n : Nat) : Rs (α × β × Nat) → Rs (α × β × Nat)
  | .ok x => .ok (x.1, x.2.1, n + x.2.2)
  | .error e => .error (n + e.1, e.2)
theorem prR_sh {pre cs : List Nat} {cl cl' : Nat → Rs (List (Int × Int) × Nat)} (hcl : ∀ j, cl (pre.length + j) = shE pre.length (cl' j)) (hpos : ∀ j q k, cl' j = .ok (q, k) → j < k) {fold : Bool} (j : Nat) :
    prR (pre ++ cs) cl fold (pre.length + j) = shT pre.length (prR cs cl' fold j) := by
  unfold prR
  rw [prL_sh hcl hpos ((pre ++ cs).length + 1) (cs.length + 1) j [] none (by rw [List.length_append]; omega) (by omega)]
  cases prL cs cl' (cs.length + 1) j [] none with
  | error e => rfl
  | ok x =>
    obtain ⟨ps, k⟩ := x
    show Except.ok _ = Except.ok _
    dsimp only
    rw [show decide (pre.length + j < pre.length + k) = decide (j < k) from by rw [decide_eq_decide]; omega]
theorem opL_sh {pre cs : List Nat} {pr pr' : Nat → Rs (List (Int × Int) × Bool × Nat)} (hpr : ∀ j, pr (pre.length + j) = shT pre.length (pr' j)) (hpos : ∀ j A b k, pr' j = .ok (A, b, k) → j ≤ k) :
    ∀ (f f' j : Nat) (A : List (Int × Int)), cs.length - j < f → cs.length - j < f' → opL (pre ++ cs) pr f (pre.length + j) A = shE pre.length (opL cs pr' f' j A)
  | 0, _, _, _, h, _ => by omega
  | _, 0, _, _, _, h => by omega
  | f + 1, f' + 1, j, A, h, h' => by
    rw [opL_s, opL_s, sh_drop]
    cases ho : opR (cs.drop j) with
    | none => rfl
    | some o =>
      have hj : j < cs.length := by
        refine Nat.lt_of_not_le fun z => ?_
        rw [List.drop_eq_nil_of_le z] at ho
        cases ho
      dsimp only
      rw [Nat.add_assoc, hpr]
      cases hq : pr' (j + 2) with
      | error e => rfl
      | ok x =>
        obtain ⟨B, fl, k⟩ := x
        have := hpos _ _ _ _ hq
        show (if fl = true then _ else _) = _
        dsimp only
        cases fl with
        | false => show Except.error _ = Except.error _; rw [Nat.add_assoc]
        | true =>
          rw [if_pos rfl, if_pos rfl]
          exact opL_sh hpr hpos f f' k _ (by omega) (by omega)
theorem clR_sh {pre cs : List Nat} (hs : SrcOk cs) {fold : Bool} : ∀ d j, clR (pre ++ cs) fold d (pre.length + j) = shE pre.length (clR cs fold d j)
  | 0, j => by show Except.error _ = Except.error _; rw [Nat.add_assoc]
  | d + 1, j => by
    have hcl := clR_sh (pre := pre) (fold := fold) hs d
    have hp1 : ∀ j q k, clR cs fold d j = .ok (q, k) → j < k := fun j q k h => (clR_ok hs d j q k h).1
    have hpr : ∀ j, prR (pre ++ cs) (clR (pre ++ cs) fold d) fold (pre.length + j) = shT pre.length (prR cs (clR cs fold d) fold j) := fun j => prR_sh hcl hp1 j
    unfold clR
    rw [Nat.add_assoc pre.length, sh_at, Nat.add_assoc pre.length, hpr]
    cases hq : prR cs (clR cs fold d) fold (j + 1 + if cs[j + 1]? = some 94 then 1 else 0) with
    | error e => rfl
    | ok x =>
      obtain ⟨A, fl, k⟩ := x
      dsimp only [shT]
      rw [sh_drop]
      by_cases h1 : opR (cs.drop k) ≠ none ∧ fl = false
      · rw [if_pos h1, if_pos h1]; show Except.error _ = Except.error _; rw [Nat.add_assoc]
      rw [if_neg h1, if_neg h1, opL_sh hpr (fun j A b k h => (prR_ok hs (clR_ok hs d) h).1) ((pre ++ cs).length + 1) (cs.length + 1) k A (by rw [List.length_append]; omega) (by omega)]
      cases opL cs (prR cs (clR cs fold d) fold) (cs.length + 1) k A with
      | error e => rfl
      | ok x => rfl
theorem elR_sh {pre cs : List Nat} (hs : SrcOk cs) {f : Fl} (j : Nat) : elR (pre ++ cs) f (pre.length + j) = shE pre.length (elR cs f j) := by
  unfold elR
  rw [sh_at, sh_drop, clR_sh hs]
  cases cs[j]? with
  | none => rfl
  | some c =>
    dsimp only
    by_cases h1 : c = 46
    · rw [if_pos h1, if_pos h1]; rfl
    rw [if_neg h1, if_neg h1]
    by_cases h2 : c = 94 ∨ c = 36
    · rw [if_pos h2, if_pos h2]; rfl
    rw [if_neg h2, if_neg h2]
    by_cases h3 : c = 91
    · rw [if_pos h3, if_pos h3]
      cases clR cs f.i 4 j <;> rfl
    rw [if_neg h3, if_neg h3]
    by_cases h4 : c = 92
    · rw [if_pos h4, if_pos h4]
      cases escR (cs.drop j) with
      | error e => show Except.error _ = Except.error _; rw [Nat.add_assoc]
      | ok x =>
        obtain ⟨x, n⟩ := x
        cases x <;> (show Except.ok _ = Except.ok _; rw [Nat.add_assoc])
    rw [if_neg h4, if_neg h4]
    rfl
theorem nmR_sh {pre cs : List Nat} (j : Nat) : nmR (pre ++ cs) (pre.length + j) = shE pre.length (nmR cs j) := by
  unfold nmR nmN
  rw [Nat.add_assoc pre.length, sh_at, sh_drop]
  cases cs[j + 3]? with
  | none => rfl
  | some c =>
    dsimp only
    by_cases h1 : c ≠ 95 ∧ c ∉ leL
    · rw [if_pos h1, if_pos h1]; rfl
    rw [if_neg h1, if_neg h1, Nat.add_assoc pre.length, sh_at]
    by_cases h2 : cs[j + 3 + (((cs.drop (j + 3)).take 20).takeWhile fun c => decide (c ∈ nsL)).length]? = some 62
    · rw [if_pos h2, if_pos h2]; rfl
    rw [if_neg h2, if_neg h2]; rfl
theorem bkR_sh {pre cs : List Nat} (j : Nat) : bkR (pre ++ cs) (pre.length + j) = shE pre.length (bkR cs j) := by
  unfold bkR
  rw [nmR_sh, Nat.add_assoc pre.length, sh_at, Nat.add_assoc pre.length, sh_at, sh_drop]
  by_cases h1 : cs[j + 1]? ≠ some 63
  · rw [if_pos h1, if_pos h1]; rfl
  rw [if_neg h1, if_neg h1]
  cases opnF (cs.drop j) with
  | some x => show Except.ok _ = Except.ok _; rw [Nat.add_assoc]
  | none =>
    dsimp only
    by_cases h2 : cs[j + 2]? ≠ some 60
    · rw [if_pos h2, if_pos h2]; rfl
    rw [if_neg h2, if_neg h2]
    cases nmR cs j <;> rfl
theorem ctR_sh {pre cs : List Nat} : ∀ (f f' j c : Nat), cs.length - j < f → cs.length - j < f' → ctR (pre ++ cs) f (pre.length + j) c = shE pre.length (ctR cs f' j c)
  | 0, _, _, _, h, _ => by omega
  | _, 0, _, _, _, h => by omega
  | f + 1, f' + 1, j, c, h, h' => by
    rw [ctR_s, ctR_s, sh_at]
    cases hc : cs[j]? with
    | none => rfl
    | some d =>
      have hj := (List.getElem?_eq_some_iff.mp hc).1
      dsimp only
      by_cases h1 : d ∈ fiL
      · rw [if_pos h1, if_pos h1]
        by_cases h2 : 50 < 10 * c + (d - 48)
        · rw [if_pos h2, if_pos h2]; rfl
        rw [if_neg h2, if_neg h2, Nat.add_assoc]
        exact ctR_sh f f' (j + 1) _ (by omega) (by omega)
      rw [if_neg h1, if_neg h1]; rfl
theorem cnR_sh {pre cs : List Nat} (j : Nat) : cnR (pre ++ cs) (pre.length + j) = shE pre.length (cnR cs j) := by
  unfold cnR
  rw [ctR_sh ((pre ++ cs).length + 1) (cs.length + 1) j 0 (by rw [List.length_append]; omega) (by omega)]
  cases ctR cs (cs.length + 1) j 0 with
  | error e => rfl
  | ok x =>
    obtain ⟨c, k⟩ := x
    dsimp only [shE]
    by_cases h : k = j
    · rw [if_pos (by omega), if_pos h]
    · rw [if_neg (by omega), if_neg h]
theorem ctsR_sh {pre cs : List Nat} (j : Nat) : ctsR (pre ++ cs) (pre.length + j) = shT pre.length (ctsR cs j) := by
  unfold ctsR
  rw [cnR_sh]
  cases cnR cs j with
  | error e => rfl
  | ok x =>
    obtain ⟨lo, k⟩ := x
    cases lo with
    | none => rfl
    | some lo =>
      dsimp only [shE]
      rw [sh_at]
      by_cases h1 : cs[k]? = some 125
      · rw [if_pos h1, if_pos h1]; rfl
      rw [if_neg h1, if_neg h1]
      by_cases h2 : cs[k]? ≠ some 44
      · rw [if_pos h2, if_pos h2]; rfl
      rw [if_neg h2, if_neg h2, Nat.add_assoc, cnR_sh]
      cases cnR cs (k + 1) with
      | error e => rfl
      | ok x =>
        obtain ⟨hi, m⟩ := x
        dsimp only [shE]
        rw [sh_at]
        by_cases h3 : cs[m]? ≠ some 125
        · rw [if_pos h3, if_pos h3]; rfl
        rw [if_neg h3, if_neg h3]
        cases hi with
        | none => rfl
        | some h =>
          dsimp only
          by_cases h5 : decide (h < lo) = true
          · rw [if_pos h5, if_pos h5]; rfl
          · rw [if_neg h5, if_neg h5]; rfl
theorem rp0_sh {pre cs : List Nat} (j : Nat) : rp0 (pre ++ cs) (pre.length + j) = shT pre.length (rp0 cs j) := by
  unfold rp0
  rw [sh_at, Nat.add_assoc, ctsR_sh]
  cases cs[j]? with
  | none => rfl
  | some c =>
    dsimp only
    by_cases h1 : c = 42
    · rw [if_pos h1, if_pos h1]; rfl
    rw [if_neg h1, if_neg h1]
    by_cases h2 : c = 43
    · rw [if_pos h2, if_pos h2]; rfl
    rw [if_neg h2, if_neg h2]
    by_cases h3 : c = 63
    · rw [if_pos h3, if_pos h3]; rfl
    rw [if_neg h3, if_neg h3]
theorem rpR_sh {pre cs : List Nat} (j : Nat) : rpR (pre ++ cs) (pre.length + j) = shE pre.length (rpR cs j) := by
  unfold rpR
  rw [rp0_sh]
  cases rp0 cs j with
  | error e => rfl
  | ok x =>
    obtain ⟨lo, hi, k⟩ := x
    dsimp only [shT]
    rw [sh_at, Nat.add_assoc]
    rfl
theorem tkR_sh {pre cs : List Nat} (hs : SrcOk cs) {f : Fl} (j : Nat) : tkR (pre ++ cs) f (pre.length + j) = shE pre.length (tkR cs f j) := by
  unfold tkR
  rw [sh_at, bkR_sh, rpR_sh, elR_sh hs]
  cases cs[j]? with
  | none => rfl
  | some c =>
    dsimp only
    by_cases h1 : c = 93 ∨ c = 125
    · rw [if_pos h1, if_pos h1]; rfl
    rw [if_neg h1, if_neg h1]
    by_cases h2 : c = 40
    · rw [if_pos h2, if_pos h2]
      cases bkR cs j <;> rfl
    rw [if_neg h2, if_neg h2]
    by_cases h3 : c ∈ [42, 43, 63, 123]
    · rw [if_pos h3, if_pos h3]
    rw [if_neg h3, if_neg h3]
    by_cases h4 : c = 41
    · rw [if_pos h4, if_pos h4]; rfl
    rw [if_neg h4, if_neg h4]
    by_cases h5 : c = 124
    · rw [if_pos h5, if_pos h5]; rfl
    rw [if_neg h5, if_neg h5]
    cases elR cs f j <;> rfl
theorem tkR_sh0 {pre cs : List Nat} (hs : SrcOk cs) {f : Fl} : tkR (pre ++ cs) f pre.length = shE pre.length (tkR cs f 0) := tkR_sh hs 0
/-- an error behind whole tokens -/
theorem Rds.err {cs : List Nat} {f : Fl} {e : Nat × Str} : ∀ {i j : Nat} {ts : List Tk}, Rds cs f i ts j → tkR cs f j = .error e → j < cs.length → ∀ (n : Nat) (acc : List (Nat × Tk)), ts.length < n → tksR cs f n i acc = .error e := by
  intro i j ts h he hj
  induction h with
  | nil =>
    intro n acc hn
    obtain ⟨n, rfl⟩ : ∃ m, n = m + 1 := ⟨n - 1, by omega⟩
    rw [tksR_s, List.getElem?_eq_getElem hj, he]
  | @cons i j k t ts e1 h ih =>
    intro n acc hn
    obtain ⟨n, rfl⟩ : ∃ m, n = m + 1 := ⟨n - 1, by simp at hn; omega⟩
    rw [tksR_s]
    cases hc : cs[i]? with
    | none =>
      unfold tkR at e1
      rw [hc] at e1
      cases e1
    | some c =>
      dsimp only
      rw [e1]
      exact ih he hj n _ (by simp at hn; omega)
abbrev Pce := List Nat × Nat × Str
abbrev F0 : Fl := ⟨false, false, false⟩
def pcL : List Pce := [([93], 1, "a backslash ahead of this character"), ([125], 1, "a backslash ahead of this character"), ([92, 113], 2, "a known escape"), ([92, 97], 2, "a known escape"), ([92, 90], 2, "a known escape"), ([92, 10], 2, "a known escape"), ([92, 49], 2, "a known escape"), ([92, 120, 56], 3, "a digit from 0 to 7"), ([92, 120, 103], 3, "a digit from 0 to 7"), ([92, 120, 55, 103], 4, "a hexadecimal digit"), ([92, 120, 48, 93], 4, "a hexadecimal digit"), ([40, 63, 97], 3, ": = ! or <"), ([40, 63, 41], 3, ": = ! or <"), ([40, 63, 60, 49], 4, "= ! or a name"), ([40, 63, 60, 62], 4, "= ! or a name"), ([40, 63, 60, 97, 45], 5, "the end of the name"), ([40, 63, 60, 97, 41], 5, "the end of the name"), ([40, 63, 60, 97, 98, 99, 100, 101, 102, 103, 104, 105, 106, 107, 108, 109, 110, 111, 112, 113, 114, 115, 116, 117, 62], 24, "the end of the name"), ([123, 97], 2, "a count"), ([123, 44, 50, 125], 2, "a count"), ([123, 125], 2, "a count"), ([123, 50, 97], 3, "a comma or the end of the count"), ([123, 48, 50, 32, 125], 4, "a comma or the end of the count"), ([123, 50, 44, 97], 4, "the end of the count"), ([123, 50, 44, 51, 44], 5, "the end of the count"), ([123, 53, 49], 3, "a count up to 50"), ([123, 48, 53, 48, 48, 125], 5, "a count up to 50"), ([123, 51, 44, 53, 49], 5, "a count up to 50"), ([123, 51, 44, 50, 125], 5, "a count not less than the first"), ([123, 53, 48, 44, 48, 52, 57, 125], 8, "a count not less than the first")]
def enL : List Pce := [([92], 2, "a character behind the backslash"), ([92, 120], 3, "a digit from 0 to 7"), ([92, 120, 55], 4, "a hexadecimal digit"), ([40, 63], 3, ": = ! or <"), ([40, 63, 60], 4, "= ! or a name"), ([40, 63, 60, 97], 5, "the end of the name"), ([91], 2, "the end of the class"), ([91, 94], 3, "the end of the class"), ([91, 97, 45], 4, "the end of the class"), ([91, 97, 38, 38], 5, "the end of the class"), ([123], 2, "a count"), ([123, 50], 3, "a comma or the end of the count"), ([123, 50, 44], 4, "the end of the count"), ([123, 50, 44, 51], 5, "the end of the count"), ([91, 91, 97, 93], 5, "the end of the class")]
def icL : List Pce := [([45, 97, 93], 1, "a backslash ahead of this character"), ([97, 45, 99, 45, 101, 93], 4, "a backslash ahead of this character"), ([92, 100, 45, 97, 93], 3, "a backslash ahead of this character"), ([92, 65, 93], 2, "a known escape"), ([92, 98, 93], 2, "a known escape"), ([97, 92, 122, 93], 3, "a known escape"), ([92, 120, 57, 93], 3, "a digit from 0 to 7"), ([97, 45, 93], 3, "a character behind the hyphen"), ([97, 45, 91, 98, 93, 93], 3, "a character behind the hyphen"), ([97, 45, 38, 38, 98, 93], 3, "a character behind the hyphen"), ([97, 45, 92, 87, 93], 3, "a character behind the hyphen"), ([98, 45, 97, 93], 3, "a character not less than the first"), ([98, 45, 92, 120, 54, 49, 93], 3, "a character not less than the first"), ([97, 45, 92, 113, 93], 4, "a known escape"), ([38, 38, 97, 93], 1, "something ahead of the operator"), ([45, 45, 97, 93], 1, "something ahead of the operator"), ([97, 38, 38, 93], 4, "something behind the operator"), ([97, 45, 45, 45, 45, 98, 93], 4, "something behind the operator"), ([97, 45, 45, 38, 38, 98, 93], 4, "something behind the operator"), ([91, 93, 38, 38, 93], 5, "something behind the operator"), ([91, 91, 91, 97, 91], 5, "less nesting"), ([91, 98, 93, 91, 91, 91, 91], 7, "less nesting")]
def mnL : List (List Nat) := [[92, 93], [92, 125], [92, 110], [92, 120, 55, 102], [40, 63, 58, 41], [40, 63, 61, 41], [40, 63, 33, 41], [40, 63, 60, 61, 41], [40, 63, 60, 33, 41], [40, 63, 60, 97, 62, 41], [40, 63, 60, 95, 62, 41], [91, 97, 93], [91, 94, 93], [40, 63, 60, 97, 98, 99, 100, 101, 102, 103, 104, 105, 106, 107, 108, 109, 110, 111, 112, 113, 114, 115, 116, 62, 41], [97, 123, 50, 125], [97, 123, 53, 48, 125], [97, 123, 50, 44, 125], [97, 123, 50, 44, 51, 125], [97, 123, 48, 48, 48, 125], [91, 97, 45, 122, 45, 45, 98, 45, 100, 38, 38, 91, 94, 113, 93, 93], [91, 91, 91, 91, 93, 93, 93, 93], [91, 97, 92, 45, 99, 93], [91, 97, 45, 92, 120, 54, 49, 93], [91, 92, 45, 45, 97, 93], [91, 38, 93], [91, 33, 45, 38, 93], [91, 97, 38, 98, 93], [91, 40, 63, 41, 123, 125, 94, 36, 124, 46, 42, 43, 93], [91, 93], [91, 32, 45, 126, 93]]
def AllE (o : List Nat) (r : List Nat) : List Pce → Prop
  | [] => True
  | x :: l => tkR (o ++ (x.1 ++ r)) F0 0 = .error (o.length + x.2.1, x.2.2) ∧ AllE o r l
theorem AllE.at {o r : List Nat} : ∀ {l : List Pce}, AllE o r l → ∀ {k : Nat} {x : Pce}, l[k]? = some x → tkR (o ++ (x.1 ++ r)) F0 0 = .error (o.length + x.2.1, x.2.2)
  | [], _, _, _, h => by cases h
  | _ :: _, ⟨a, _⟩, 0, _, h => by cases h; exact a
  | _ :: _, ⟨_, b⟩, _ + 1, _, h => AllE.at b h
theorem pc_err (r : List Nat) : AllE [] r pcL := ⟨rfl, rfl, rfl, rfl, rfl, rfl, rfl, rfl, rfl, rfl, rfl, rfl, rfl, rfl, rfl, rfl, rfl, rfl, rfl, rfl, rfl, rfl, rfl, rfl, rfl, rfl, rfl, rfl, rfl, rfl, trivial⟩
theorem en_err : AllE [] [] enL := ⟨rfl, rfl, rfl, rfl, rfl, rfl, rfl, rfl, rfl, rfl, rfl, rfl, rfl, rfl, rfl, trivial⟩
theorem ic_err1 (r : List Nat) : AllE [91] r icL := ⟨rfl, rfl, rfl, rfl, rfl, rfl, rfl, rfl, rfl, rfl, rfl, rfl, rfl, rfl, rfl, rfl, rfl, rfl, rfl, rfl, rfl, rfl, trivial⟩
theorem ic_err2 (r : List Nat) : AllE [91, 94] r icL := ⟨rfl, rfl, rfl, rfl, rfl, rfl, rfl, rfl, rfl, rfl, rfl, rfl, rfl, rfl, rfl, rfl, rfl, rfl, rfl, rfl, rfl, rfl, trivial⟩
theorem ic_err3 (r : List Nat) : AllE [91, 113, 38, 38, 91] r (icL.take 20) := ⟨rfl, rfl, rfl, rfl, rfl, rfl, rfl, rfl, rfl, rfl, rfl, rfl, rfl, rfl, rfl, rfl, rfl, rfl, rfl, rfl, trivial⟩
def okR {α : Type} : Rs α → Bool
  | .ok _ => true
  | .error _ => false
theorem mn_ok : ∀ x ∈ mnL, okR (rdP x F0) = true := by
  have h : ∀ l : List (List Nat), (l.all fun x => okR (rdP x F0)) = true → ∀ x ∈ l, okR (rdP x F0) = true := fun l h => List.all_eq_true.mp h
  exact h mnL rfl
def pcD (x : Pce) : D := .tup [.str (tx x.1), .int x.2.1, .str x.2.2]
abbrev c139_6 : CSs := .cons (.ret (.bin .add (.var 0) (.lst false (.cons (.tup (.cons (.str "{2,3") (.cons (.int 5) (.cons (.str "the end of the count") .nil)))) (.cons (.tup (.cons (.str "[[a]") (.cons (.int 5) (.cons (.str "the end of the class") .nil)))) .nil))))) .nil
abbrev c139_5 : CSs := .cons (.set 0 (.bin .add (.var 0) (.lst false (.cons (.tup (.cons (.str "{2") (.cons (.int 3) (.cons (.str "a comma or the end of the count") .nil)))) (.cons (.tup (.cons (.str "{2,") (.cons (.int 4) (.cons (.str "the end of the count") .nil)))) .nil))))) c139_6
abbrev c139_4 : CSs := .cons (.set 0 (.bin .add (.var 0) (.lst false (.cons (.tup (.cons (.str "[a&&") (.cons (.int 5) (.cons (.str "the end of the class") .nil)))) (.cons (.tup (.cons (.str "{") (.cons (.int 2) (.cons (.str "a count") .nil)))) .nil))))) c139_5
abbrev c139_3 : CSs := .cons (.set 0 (.bin .add (.var 0) (.lst false (.cons (.tup (.cons (.str "[^") (.cons (.int 3) (.cons (.str "the end of the class") .nil)))) (.cons (.tup (.cons (.str "[a-") (.cons (.int 4) (.cons (.str "the end of the class") .nil)))) .nil))))) c139_4
abbrev c139_2 : CSs := .cons (.set 0 (.bin .add (.var 0) (.lst false (.cons (.tup (.cons (.str "(?<a") (.cons (.int 5) (.cons (.str "the end of the name") .nil)))) (.cons (.tup (.cons (.str "[") (.cons (.int 2) (.cons (.str "the end of the class") .nil)))) .nil))))) c139_3
abbrev c139_1 : CSs := .cons (.set 0 (.bin .add (.var 0) (.lst false (.cons (.tup (.cons (.str "\\x7") (.cons (.int 4) (.cons (.str "a hexadecimal digit") .nil)))) (.cons (.tup (.cons (.str "(?") (.cons (.int 3) (.cons (.str ": = ! or <") .nil)))) (.cons (.tup (.cons (.str "(?<") (.cons (.int 4) (.cons (.str "= ! or a name") .nil)))) .nil)))))) c139_2
abbrev c139 : CSs := .cons (.set 0 (.lst false (.cons (.tup (.cons (.str "\\") (.cons (.int 2) (.cons (.str "a character behind the backslash") .nil)))) (.cons (.tup (.cons (.str "\\x") (.cons (.int 3) (.cons (.str "a digit from 0 to 7") .nil)))) .nil)))) c139_1
def q139 : List (Str × Int × Str) := [("\\", 2, "a character behind the backslash"), ("\\x", 3, "a digit from 0 to 7"), ("\\x7", 4, "a hexadecimal digit"), ("(?", 3, ": = ! or <"), ("(?<", 4, "= ! or a name"), ("(?<a", 5, "the end of the name"), ("[", 2, "the end of the class"), ("[^", 3, "the end of the class"), ("[a-", 4, "the end of the class"), ("[a&&", 5, "the end of the class"), ("{", 2, "a count"), ("{2", 3, "a comma or the end of the count"), ("{2,", 4, "the end of the count"), ("{2,3", 5, "the end of the count"), ("[[a]", 5, "the end of the class")]
theorem e139 : (q139.map fun x => D.tup [.str x.1, .int x.2.1, .str x.2.2]) = enL.map pcD := by
  have h : q139 = enL.map fun x => (tx x.1, (x.2.1 : Int), x.2.2) := by decide +kernel
  rw [h, List.map_map]; rfl
def sp139 : SpD := fun ds M Q _ => ds = [] ∧ Q (.lst (enL.map pcD)) M
theorem ln139 : ∀ ds M Q E, sp139 ds M Q E → ds.length = 0 := by
  rintro _ _ _ _ ⟨rfl, _⟩; rfl
theorem rd139 {Φ : Nat → SpD} {κ : Nat → D} : RdOk Φ κ c139 1 (sp139) := by
  rintro ds M Q E hM hd ⟨rfl, hQ⟩
  rw [← e139] at hQ
  walk_at "go"
  exact .keep hQ
abbrev c140_10 : CSs := .cons (.ret (.bin .add (.var 0) (.lst false (.cons (.tup (.cons (.str "[[[a[") (.cons (.int 5) (.cons (.str "less nesting") .nil)))) (.cons (.tup (.cons (.str "[b][[[[") (.cons (.int 7) (.cons (.str "less nesting") .nil)))) .nil))))) .nil
abbrev c140_9 : CSs := .cons (.set 0 (.bin .add (.var 0) (.lst false (.cons (.tup (.cons (.str "a--&&b]") (.cons (.int 4) (.cons (.str "something behind the operator") .nil)))) (.cons (.tup (.cons (.str "[]&&]") (.cons (.int 5) (.cons (.str "something behind the operator") .nil)))) .nil))))) c140_10
abbrev c140_8 : CSs := .cons (.set 0 (.bin .add (.var 0) (.lst false (.cons (.tup (.cons (.str "a&&]") (.cons (.int 4) (.cons (.str "something behind the operator") .nil)))) (.cons (.tup (.cons (.str "a----b]") (.cons (.int 4) (.cons (.str "something behind the operator") .nil)))) .nil))))) c140_9
abbrev c140_7 : CSs := .cons (.set 0 (.bin .add (.var 0) (.lst false (.cons (.tup (.cons (.str "&&a]") (.cons (.int 1) (.cons (.str "something ahead of the operator") .nil)))) (.cons (.tup (.cons (.str "--a]") (.cons (.int 1) (.cons (.str "something ahead of the operator") .nil)))) .nil))))) c140_8
abbrev c140_6 : CSs := .cons (.set 0 (.bin .add (.var 0) (.lst false (.cons (.tup (.cons (.str "b-\\x61]") (.cons (.int 3) (.cons (.str "a character not less than the first") .nil)))) (.cons (.tup (.cons (.str "a-\\q]") (.cons (.int 4) (.cons (.str "a known escape") .nil)))) .nil))))) c140_7
abbrev c140_5 : CSs := .cons (.set 0 (.bin .add (.var 0) (.lst false (.cons (.tup (.cons (.str "b-a]") (.cons (.int 3) (.cons (.str "a character not less than the first") .nil)))) .nil)))) c140_6
abbrev c140_4 : CSs := .cons (.set 0 (.bin .add (.var 0) (.lst false (.cons (.tup (.cons (.str "a-&&b]") (.cons (.int 3) (.cons (.str "a character behind the hyphen") .nil)))) (.cons (.tup (.cons (.str "a-\\W]") (.cons (.int 3) (.cons (.str "a character behind the hyphen") .nil)))) .nil))))) c140_5
abbrev c140_3 : CSs := .cons (.set 0 (.bin .add (.var 0) (.lst false (.cons (.tup (.cons (.str "a-]") (.cons (.int 3) (.cons (.str "a character behind the hyphen") .nil)))) (.cons (.tup (.cons (.str "a-[b]]") (.cons (.int 3) (.cons (.str "a character behind the hyphen") .nil)))) .nil))))) c140_4
abbrev c140_2 : CSs := .cons (.set 0 (.bin .add (.var 0) (.lst false (.cons (.tup (.cons (.str "\\b]") (.cons (.int 2) (.cons (.str "a known escape") .nil)))) (.cons (.tup (.cons (.str "a\\z]") (.cons (.int 3) (.cons (.str "a known escape") .nil)))) (.cons (.tup (.cons (.str "\\x9]") (.cons (.int 3) (.cons (.str "a digit from 0 to 7") .nil)))) .nil)))))) c140_3
abbrev c140_1 : CSs := .cons (.set 0 (.bin .add (.var 0) (.lst false (.cons (.tup (.cons (.str "\\d-a]") (.cons (.int 3) (.cons (.str "a backslash ahead of this character") .nil)))) (.cons (.tup (.cons (.str "\\A]") (.cons (.int 2) (.cons (.str "a known escape") .nil)))) .nil))))) c140_2
abbrev c140 : CSs := .cons (.set 0 (.lst false (.cons (.tup (.cons (.str "-a]") (.cons (.int 1) (.cons (.str "a backslash ahead of this character") .nil)))) (.cons (.tup (.cons (.str "a-c-e]") (.cons (.int 4) (.cons (.str "a backslash ahead of this character") .nil)))) .nil)))) c140_1
def q140 : List (Str × Int × Str) := [("-a]", 1, "a backslash ahead of this character"), ("a-c-e]", 4, "a backslash ahead of this character"), ("\\d-a]", 3, "a backslash ahead of this character"), ("\\A]", 2, "a known escape"), ("\\b]", 2, "a known escape"), ("a\\z]", 3, "a known escape"), ("\\x9]", 3, "a digit from 0 to 7"), ("a-]", 3, "a character behind the hyphen"), ("a-[b]]", 3, "a character behind the hyphen"), ("a-&&b]", 3, "a character behind the hyphen"), ("a-\\W]", 3, "a character behind the hyphen"), ("b-a]", 3, "a character not less than the first"), ("b-\\x61]", 3, "a character not less than the first"), ("a-\\q]", 4, "a known escape"), ("&&a]", 1, "something ahead of the operator"), ("--a]", 1, "something ahead of the operator"), ("a&&]", 4, "something behind the operator"), ("a----b]", 4, "something behind the operator"), ("a--&&b]", 4, "something behind the operator"), ("[]&&]", 5, "something behind the operator"), ("[[[a[", 5, "less nesting"), ("[b][[[[", 7, "less nesting")]
theorem e140 : (q140.map fun x => D.tup [.str x.1, .int x.2.1, .str x.2.2]) = icL.map pcD := by
  have h : q140 = icL.map fun x => (tx x.1, (x.2.1 : Int), x.2.2) := by decide +kernel
  rw [h, List.map_map]; rfl
def sp140 : SpD := fun ds M Q _ => ds = [] ∧ Q (.lst (icL.map pcD)) M
theorem ln140 : ∀ ds M Q E, sp140 ds M Q E → ds.length = 0 := by
  rintro _ _ _ _ ⟨rfl, _⟩; rfl
theorem rd140 {Φ : Nat → SpD} {κ : Nat → D} : RdOk Φ κ c140 1 (sp140) := by
  rintro ds M Q E hM hd ⟨rfl, hQ⟩
  rw [← e140] at hQ
  walk_at "go"
  exact .keep hQ
abbrev c141_12 : CSs := .cons (.ret (.bin .add (.var 0) (.lst false (.cons (.tup (.cons (.str "{3,2}") (.cons (.int 5) (.cons (.str "a count not less than the first") .nil)))) (.cons (.tup (.cons (.str "{50,049}") (.cons (.int 8) (.cons (.str "a count not less than the first") .nil)))) .nil))))) .nil
abbrev c141_11 : CSs := .cons (.set 0 (.bin .add (.var 0) (.lst false (.cons (.tup (.cons (.str "{3,51") (.cons (.int 5) (.cons (.str "a count up to 50") .nil)))) .nil)))) c141_12
abbrev c141_10 : CSs := .cons (.set 0 (.bin .add (.var 0) (.lst false (.cons (.tup (.cons (.str "{51") (.cons (.int 3) (.cons (.str "a count up to 50") .nil)))) (.cons (.tup (.cons (.str "{0500}") (.cons (.int 5) (.cons (.str "a count up to 50") .nil)))) .nil))))) c141_11
abbrev c141_9 : CSs := .cons (.set 0 (.bin .add (.var 0) (.lst false (.cons (.tup (.cons (.str "{2,a") (.cons (.int 4) (.cons (.str "the end of the count") .nil)))) (.cons (.tup (.cons (.str "{2,3,") (.cons (.int 5) (.cons (.str "the end of the count") .nil)))) .nil))))) c141_10
abbrev c141_8 : CSs := .cons (.set 0 (.bin .add (.var 0) (.lst false (.cons (.tup (.cons (.str "{2a") (.cons (.int 3) (.cons (.str "a comma or the end of the count") .nil)))) (.cons (.tup (.cons (.str "{02 }") (.cons (.int 4) (.cons (.str "a comma or the end of the count") .nil)))) .nil))))) c141_9
abbrev c141_7 : CSs := .cons (.set 0 (.bin .add (.var 0) (.lst false (.cons (.tup (.cons (.str "{a") (.cons (.int 2) (.cons (.str "a count") .nil)))) (.cons (.tup (.cons (.str "{,2}") (.cons (.int 2) (.cons (.str "a count") .nil)))) (.cons (.tup (.cons (.str "{}") (.cons (.int 2) (.cons (.str "a count") .nil)))) .nil)))))) c141_8
abbrev c141_6 : CSs := .cons (.set 0 (.bin .add (.var 0) (.lst false (.cons (.tup (.cons (.str "(?<a)") (.cons (.int 5) (.cons (.str "the end of the name") .nil)))) (.cons (.tup (.cons (.str "(?<abcdefghijklmnopqrstu>") (.cons (.int 24) (.cons (.str "the end of the name") .nil)))) .nil))))) c141_7
abbrev c141_5 : CSs := .cons (.set 0 (.bin .add (.var 0) (.lst false (.cons (.tup (.cons (.str "(?<1") (.cons (.int 4) (.cons (.str "= ! or a name") .nil)))) (.cons (.tup (.cons (.str "(?<>") (.cons (.int 4) (.cons (.str "= ! or a name") .nil)))) (.cons (.tup (.cons (.str "(?<a-") (.cons (.int 5) (.cons (.str "the end of the name") .nil)))) .nil)))))) c141_6
abbrev c141_4 : CSs := .cons (.set 0 (.bin .add (.var 0) (.lst false (.cons (.tup (.cons (.str "\\x0]") (.cons (.int 4) (.cons (.str "a hexadecimal digit") .nil)))) (.cons (.tup (.cons (.str "(?a") (.cons (.int 3) (.cons (.str ": = ! or <") .nil)))) (.cons (.tup (.cons (.str "(?)") (.cons (.int 3) (.cons (.str ": = ! or <") .nil)))) .nil)))))) c141_5
abbrev c141_3 : CSs := .cons (.set 0 (.bin .add (.var 0) (.lst false (.cons (.tup (.cons (.str "\\xg") (.cons (.int 3) (.cons (.str "a digit from 0 to 7") .nil)))) (.cons (.tup (.cons (.str "\\x7g") (.cons (.int 4) (.cons (.str "a hexadecimal digit") .nil)))) .nil))))) c141_4
abbrev c141_2 : CSs := .cons (.set 0 (.bin .add (.var 0) (.lst false (.cons (.tup (.cons (.str "\\\n") (.cons (.int 2) (.cons (.str "a known escape") .nil)))) (.cons (.tup (.cons (.str "\\1") (.cons (.int 2) (.cons (.str "a known escape") .nil)))) (.cons (.tup (.cons (.str "\\x8") (.cons (.int 3) (.cons (.str "a digit from 0 to 7") .nil)))) .nil)))))) c141_3
abbrev c141_1 : CSs := .cons (.set 0 (.bin .add (.var 0) (.lst false (.cons (.tup (.cons (.str "\\q") (.cons (.int 2) (.cons (.str "a known escape") .nil)))) (.cons (.tup (.cons (.str "\\a") (.cons (.int 2) (.cons (.str "a known escape") .nil)))) (.cons (.tup (.cons (.str "\\Z") (.cons (.int 2) (.cons (.str "a known escape") .nil)))) .nil)))))) c141_2
abbrev c141 : CSs := .cons (.set 0 (.lst false (.cons (.tup (.cons (.str "]") (.cons (.int 1) (.cons (.str "a backslash ahead of this character") .nil)))) (.cons (.tup (.cons (.str "}") (.cons (.int 1) (.cons (.str "a backslash ahead of this character") .nil)))) .nil)))) c141_1
def q141 : List (Str × Int × Str) := [("]", 1, "a backslash ahead of this character"), ("}", 1, "a backslash ahead of this character"), ("\\q", 2, "a known escape"), ("\\a", 2, "a known escape"), ("\\Z", 2, "a known escape"), ("\\\n", 2, "a known escape"), ("\\1", 2, "a known escape"), ("\\x8", 3, "a digit from 0 to 7"), ("\\xg", 3, "a digit from 0 to 7"), ("\\x7g", 4, "a hexadecimal digit"), ("\\x0]", 4, "a hexadecimal digit"), ("(?a", 3, ": = ! or <"), ("(?)", 3, ": = ! or <"), ("(?<1", 4, "= ! or a name"), ("(?<>", 4, "= ! or a name"), ("(?<a-", 5, "the end of the name"), ("(?<a)", 5, "the end of the name"), ("(?<abcdefghijklmnopqrstu>", 24, "the end of the name"), ("{a", 2, "a count"), ("{,2}", 2, "a count"), ("{}", 2, "a count"), ("{2a", 3, "a comma or the end of the count"), ("{02 }", 4, "a comma or the end of the count"), ("{2,a", 4, "the end of the count"), ("{2,3,", 5, "the end of the count"), ("{51", 3, "a count up to 50"), ("{0500}", 5, "a count up to 50"), ("{3,51", 5, "a count up to 50"), ("{3,2}", 5, "a count not less than the first"), ("{50,049}", 8, "a count not less than the first")]
theorem e141 : (q141.map fun x => D.tup [.str x.1, .int x.2.1, .str x.2.2]) = pcL.map pcD := by
  have h : q141 = pcL.map fun x => (tx x.1, (x.2.1 : Int), x.2.2) := by decide +kernel
  rw [h, List.map_map]; rfl
def sp141 : SpD := fun ds M Q _ => ds = [] ∧ Q (.lst (pcL.map pcD)) M
theorem ln141 : ∀ ds M Q E, sp141 ds M Q E → ds.length = 0 := by
  rintro _ _ _ _ ⟨rfl, _⟩; rfl
theorem rd141 {Φ : Nat → SpD} {κ : Nat → D} : RdOk Φ κ c141 1 (sp141) := by
  rintro ds M Q E hM hd ⟨rfl, hQ⟩
  rw [← e141] at hQ
  walk_at "go"
  exact .keep hQ
abbrev c143_3 : CSs := .cons (.ret (.bin .add (.var 0) (.lst false (.cons (.str "[ -~]") .nil)))) .nil
abbrev c143_2 : CSs := .cons (.set 0 (.bin .add (.var 0) (.lst false (.cons (.str "[[[[]]]]") (.cons (.str "[a\\-c]") (.cons (.str "[a-\\x61]") (.cons (.str "[\\--a]") (.cons (.str "[&]") (.cons (.str "[!-&]") (.cons (.str "[a&b]") (.cons (.str "[(?){}^$|.*+]") (.cons (.str "[]") .nil)))))))))))) c143_3
abbrev c143_1 : CSs := .cons (.set 0 (.bin .add (.var 0) (.lst false (.cons (.str "(?<abcdefghijklmnopqrst>)") (.cons (.str "a{2}") (.cons (.str "a{50}") (.cons (.str "a{2,}") (.cons (.str "a{2,3}") (.cons (.str "a{000}") (.cons (.str "[a-z--b-d&&[^q]]") .nil)))))))))) c143_2
abbrev c143 : CSs := .cons (.set 0 (.lst false (.cons (.str "\\]") (.cons (.str "\\}") (.cons (.str "\\n") (.cons (.str "\\x7f") (.cons (.str "(?:)") (.cons (.str "(?=)") (.cons (.str "(?!)") (.cons (.str "(?<=)") (.cons (.str "(?<!)") (.cons (.str "(?<a>)") (.cons (.str "(?<_>)") (.cons (.str "[a]") (.cons (.str "[^]") .nil))))))))))))))) c143_1
def q143 : List Str := ["\\]", "\\}", "\\n", "\\x7f", "(?:)", "(?=)", "(?!)", "(?<=)", "(?<!)", "(?<a>)", "(?<_>)", "[a]", "[^]", "(?<abcdefghijklmnopqrst>)", "a{2}", "a{50}", "a{2,}", "a{2,3}", "a{000}", "[a-z--b-d&&[^q]]", "[[[[]]]]", "[a\\-c]", "[a-\\x61]", "[\\--a]", "[&]", "[!-&]", "[a&b]", "[(?){}^$|.*+]", "[]", "[ -~]"]
theorem e143 : (q143.map D.str) = mnL.map fun x => D.str (tx x) := by
  have h : q143 = mnL.map tx := by decide +kernel
  rw [h, List.map_map]; rfl
def sp143 : SpD := fun ds M Q _ => ds = [] ∧ Q (.lst (mnL.map fun x => D.str (tx x))) M
theorem ln143 : ∀ ds M Q E, sp143 ds M Q E → ds.length = 0 := by
  rintro _ _ _ _ ⟨rfl, _⟩; rfl
theorem rd143 {Φ : Nat → SpD} {κ : Nat → D} : RdOk Φ κ c143 1 (sp143) := by
  rintro ds M Q E hM hd ⟨rfl, hQ⟩
  rw [← e143] at hQ
  walk_at "go"
  exact .keep hQ
/-- the whole tokens ahead of an error -/
def tk24 : List (List Nat) := [[97], [92, 46], [41], [124], [40, 63, 58], [40, 63, 60, 110, 62], [91, 98, 45, 100, 93], [123, 50, 44, 51, 125], [42], [94], [32], [92, 120, 50, 48], [40, 63, 60, 33], [46], [43], [126]]
def WhT (t : List Nat) : Prop := ∀ r : List Nat, r.head? ≠ some 63 → ∃ tk, tkR (t ++ r) F0 0 = .ok (tk, t.length)
theorem wh_of {t : List Nat} (tk : Tk) (h : ∀ r, tkR (t ++ r) F0 0 = .ok (tk, t.length)) : WhT t := fun r _ => ⟨tk, h r⟩
theorem wh_rep {t : List Nat} (tk : Tk) (h0 : tkR (t ++ []) F0 0 = .ok (tk, t.length)) (h : ∀ c r, c ≠ 63 → tkR (t ++ c :: r) F0 0 = .ok (tk, t.length)) : WhT t := by
  intro r hr
  cases r with
  | nil => exact ⟨tk, h0⟩
  | cons c r => exact ⟨tk, h c r fun z => hr (by rw [z]; rfl)⟩
theorem wh_sg {c : Nat} (h : ∀ r, rp0 (c :: r) 0 = .ok (match c with | 42 => (0, none, 1) | _ => (1, none, 1))) (h2 : c = 42 ∨ c = 43) : WhT [c] := by
  refine wh_rep (.rep (if c = 42 then 0 else 1) none true) ?_ fun d r hd => ?_
  · rcases h2 with rfl | rfl <;> rfl
  · rcases h2 with rfl | rfl
    · show rpR (42 :: d :: r) 0 = _
      unfold rpR
      show Except.ok (Tk.rep 0 none (!decide (some d = some 63)), 1 + if some d = some 63 then 1 else 0) = _
      rw [if_neg (by simpa using hd), decide_eq_false (by simpa using hd)]; rfl
    · show rpR (43 :: d :: r) 0 = _
      unfold rpR
      show Except.ok (Tk.rep 1 none (!decide (some d = some 63)), 1 + if some d = some 63 then 1 else 0) = _
      rw [if_neg (by simpa using hd), decide_eq_false (by simpa using hd)]; rfl
theorem wh_ct : WhT [123, 50, 44, 51, 125] := by
  refine wh_rep (.rep 2 (some 3) true) rfl fun d r hd => ?_
  show rpR (123 :: 50 :: 44 :: 51 :: 125 :: d :: r) 0 = _
  unfold rpR
  show Except.ok (Tk.rep 2 (some 3) (!decide (some d = some 63)), 5 + if some d = some 63 then 1 else 0) = _
  rw [if_neg (by simpa using hd), decide_eq_false (by simpa using hd)]; rfl
theorem wh_24 : ∀ t ∈ tk24, WhT t := by
  intro t ht
  simp only [tk24, List.mem_cons, List.not_mem_nil, or_false] at ht
  rcases ht with rfl | rfl | rfl | rfl | rfl | rfl | rfl | rfl | rfl | rfl | rfl | rfl | rfl | rfl | rfl | rfl
  · exact wh_of _ fun r => rfl
  · exact wh_of _ fun r => rfl
  · exact wh_of _ fun r => rfl
  · exact wh_of _ fun r => rfl
  · exact wh_of _ fun r => rfl
  · exact wh_of (.opn (.grp (some [110]))) fun r => rfl
  · exact wh_of (.one (.set (makeS [(98, 99), (98, 101)]))) fun r => rfl
  · exact wh_ct
  · exact wh_sg (fun r => rfl) (.inl rfl)
  · exact wh_of _ fun r => rfl
  · exact wh_of _ fun r => rfl
  · exact wh_of _ fun r => rfl
  · exact wh_of _ fun r => rfl
  · exact wh_of _ fun r => rfl
  · exact wh_sg (fun r => rfl) (.inr rfl)
  · exact wh_of _ fun r => rfl
/-- the class that stands whole ahead of too deep a one -/
theorem wh_q : WhT [91, 113, 38, 38, 91, 93, 93] := wh_of (.one (.set (comS (makeS [(113, 114)]) (makeS ([] ++ makeS []))))) fun r => rfl
structure GdT (t : List Nat) : Prop where
  wh : WhT t
  ne : t ≠ []
  hd : t.head? ≠ some 63
theorem gd_24 {t : List Nat} (h : t ∈ tk24) : GdT t := ⟨wh_24 t h, by revert t; decide, by revert t; decide⟩
theorem gd_q : GdT [91, 113, 38, 38, 91, 93, 93] := ⟨wh_q, by decide, by decide⟩
theorem head_fl {r : List Nat} (hr : r.head? ≠ some 63) : ∀ {ts : List (List Nat)}, (∀ t ∈ ts, GdT t) → (ts.flatten ++ r).head? ≠ some 63
  | [], _ => hr
  | t :: ts, h => by
    have hg := h t List.mem_cons_self
    cases t with
    | nil => exact absurd rfl hg.ne
    | cons c t => exact hg.hd
theorem src_r {a b : List Nat} (h : SrcOk (a ++ b)) : SrcOk b := ⟨Nat.le_trans (by rw [List.length_append]; omega) h.len, fun c hc => h.lt c (List.mem_append_right _ hc)⟩
theorem pre_rds {r : List Nat} (hr : r.head? ≠ some 63) : ∀ (ts : List (List Nat)) (pre : List Nat), (∀ t ∈ ts, GdT t) → SrcOk (ts.flatten ++ r) →
    ∃ tks : List Tk, tks.length = ts.length ∧ Rds (pre ++ (ts.flatten ++ r)) F0 pre.length tks (pre.length + ts.flatten.length)
  | [], pre, _, _ => ⟨[], rfl, .nil⟩
  | t :: ts, pre, h, hs => by
    have hg := h t List.mem_cons_self
    have ht : ∀ x ∈ ts, GdT x := fun x hx => h x (List.mem_cons_of_mem _ hx)
    have e : (t :: ts).flatten ++ r = t ++ (ts.flatten ++ r) := by rw [List.flatten_cons, List.append_assoc]
    rw [e] at hs ⊢
    obtain ⟨tk, hk⟩ := hg.wh _ (head_fl hr ht)
    obtain ⟨tks, hl, hrd⟩ := pre_rds hr ts (pre ++ t) ht (src_r hs)
    refine ⟨tk :: tks, by simp [hl], .cons (j := pre.length + t.length) ?_ ?_⟩
    · rw [tkR_sh0 hs, hk]; rfl
    · rw [List.length_append, List.append_assoc] at hrd
      rw [List.flatten_cons, List.length_append, ← Nat.add_assoc]
      exact hrd
theorem ts_le : ∀ {ts : List (List Nat)}, (∀ t ∈ ts, GdT t) → ts.length ≤ ts.flatten.length
  | [], _ => Nat.le_refl _
  | t :: ts, h => by
    have h1 := ts_le fun x hx => h x (List.mem_cons_of_mem _ hx)
    have hg := (h t List.mem_cons_self).ne
    cases t with
    | nil => exact absurd rfl hg
    | cons c t => simp at h1 ⊢; omega
theorem rd_err {ts : List (List Nat)} {r : List Nat} {c : Nat} {m : Str} (h : ∀ t ∈ ts, GdT t) (hr : r.head? ≠ some 63) (hn : r ≠ []) (hs : SrcOk (ts.flatten ++ r)) (he : tkR r F0 0 = .error (c, m)) :
    rdP (ts.flatten ++ r) F0 = .error (ts.flatten.length + c, m) := by
  obtain ⟨tks, hl, hrd⟩ := pre_rds hr ts [] h hs
  rw [List.nil_append, List.length_nil, Nat.zero_add] at hrd
  have h2 : tkR (ts.flatten ++ r) F0 ts.flatten.length = .error (ts.flatten.length + c, m) := by
    rw [tkR_sh0 (src_r hs), he]; rfl
  have hj : ts.flatten.length < (ts.flatten ++ r).length := by
    rw [List.length_append]
    have := List.length_pos_iff.mpr hn
    omega
  unfold rdP
  rw [hrd.err h2 hj _ [] (by have := ts_le h; rw [hl]; rw [List.length_append]; omega)]
abbrev c1565_1 : CSs := .cons (.expr (.call 1056 (.cons (.var 0) (.cons (.str "") .nil)))) .nil
abbrev c1565_5 : CSs := .cons (.ret (.tup (.cons (.str "other") (.cons (.int 0) .nil)))) .nil
abbrev c1565_6 : CSs := .cons (.ret (.tup (.cons (.str "other") (.cons (.int 0) .nil)))) .nil
abbrev c1565_4 : CSs := .cons (.ret (.tup (.cons (.xfld 1 "PatternError" "expected") (.cons (.xfld 1 "PatternError" "column") .nil)))) .nil
abbrev c1565_3 : CSs := .cons (.ifs (.or (.blt (.isi "bool") (.cons (.xfld 1 "PatternError" "column") .nil)) (.not (.blt (.isi "str") (.cons (.xfld 1 "PatternError" "expected") .nil)))) c1565_6 .nil) c1565_4
abbrev c1565_2 : CSs := .cons (.ifs (.or (.not (.xis 1 "FirstwayError")) (.not (.xis 1 "ValueError"))) c1565_5 .nil) c1565_3
abbrev x1565 : List Str := ["FirstwayError", "FlagsError", "PatternError"]
abbrev c1565 : List TBk := [.tr c1565_1 [⟨"PatternError", some 1, c1565_2⟩], .one (.ret (.tup (.cons (.str "none") (.cons (.int 0) .nil))))]
/-- what a source answers -/
noncomputable def rdO (cs : List Nat) : D := match rdP cs F0 with
  | .ok _ => .tup [.str "none", .int 0]
  | .error e => .tup [.str e.2, .int e.1]
def sp1565 : SpD := fun ds M Q _ => ∃ cs : List Nat, ds = [.str (tx cs)] ∧ SrcOk cs ∧ Q (rdO cs) M
theorem ln1565 : ∀ ds M Q E, sp1565 ds M Q E → ds.length = 1 := by
  rintro _ _ _ _ ⟨_, rfl, _⟩; rfl
theorem rd1565 {Φ : Nat → SpD} {κ : Nat → D} (h1056 : Φ 1056 = sp1056) : RdOkB Φ κ x1565 c1565 2 (sp1565) := by
  rintro ds M Q E hM hd ⟨cs, rfl, hs, hQ⟩
  show nxb _ _ _ _ _ _ _ _
  walk_at "go"
  rw [h1056]
  refine ⟨cs, [], rfl, .inr ⟨hs, F0, rfl, ?_⟩⟩
  unfold rdO at hQ
  cases h : rdP cs F0 with
  | ok x =>
    rw [h] at hQ
    rw [rsQ_ok]
    walk_at "go"
    exact .keep hQ
  | error e =>
    rw [h] at hQ
    rw [rsQ_er]
    intro L
    walk_at "go"
    intro a o
    walk_at "go"
    exact .val rfl hM rfl hQ
abbrev c1354_12 : CSs := .cons (.set 4 (.str "")) .nil
abbrev c1354_11 : CSs := .cons (.set 8 (.call 139 .nil)) c1354_12
abbrev c1354_15 : CSs := .cons (.set 3 (.bin .add (.var 3) (.idx (.lst false (.cons (.str "[") (.cons (.str "[^") (.cons (.str "[q&&[") .nil)))) (.call 2 (.cons (.var 0) (.cons (.var 1) (.cons (.int 3) .nil))))))) .nil
abbrev c1354_14 : CSs := .cons (.set 8 (.call 140 .nil)) c1354_15
abbrev c1354_16 : CSs := .cons (.set 8 (.call 141 .nil)) .nil
abbrev c1354_13 : CSs := .cons (.ifs (.cmp .eq (.var 5) (.int 1)) c1354_14 c1354_16) .nil
abbrev c1354_17 : CSs := .cons (.set 3 (.bin .add (.var 3) (.str "]]["))) .nil
abbrev c1354_18 : CSs := .cons (.ret (.bl false)) .nil
abbrev c1354_10 : CSs := .cons (.ret (.cmp .eq (.call 1565 (.cons (.idx (.var 7) (.call 2 (.cons (.var 0) (.cons (.var 1) (.cons (.blt .len (.cons (.var 7) .nil)) .nil))))) .nil)) (.tup (.cons (.str "none") (.cons (.int 0) .nil))))) .nil
abbrev c1354_9 : CSs := .cons (.set 7 (.call 143 .nil)) c1354_10
abbrev c1354_8 : CSs := .cons (.ifs (.cmp .ne (.call 1565 (.cons (.bin .add (.bin .add (.var 3) (.idx (.var 6) (.int 0))) (.var 4)) .nil)) (.tup (.cons (.idx (.var 6) (.int 2)) (.cons (.bin .add (.blt .len (.cons (.var 3) .nil)) (.idx (.var 6) (.int 1))) .nil)))) c1354_18 .nil) c1354_9
abbrev c1354_7 : CSs := .cons (.ifs (.and (.cmp .eq (.var 5) (.int 1)) (.and (.cmp .eq (.idx (.var 6) (.int 2)) (.str "less nesting")) (.cmp .eq (.slc false (.var 3) (.some (.neg (.int 3))) .none) (.str "&&[")))) c1354_17 .nil) c1354_8
abbrev c1354_6 : CSs := .cons (.set 6 (.idx (.var 8) (.call 2 (.cons (.var 0) (.cons (.var 1) (.cons (.blt .len (.cons (.var 8) .nil)) .nil)))))) c1354_7
abbrev c1354_5 : CSs := .cons (.ifs (.cmp .eq (.var 5) (.int 0)) c1354_11 c1354_13) c1354_6
abbrev c1354_4 : CSs := .cons (.set 5 (.call 2 (.cons (.var 0) (.cons (.var 1) (.cons (.int 4) .nil))))) c1354_5
abbrev c1354_3 : CSs := .cons (.set 4 (.mth .join (.str "") (.cons (.comp false (.idx (.str "()[]{}*+?.|^$-&\\a<") (.call 2 (.cons (.var 0) (.cons (.var 1) (.cons (.int 18) .nil))))) (.nm 9) (.rng1 (.call 2 (.cons (.var 0) (.cons (.var 1) (.cons (.int 5) .nil))))) .none [9]) .nil))) c1354_4
abbrev c1354_2 : CSs := .cons (.set 3 (.mth .join (.str "") (.cons (.comp false (.idx (.var 2) (.call 2 (.cons (.var 0) (.cons (.var 1) (.cons (.int 16) .nil))))) (.nm 9) (.rng1 (.call 2 (.cons (.var 0) (.cons (.var 1) (.cons (.int 6) .nil))))) .none [9]) .nil))) c1354_3
abbrev c1354_1 : CSs := .cons (.set 2 (.lst false (.cons (.str "a") (.cons (.str "\\.") (.cons (.str ")") (.cons (.str "|") (.cons (.str "(?:") (.cons (.str "(?<n>") (.cons (.str "[b-d]") (.cons (.str "{2,3}") (.cons (.str "*") (.cons (.str "^") (.cons (.str " ") (.cons (.str "\\x20") (.cons (.str "(?<!") (.cons (.str ".") (.cons (.str "+") (.cons (.str "~") .nil)))))))))))))))))) c1354_2
abbrev c1354 : CSs := .cons (.set 1 (.lst true (.cons (.int 0) (.cons (.int 0) .nil)))) c1354_1
def tl24 : List Nat := [40, 41, 91, 93, 123, 125, 42, 43, 63, 46, 124, 94, 36, 45, 38, 92, 97, 60]
theorem e24 : [D.str "a", .str "\\.", .str ")", .str "|", .str "(?:", .str "(?<n>", .str "[b-d]", .str "{2,3}", .str "*", .str "^", .str " ", .str "\\x20", .str "(?<!", .str ".", .str "+", .str "~"] = tk24.map fun l => D.str (tx l) := by
  have h : (["a", "\\.", ")", "|", "(?:", "(?<n>", "[b-d]", "{2,3}", "*", "^", " ", "\\x20", "(?<!", ".", "+", "~"] : List Str) = tk24.map tx := by decide +kernel
  have h2 := congrArg (List.map D.str) h
  rw [List.map_map] at h2
  exact h2
theorem no38 {ts : List (List Nat)} (h : ∀ t ∈ ts, t ∈ tk24) : 38 ∉ ts.flatten := by
  intro hm
  obtain ⟨t, ht, hx⟩ := List.mem_flatten.mp hm
  have d : ∀ t ∈ tk24, 38 ∉ t := by decide
  exact d t (h t ht) hx
theorem lt128 {ts : List (List Nat)} (h : ∀ t ∈ ts, t ∈ tk24) : ∀ c ∈ ts.flatten, c < 128 := by
  intro c hm
  obtain ⟨t, ht, hx⟩ := List.mem_flatten.mp hm
  have d : ∀ t ∈ tk24, ∀ c ∈ t, c < 128 := by decide
  exact d t (h t ht) c hx
theorem len8 {ts : List (List Nat)} (h : ∀ t ∈ ts, t ∈ tk24) : (ts.map List.length).sum ≤ ts.length * 5 := by
  induction ts with
  | nil => exact Nat.le_refl _
  | cons t ts ih =>
    have d : ∀ t ∈ tk24, t.length ≤ 5 := by decide
    have h1 := d t (h t List.mem_cons_self)
    have h2 := ih fun x hx => h x (List.mem_cons_of_mem _ hx)
    simp only [List.map_cons, List.sum_cons, List.length_cons]
    omega
theorem cut3 {l : List Nat} : cutD l (some (-3)) none = l.drop (l.length - 3) := by
  unfold cutD
  rw [HT.sIx_none]
  have e : HT.sIx l.length 0 (some (-3)) = l.length - 3 := by
    show (if (-3 : Int) < 0 then ((-3 : Int) + (l.length : Int)).toNat else min (-3 : Int).toNat l.length) = _
    rw [if_pos (by omega)]; omega
  rw [e, List.take_of_length_le]
  rw [List.length_drop]; exact Nat.le_refl _
theorem cut3_of {l : List Nat} {a b c : Nat} (h : cutD l (some (-3)) none = [a, b, c]) : ∃ k, l = k ++ [a, b, c] := ⟨l.take (l.length - 3), by rw [← h, cut3, List.take_append_drop]⟩
theorem en_ok : ∀ x ∈ enL, (x.1.head? ≠ some 63 ∧ x.1 ≠ []) ∧ (x.1.length ≤ 100 ∧ PyData.strOk x.2.2 = true) ∧ ∀ c ∈ x.1, c < 128 := by decide +kernel
theorem pc_ok : ∀ x ∈ pcL, (x.1.head? ≠ some 63 ∧ x.1 ≠ []) ∧ (x.1.length ≤ 100 ∧ PyData.strOk x.2.2 = true) ∧ ∀ c ∈ x.1, c < 128 := by decide +kernel
theorem ic_ok : ∀ x ∈ icL, (x.1.length ≤ 100 ∧ PyData.strOk x.2.2 = true) ∧ ∀ c ∈ x.1, c < 128 := by decide +kernel
theorem shp2 {s : Str} {i : Int} (h : PyData.strOk s = true) : SeqAt.shaped (.tuple [.str s, .int i]) = true := by
  unfold SeqAt.shaped
  rw [PyData.canLay0, PyData.depth]
  simp [PyData.canLayAll0, PyData.canLay0, PyData.depthAll, PyData.depth, h]
theorem mn_src : ∀ x ∈ mnL, SrcOk x := by
  have h : ∀ x ∈ mnL, x.length ≤ 100000 ∧ ∀ c ∈ x, c < 128 := by decide
  exact fun x hx => ⟨(h x hx).1, (h x hx).2⟩
theorem mn_rdO : ∀ x ∈ mnL, rdO x = .tup [.str "none", .int 0] := by
  intro x hx
  have := mn_ok x hx
  unfold rdO
  cases h : rdP x F0 with
  | ok _ => rfl
  | error _ => rw [h] at this; cases this
theorem ne_self {d : D} {M : Md} {y : PyData} {QB : Bool → Prop} (hs : eqS d d = none) (hp : pyD (rsD d M) = some y) (sh : SeqAt.shaped y = true) (q : QB false) : cpD .ne d d M QB := by
  show eqQ d d M fun b => QB (!b)
  unfold eqQ
  rw [hs, hp]
  refine ⟨sh, sh, ?_⟩
  rw [PySem.SeqAt.eqv_refl _ (SeqAt.canLay_of_shaped sh)]
  exact q
theorem rd1354 {Φ : Nat → SpD} {κ : Nat → D} (h2 : Φ 2 = sp2w) (h139 : Φ 139 = sp139) (h140 : Φ 140 = sp140) (h141 : Φ 141 = sp141) (h1565 : Φ 1565 = sp1565) (h143 : Φ 143 = sp143) : RdOk Φ κ c1354 10 (spLaw 63) := by
  rintro ds M Q E hM hd ⟨ns, hns, rfl, rfl, hQ⟩
  have tT : Str.ofString "()[]{}*+?.|^$-&\\a<" = tx tl24 := by decide +kernel
  walk_at "go"
  have ha : (0 : Int) ≤ 0 := Int.le_refl 0
  have hb := ha
  rw [mtK_join, true_and]
  refine dig h2 ha hb (by omega) (by omega) fun m a b m0 m1 ha hb => ?_; walk_at "go"
  refine comp_inv (fun rem acc M' => ∃ (ts : List (List Nat)) (a b : Int), M' = [.lst [.int a, .int b]] ∧ 0 ≤ a ∧ 0 ≤ b ∧ acc = ts.map (fun c => D.str (tx c)) ∧ (∀ c ∈ ts, c ∈ tk24) ∧ ts.length + rem.length ≤ 6) ?_ ?_ ?_ _ _ _ ⟨[], a, b, rfl, ha, hb, rfl, (by intro c hc; cases hc), ?_⟩
  · intro _ _ _ _; trivial
  · rintro e rem acc M' C ⟨cs, a, b, rfl, ha, hb, rfl, hcs, hl⟩ hC
    rw [List.length_cons] at hl
    walk_at "rd2"
    refine dig h2 ha hb (by omega) (by omega) fun y a b y0 y1 ha hb => ?_
    rw [e24]
    obtain ⟨c, hc⟩ : ∃ c, tk24[y.toNat]? = some c := ⟨_, List.getElem?_eq_getElem (show y.toNat < 16 by omega)⟩
    rw [ix_lst', atQ_some (atI_ofNat y0 (by rw [List.getElem?_map, hc]; rfl))]
    refine ⟨by rw [List.length_map, size_eq]; omega, hC _ _ ⟨cs ++ [c], a, b, rfl, ha, hb, by rw [List.map_append]; rfl, ?_, by simp; omega⟩⟩
    intro x hx
    rcases List.mem_append.mp hx with hx | hx
    · exact hcs x hx
    · rw [List.mem_singleton.mp hx]; exact List.mem_of_getElem? hc
  · rintro acc M' ⟨ts, a, b, rfl, ha, hb, rfl, hts, hl⟩
    have hl6 : ts.length ≤ 6 := by simpa using hl
    have hl8 := len8 hts
    have hfl : ts.flatten.length ≤ 30 := by rw [List.length_flatten]; omega
    have h38 := no38 hts
    have h128 := lt128 hts
    have hgd : ∀ t ∈ ts, GdT t := fun t h => gd_24 (hts t h)
    refine join_tx (by omega) ?_
    walk_at "go"
    rw [mtK_join, true_and]
    refine dig h2 ha hb (by omega) (by omega) fun m a b m0 m1 ha hb => ?_; walk_at "go"
    refine comp_inv (fun rem acc M' => ∃ (cs : List Nat) (a b : Int), M' = [.lst [.int a, .int b]] ∧ 0 ≤ a ∧ 0 ≤ b ∧ acc = cs.map (fun c => D.str (tx [c])) ∧ (∀ c ∈ cs, c ∈ tl24) ∧ cs.length + rem.length ≤ 5) ?_ ?_ ?_ _ _ _ ⟨[], a, b, rfl, ha, hb, rfl, (by intro c hc; cases hc), ?_⟩
    · intro _ _ _ _; trivial
    · rintro e rem acc M' C ⟨cs, a, b, rfl, ha, hb, rfl, hcs, hl⟩ hC
      rw [List.length_cons] at hl
      walk_at "rd2"
      refine dig h2 ha hb (by omega) (by omega) fun y a b y0 y1 ha hb => ?_
      rw [tT]
      obtain ⟨c, hc⟩ : ∃ c, tl24[y.toNat]? = some c := ⟨_, List.getElem?_eq_getElem (show y.toNat < 18 by omega)⟩
      rw [show y = ((y.toNat : Nat) : Int) by omega]
      refine ix_txn (by rw [size_eq]; decide) hc ?_
      refine ⟨by rw [List.length_map, size_eq]; omega, hC _ _ ⟨cs ++ [c], a, b, rfl, ha, hb, by rw [List.map_append]; rfl, ?_, by simp; omega⟩⟩
      intro x hx
      rcases List.mem_append.mp hx with hx | hx
      · exact hcs x hx
      · rw [List.mem_singleton.mp hx]; exact List.mem_of_getElem? hc
    · rintro acc M' ⟨tl, a, b, rfl, ha, hb, rfl, htl, hl⟩
      refine join_ones (by simp at hl; omega) ?_
      walk_at "go"
      have fin : ∀ (P T : List Nat) (x : Pce) (d2 : D) (d8 : D) (st a b : Int), 0 ≤ a → 0 ≤ b → P.length ≤ 100 → (x.1.length ≤ 100 ∧ PyData.strOk x.2.2 = true) → T.length ≤ 100 → SrcOk (P ++ (x.1 ++ T)) → rdP (P ++ (x.1 ++ T)) F0 = .error (P.length + x.2.1, x.2.2) →
          nxt Φ κ c1354_8 (fun x _ M => E x M) (endsD 0 Q) [some (.scr ns), some (.ref 0), some d2, some (.str (tx P)), some (.str (tx T)), some (.int st), some (.tup [.str (tx x.1), .int x.2.1, .str x.2.2]), none, some d8, none] [.lst [.int a, .int b]] := by
        intro P T x d2 d8 st a b ha hb hP hx hT hs hr
        have hx1 := hx.1
        walk_at "go"
        rw [tx_cat, tx_cat, tx_len, tx_len, tx_len, List.append_assoc]
        refine ⟨by rw [List.length_append, size_eq]; omega, ?_⟩
        rw [h1565]
        refine ⟨_, rfl, hs, by rw [size_eq]; omega, ?_⟩
        rw [show rdO (P ++ (x.1 ++ T)) = .tup [.str x.2.2, .int ((P.length : Int) + x.2.1)] by unfold rdO; rw [hr]; rfl]
        refine ne_self (by rfl) rfl (shp2 hx.2) ?_
        walk_at "go"
        rw [h143]
        refine ⟨rfl, ?_⟩
        walk_at "go"
        rw [List.length_map, show mnL.length = 30 from rfl]
        refine dig h2 ha hb (by omega) (by omega) fun k a b k0 k1 ha hb => ?_; walk_at "go"
        obtain ⟨c, hc⟩ : ∃ c, mnL[k.toNat]? = some c := ⟨_, List.getElem?_eq_getElem (show k.toNat < 30 by omega)⟩
        rw [atQ_some (atI_ofNat k0 (by rw [List.getElem?_map, hc]; rfl)), h1565]
        have hm := List.mem_of_getElem? hc
        refine ⟨_, rfl, mn_src c hm, ?_⟩
        rw [mn_rdO c hm]
        refine eq_self (by rfl) rfl (shp2 (by decide +kernel)) ?_
        exact .val rfl hM rfl (hQ _)
      have cnd : ∀ (P T : List Nat) (x : Pce) (d2 : D) (d8 : D) (st a b : Int), 0 ≤ a → 0 ≤ b → P.length ≤ 90 → (x.1.length ≤ 100 ∧ PyData.strOk x.2.2 = true) → T.length ≤ 100 → st ≠ 1 → SrcOk (P ++ (x.1 ++ T)) → rdP (P ++ (x.1 ++ T)) F0 = .error (P.length + x.2.1, x.2.2) →
          nxt Φ κ c1354_7 (fun x _ M => E x M) (endsD 0 Q) [some (.scr ns), some (.ref 0), some d2, some (.str (tx P)), some (.str (tx T)), some (.int st), some (pcD x), none, some d8, none] [.lst [.int a, .int b]] := by
        intro P T x d2 d8 st a b ha hb hP hx hT hst hs hr
        unfold pcD
        walk_at "go"
        refine iteI (fun h => absurd h hst) fun _ => ?_
        exact fin P T x d2 d8 st a b ha hb (by omega) hx hT hs hr
      refine dig h2 ha hb (by omega) (by omega) fun st a b st0 st1 ha hb => ?_; walk_at "go"
      have src : ∀ o l T : List Nat, (∀ c ∈ o, c < 128) → (∀ c ∈ l, c < 128) → (∀ c ∈ T, c < 128) → o.length ≤ 100 → l.length ≤ 100 → T.length ≤ 100 → SrcOk (ts.flatten ++ (o ++ (l ++ T))) := fun o l T h1 h2 h3 k1 k2 k3 => by
        refine ⟨by simp only [List.length_append]; omega, fun c hc => ?_⟩
        rcases List.mem_append.mp hc with hc | hc
        · exact h128 c hc
        rcases List.mem_append.mp hc with hc | hc
        · exact h1 c hc
        rcases List.mem_append.mp hc with hc | hc
        · exact h2 c hc
        · exact h3 c hc
      have htl4 : tl.length ≤ 5 := by simpa using hl
      have htc : ∀ c ∈ tl, c < 128 := fun c hc => by
        have d : ∀ c ∈ tl24, c < 128 := by decide
        exact d c (htl c hc)
      refine iteI (fun h => ?_) fun h => ?_
      · walk_at "go"
        rw [h139]
        refine ⟨rfl, ?_⟩
        walk_at "go"
        rw [List.length_map, show enL.length = 15 from rfl]
        refine dig h2 ha hb (by omega) (by omega) fun k a b k0 k1 ha hb => ?_; walk_at "go"
        obtain ⟨x, hc⟩ : ∃ c, enL[k.toNat]? = some c := ⟨_, List.getElem?_eq_getElem (show k.toNat < 15 by omega)⟩
        rw [atQ_some (atI_ofNat k0 (by rw [List.getElem?_map, hc]; rfl)), show Str.ofString "" = tx [] from rfl]
        obtain ⟨x1, x2, x3⟩ := en_ok x (List.mem_of_getElem? hc)
        have hs := src [] x.1 [] (by simp) x3 (by simp) (by simp) x2.1 (by simp)
        refine cnd ts.flatten [] x _ _ st a b ha hb (by omega) x2 (by simp) (by omega) hs ?_
        exact rd_err hgd (by simpa using x1.1) (by simpa using x1.2) hs (by have h := en_err.at hc; rw [List.nil_append, List.length_nil, Nat.zero_add] at h; exact h)
      · refine nxt_of ?_
        walk_at "go"
        refine iteI (fun h1 => ?_) fun h1 => ?_
        · walk_at "go"
          rw [h140]
          refine ⟨rfl, ?_⟩
          walk_at "go"
          refine dig h2 ha hb (by omega) (by omega) fun o a b o0 o1 ha hb => ?_; walk_at "go"
          have k1 : ∀ (o : List Nat) (d2 : D) (st a b : Int), st = 1 → 0 ≤ a → 0 ≤ b → o = [91] ∨ o = [91, 94] ∨ o = [91, 113, 38, 38, 91] →
              nxt Φ κ c1354_6 (fun x _ M => E x M) (endsD 0 Q) [some (.scr ns), some (.ref 0), some d2, some (.str (tx (ts.flatten ++ o))), some (.str (tx tl)), some (.int st), none, none, some (.lst (icL.map pcD)), none] [.lst [.int a, .int b]] := by
            intro o d2 st a b hst ha hb ho
            have hol : o.length ≤ 5 := by rcases ho with rfl | rfl | rfl <;> decide
            have hoc : ∀ c ∈ o, c < 128 := by rcases ho with rfl | rfl | rfl <;> decide
            have hPl : (ts.flatten ++ o).length ≤ 35 := by rw [List.length_append]; omega
            walk_at "go"
            rw [List.length_map, show icL.length = 22 from rfl]
            refine dig h2 ha hb (by omega) (by omega) fun k a b k0 k1 ha hb => ?_; walk_at "go"
            obtain ⟨x, hc⟩ : ∃ c, icL[k.toNat]? = some c := ⟨_, List.getElem?_eq_getElem (show k.toNat < 22 by omega)⟩
            rw [atQ_some (atI_ofNat k0 (by rw [List.getElem?_map, hc]; rfl))]
            obtain ⟨x2, x3⟩ := ic_ok x (List.mem_of_getElem? hc)
            have hs := src o x.1 tl hoc x3 htc (by omega) x2.1 (by omega)
            have hsP : SrcOk (ts.flatten ++ o ++ (x.1 ++ tl)) := by rw [List.append_assoc]; exact hs
            have low : tkR (o ++ (x.1 ++ tl)) F0 0 = .error (o.length + x.2.1, x.2.2) → rdP (ts.flatten ++ o ++ (x.1 ++ tl)) F0 = .error ((ts.flatten ++ o).length + x.2.1, x.2.2) := fun he => by
              rw [List.append_assoc, List.length_append, Nat.add_assoc]
              refine rd_err hgd ?_ ?_ hs he
              · rcases ho with rfl | rfl | rfl <;> simp
              · rcases ho with rfl | rfl | rfl <;> simp
            unfold pcD
            walk_at "go"
            refine iteI (fun _ => ?_) fun h => absurd hst h
            refine iteI (fun hn => ?_) fun hn => ?_
            · refine ⟨by rw [tx_len, size_eq]; omega, ?_⟩
              rcases ho with rfl | rfl | rfl
              · refine iteI (fun he => ?_) fun _ => ?_
                · exfalso
                  obtain ⟨k, hk⟩ := cut3_of (tx_inj (he.trans (show Str.ofString "&&[" = tx [38, 38, 91] by decide +kernel)))
                  rw [show k ++ [38, 38, 91] = (k ++ [38, 38]) ++ [91] by simp] at hk
                  have := (List.append_inj' hk rfl).1
                  exact h38 (this ▸ by simp)
                · exact fin _ tl x _ _ st a b ha hb (by omega) x2 (by omega) hsP (low ((ic_err1 tl).at hc))
              · refine iteI (fun he => ?_) fun _ => ?_
                · exfalso
                  obtain ⟨k, hk⟩ := cut3_of (tx_inj (he.trans (show Str.ofString "&&[" = tx [38, 38, 91] by decide +kernel)))
                  rw [show k ++ [38, 38, 91] = (k ++ [38]) ++ [38, 91] by simp] at hk
                  have := (List.append_inj' hk rfl).2
                  cases this
                · exact fin _ tl x _ _ st a b ha hb (by omega) x2 (by omega) hsP (low ((ic_err2 tl).at hc))
              · refine iteI (fun _ => ?_) fun he => ?_
                · walk_at "go"
                  rw [show Str.ofString "]][" = tx [93, 93, 91] by decide +kernel, tx_cat, tx_len, tx_len, size_eq]
                  refine ⟨by simp; omega, ?_⟩
                  have e1 : ts.flatten ++ [91, 113, 38, 38, 91] ++ [93, 93, 91] = (ts ++ [[91, 113, 38, 38, 91, 93, 93]]).flatten ++ [91] := by simp
                  have hg2 : ∀ t ∈ ts ++ [[91, 113, 38, 38, 91, 93, 93]], GdT t := fun t ht => (List.mem_append.mp ht).elim (hgd t) fun h => by rw [List.mem_singleton.mp h]; exact gd_q
                  have hs2 : SrcOk ((ts ++ [[91, 113, 38, 38, 91, 93, 93]]).flatten ++ ([91] ++ (x.1 ++ tl))) := by
                    have := src [91, 113, 38, 38, 91, 93, 93, 91] x.1 tl (by decide) x3 htc (by decide) x2.1 (by omega)
                    simpa using this
                  have he := rd_err (r := [91] ++ (x.1 ++ tl)) hg2 (by simp) (by simp) hs2 ((ic_err1 tl).at hc)
                  rw [← Nat.add_assoc] at he
                  rw [e1]
                  refine fin _ tl x _ _ st a b ha hb (by simp; omega) x2 (by omega) (by rw [List.append_assoc]; exact hs2) ?_
                  rw [List.append_assoc, List.length_append]
                  exact he
                · exfalso
                  apply he
                  show tx (cutD _ _ _) = _
                  rw [cut3, show ts.flatten ++ [91, 113, 38, 38, 91] = (ts.flatten ++ [91, 113]) ++ [38, 38, 91] by simp]
                  have e2 : (ts.flatten ++ [91, 113] ++ [38, 38, 91]).length - 3 = (ts.flatten ++ [91, 113]).length := by simp
                  rw [e2, List.drop_left]
                  decide +kernel
            · rcases ho with rfl | rfl | rfl
              · exact fin _ tl x _ _ st a b ha hb (by omega) x2 (by omega) hsP (low ((ic_err1 tl).at hc))
              · exact fin _ tl x _ _ st a b ha hb (by omega) x2 (by omega) hsP (low ((ic_err2 tl).at hc))
              · refine fin _ tl x _ _ st a b ha hb (by omega) x2 (by omega) hsP (low ((ic_err3 tl).at (k := k.toNat) ?_))
                have hk : k.toNat < 20 := by
                  refine Nat.lt_of_not_le fun z => hn ?_
                  obtain e | e : k.toNat = 20 ∨ k.toNat = 21 := by omega
                  · rw [e] at hc; cases hc; rfl
                  · rw [e] at hc; cases hc; rfl
                rw [List.getElem?_take_of_lt hk]; exact hc
          obtain rfl | rfl | rfl : o = 0 ∨ o = 1 ∨ o = 2 := by omega
          · walk_at "go"
            rw [show Str.ofString "[" = tx [91] by decide +kernel, tx_cat, tx_len, tx_len, size_eq]
            exact ⟨by simp only [List.length_cons, List.length_nil]; omega, k1 _ _ st a b h1 ha hb (by simp)⟩
          · walk_at "go"
            rw [show Str.ofString "[^" = tx [91, 94] by decide +kernel, tx_cat, tx_len, tx_len, size_eq]
            exact ⟨by simp only [List.length_cons, List.length_nil]; omega, k1 _ _ st a b h1 ha hb (by simp)⟩
          · walk_at "go"
            rw [show Str.ofString "[q&&[" = tx [91, 113, 38, 38, 91] by decide +kernel, tx_cat, tx_len, tx_len, size_eq]
            exact ⟨by simp only [List.length_cons, List.length_nil]; omega, k1 _ _ st a b h1 ha hb (by simp)⟩
        · walk_at "go"
          rw [h141]
          refine ⟨rfl, ?_⟩
          walk_at "go"
          rw [List.length_map, show pcL.length = 30 from rfl]
          refine dig h2 ha hb (by omega) (by omega) fun k a b k0 k1 ha hb => ?_; walk_at "go"
          obtain ⟨x, hc⟩ : ∃ c, pcL[k.toNat]? = some c := ⟨_, List.getElem?_eq_getElem (show k.toNat < 30 by omega)⟩
          rw [atQ_some (atI_ofNat k0 (by rw [List.getElem?_map, hc]; rfl))]
          obtain ⟨x1, x2, x3⟩ := pc_ok x (List.mem_of_getElem? hc)
          have hs := src [] x.1 tl (by simp) x3 htc (by simp) x2.1 (by omega)
          refine cnd ts.flatten tl x _ _ st a b ha hb (by omega) x2 (by omega) h1 hs ?_
          refine rd_err hgd ?_ ?_ hs (by have h := (pc_err tl).at hc; rw [List.nil_append, List.length_nil, Nat.zero_add] at h; exact h)
          · obtain ⟨l, m⟩ := x
            cases l with
            | nil => exact absurd rfl x1.2
            | cons c l => exact x1.1
          · exact fun z => x1.2 (List.append_eq_nil_iff.mp z).1
    · unfold rngD
      simp
      omega
  · unfold rngD
    simp
    omega
def ΦL (d1182 : Nat) (d1014 : Nat) : Nat → SpD
  | 1 => sp1
  | 2 => sp2w
  | 139 => sp139
  | 140 => sp140
  | 141 => sp141
  | 535 => sp535
  | 1189 => sp1189
  | 1181 => sp1181
  | 1193 => sp1193
  | 1013 => sp1013
  | 1347 => sp1347
  | 1194 => sp1194
  | 95 => sp95
  | 1183 => sp1183
  | 1184 => sp1184
  | 10 => sp10
  | 1185 => sp1185
  | 1186 => sp1186
  | 1015 => sp1015
  | 1187 => sp1187
  | 1188 => sp1188
  | 0 => sp0
  | 9 => sp9
  | 17 => sp17
  | 18 => sp18
  | 1182 => sp1182 d1182
  | 11 => sp11
  | 1014 => sp1014 d1014
  | 98 => sp98
  | 1195 => sp1195
  | 1057 => sp1057
  | 1190 => sp1190
  | 1344 => sp1344
  | 1346 => sp1346
  | 1342 => sp1342
  | 1343 => sp1343
  | 1348 => sp1348
  | 1349 => sp1349
  | 1191 => sp1191
  | 1192 => sp1192
  | 1056 => sp1056
  | 1565 => sp1565
  | 143 => sp143
  | _ => fun _ _ _ _ => False
abbrev k0 : D := .int 128
def κL : Nat → D
  | 10 => k10
  | 32 => k32
  | 33 => k33
  | 13 => k13
  | 11 => k11
  | 15 => k15
  | 12 => k12
  | 0 => k0
  | 4 => k4
  | 3 => k3
  | 5 => k5
  | 30 => k30
  | 14 => k14
  | 6 => k6
  | 1 => k1
  | 40 => k40
  | 39 => k39
  | 41 => k41
  | 16 => k16
  | _ => .non
def FLL : List (Str × Str) := [(("OpenBracket", "token") : Str × Str), (("OpenBracket", "number") : Str × Str), (("OpenBracket", "alternatives") : Str × Str), (("OpenBracket", "members") : Str × Str), (("TreeBuilder", "brackets") : Str × Str), (("TreeBuilder", "group_names") : Str × Str), (("TreeBuilder", "look_count") : Str × Str)]
abbrev clsL (K : PySem.W.Frag) : Str → Addr := fun c => He.ga K c
def xcL : XCtx := { xs := ["FirstwayError", "FlagsError", "PatternError"], xr := ["FlagsError"], xi := [("PatternError", ["column", "expected"])], xf := [("PatternError", "column"), ("PatternError", "expected")], kd := [("ANCHORS", [("A", "text_start"), ("z", "text_end"), ("b", "word_boundary"), ("B", "no_word_boundary")])] }
theorem sc1327 : FnScope ["self", "column", "expected"] ["self", "column", "expected"] (defScope s1327) := ⟨rfl, rfl, rfl, by decide +kernel, rfl, by decide +kernel, by decide +kernel⟩
theorem ck1327 : chkIs (ctxI ["self", "column", "expected"] (defScope s1327)) ((["column", "expected"] : List Str).zip (List.range' 1 2)) (defBody s1327) = true := by decide +kernel
def N1 : List Str := ["_law_script", "_law_k", "_law_cell", "_law_mixed"]
def G1 : List (Str × GD) := []
def B1 : List Str := ["len", "int"]
theorem sc1 : FnScope N1 ["_law_script", "_law_k"] (defScope s1) := ⟨rfl, rfl, rfl, by decide +kernel, rfl, by decide +kernel, by decide +kernel⟩
theorem ck1 : chkSs ⟨N1, defScope s1, fun _ => true, G1, B1, [], [], [], [], [], [], [], {}⟩ c1 (defBody s1) = true := by decide +kernel
def N2 : List Str := ["_law_script", "_law_state", "_law_many", "_law_digit_here"]
def G2 : List (Str × GD) := [("_law_row", .fn 1)]
def B2 : List Str := ["int"]
theorem sc2 : FnScope N2 ["_law_script", "_law_state", "_law_many"] (defScope s2) := ⟨rfl, rfl, rfl, by decide +kernel, rfl, by decide +kernel, by decide +kernel⟩
theorem ck2 : chkSs ⟨N2, defScope s2, fun _ => true, G2, B2, [], [], [], [], [], [], [], {}⟩ c2 (defBody s2) = true := by decide +kernel
def N139 : List Str := ["_law_found"]
def G139 : List (Str × GD) := []
def B139 : List Str := []
theorem sc139 : FnScope N139 [] (defScope s139) := ⟨rfl, rfl, rfl, by decide +kernel, rfl, by decide +kernel, by decide +kernel⟩
theorem ck139 : chkSs ⟨N139, defScope s139, fun _ => true, G139, B139, [], [], [], [], [], [], [], {}⟩ c139 (defBody s139) = true := by decide +kernel
def N140 : List Str := ["_law_found"]
def G140 : List (Str × GD) := []
def B140 : List Str := []
theorem sc140 : FnScope N140 [] (defScope s140) := ⟨rfl, rfl, rfl, by decide +kernel, rfl, by decide +kernel, by decide +kernel⟩
theorem ck140 : chkSs ⟨N140, defScope s140, fun _ => true, G140, B140, [], [], [], [], [], [], [], {}⟩ c140 (defBody s140) = true := by decide +kernel
def N141 : List Str := ["_law_found"]
def G141 : List (Str × GD) := []
def B141 : List Str := []
theorem sc141 : FnScope N141 [] (defScope s141) := ⟨rfl, rfl, rfl, by decide +kernel, rfl, by decide +kernel, by decide +kernel⟩
theorem ck141 : chkSs ⟨N141, defScope s141, fun _ => true, G141, B141, [], [], [], [], [], [], [], {}⟩ c141 (defBody s141) = true := by decide +kernel
def N535 : List Str := ["self", "token", "number"]
def G535 : List (Str × GD) := []
def B535 : List Str := []
theorem sc535 : FnScope N535 ["self", "token", "number"] (defScope s535) := ⟨rfl, rfl, rfl, by decide +kernel, rfl, by decide +kernel, by decide +kernel⟩
theorem ck535 : chkSs ⟨N535, defScope s535, fun _ => true, G535, B535, FLL, [], [], [], [], [], [], {}⟩ c535 (defBody s535) = true := by decide +kernel
def N1189 : List Str := ["self"]
def G1189 : List (Str × GD) := []
def B1189 : List Str := []
theorem sc1189 : FnScope N1189 ["self"] (defScope s1189) := ⟨rfl, rfl, rfl, by decide +kernel, rfl, by decide +kernel, by decide +kernel⟩
theorem ck1189 : chkSs ⟨N1189, defScope s1189, fun _ => true, G1189, B1189, FLL, [("OpenBracket", 535, "OpenBracket")], [], [], [], [], [], {}⟩ c1189 (defBody s1189) = true := by decide +kernel
def N1181 : List Str := ["source", "index", "start", "first", "at"]
def G1181 : List (Str × GD) := [("LETTERS", .cst 10), ("NAME_LENGTH", .cst 32), ("NAME_SIGNS", .cst 33)]
def B1181 : List Str := ["len"]
theorem sc1181 : FnScope N1181 ["source", "index"] (defScope s1181) := ⟨rfl, rfl, rfl, by decide +kernel, rfl, by decide +kernel, by decide +kernel⟩
theorem ck1181 : chkSs ⟨N1181, defScope s1181, fun _ => true, G1181, B1181, [], [], [], [], [], [], [], xcL⟩ c1181 (defBody s1181) = true := by decide +kernel
def N1193 : List Str := ["source", "index", "written", "kind", "look"]
def G1193 : List (Str × GD) := [("read_name", .fn 1181), ("OPENERS", .cst 13)]
def B1193 : List Str := ["len"]
theorem sc1193 : FnScope N1193 ["source", "index"] (defScope s1193) := ⟨rfl, rfl, rfl, by decide +kernel, rfl, by decide +kernel, by decide +kernel⟩
theorem ck1193 : chkSs ⟨N1193, defScope s1193, fun _ => true, G1193, B1193, [], [], [], [], [], [], [], xcL⟩ c1193 (defBody s1193) = true := by decide +kernel
def N1013 : List Str := ["source", "index", "start", "count"]
def G1013 : List (Str × GD) := [("FIGURES", .cst 11), ("MOST_COUNT", .cst 15)]
def B1013 : List Str := ["len", "int"]
theorem sc1013 : FnScope N1013 ["source", "index"] (defScope s1013) := ⟨rfl, rfl, rfl, by decide +kernel, rfl, by decide +kernel, by decide +kernel⟩
theorem ck1013 : chkSs ⟨N1013, defScope s1013, fun _ => true, G1013, B1013, [], [], [], [], [], [], [], xcL⟩ c1013 (defBody s1013) = true := by decide +kernel
def N1347 : List Str := ["source", "index", "least", "after", "most", "end"]
def G1347 : List (Str × GD) := [("read_count", .fn 1013)]
def B1347 : List Str := []
theorem sc1347 : FnScope N1347 ["source", "index"] (defScope s1347) := ⟨rfl, rfl, rfl, by decide +kernel, rfl, by decide +kernel, by decide +kernel⟩
theorem ck1347 : chkSs ⟨N1347, defScope s1347, fun _ => true, G1347, B1347, [], [], [], [], [], [], [], xcL⟩ c1347 (defBody s1347) = true := by decide +kernel
def N1194 : List Str := ["source", "index", "counts", "greedy", "least", "most", "after"]
def G1194 : List (Str × GD) := [("read_counts", .fn 1347)]
def B1194 : List Str := ["int"]
theorem sc1194 : FnScope N1194 ["source", "index"] (defScope s1194) := ⟨rfl, rfl, rfl, by decide +kernel, rfl, by decide +kernel, by decide +kernel⟩
theorem ck1194 : chkSs ⟨N1194, defScope s1194, fun _ => true, G1194, B1194, [], [], [], [], [], [], [], {}⟩ c1194 (defBody s1194) = true := by decide +kernel
def N95 : List Str := ["sign", "flags", "names"]
def G95 : List (Str × GD) := []
def B95 : List Str := ["int"]
theorem sc95 : FnScope N95 ["sign", "flags"] (defScope s95) := ⟨rfl, rfl, rfl, by decide +kernel, rfl, by decide +kernel, by decide +kernel⟩
theorem ck95 : chkSs ⟨N95, defScope s95, fun _ => true, G95, B95, [], [], [], [], [], [], [], {}⟩ c95 (defBody s95) = true := by decide +kernel
def N1183 : List Str := ["source", "index", "pair"]
def G1183 : List (Str × GD) := []
def B1183 : List Str := []
theorem sc1183 : FnScope N1183 ["source", "index"] (defScope s1183) := ⟨rfl, rfl, rfl, by decide +kernel, rfl, by decide +kernel, by decide +kernel⟩
theorem ck1183 : chkSs ⟨N1183, defScope s1183, fun _ => true, G1183, B1183, [], [], [], [], [], [], [], {}⟩ c1183 (defBody s1183) = true := by decide +kernel
def N1184 : List Str := ["source", "index", "allowed", "expected", "digit"]
def G1184 : List (Str × GD) := [("HEXADECIMAL", .cst 12)]
def B1184 : List Str := []
theorem sc1184 : FnScope N1184 ["source", "index", "allowed", "expected"] (defScope s1184) := ⟨rfl, rfl, rfl, by decide +kernel, rfl, by decide +kernel, by decide +kernel⟩
theorem ck1184 : chkSs ⟨N1184, defScope s1184, fun _ => true, G1184, B1184, [], [], [], [], [], [], [], xcL⟩ c1184 (defBody s1184) = true := by decide +kernel
def N10 : List Str := ["a", "ranges", "start", "low", "high"]
def G10 : List (Str × GD) := [("LIMIT", .cst 0)]
def B10 : List Str := ["tuple"]
theorem sc10 : FnScope N10 ["a"] (defScope s10) := ⟨rfl, rfl, rfl, by decide +kernel, rfl, by decide +kernel, by decide +kernel⟩
theorem ck10 : chkSs ⟨N10, defScope s10, fun _ => true, G10, B10, [], [], [], [], [], [], [], {}⟩ c10 (defBody s10) = true := by decide +kernel
def N1185 : List Str := ["letter", "known"]
def G1185 : List (Str × GD) := [("complement", .fn 10), ("WORD", .cst 4), ("WHITE", .cst 3), ("DIGITS", .cst 5)]
def B1185 : List Str := []
theorem sc1185 : FnScope N1185 ["letter"] (defScope s1185) := ⟨rfl, rfl, rfl, by decide +kernel, rfl, by decide +kernel, by decide +kernel⟩
theorem ck1185 : chkSs ⟨N1185, defScope s1185, fun _ => true, G1185, B1185, [], [], [], [], [], [], [], {}⟩ c1185 (defBody s1185) = true := by decide +kernel
def N1186 : List Str := ["sign"]
def G1186 : List (Str × GD) := [("LETTERS", .cst 10), ("FIGURES", .cst 11)]
def B1186 : List Str := []
theorem sc1186 : FnScope N1186 ["sign"] (defScope s1186) := ⟨rfl, rfl, rfl, by decide +kernel, rfl, by decide +kernel, by decide +kernel⟩
theorem ck1186 : chkSs ⟨N1186, defScope s1186, fun _ => true, G1186, B1186, [], [], [], [], [], [], [], {}⟩ c1186 (defBody s1186) = true := by decide +kernel
def N1015 : List Str := ["source", "index", "letter", "high", "low"]
def G1015 : List (Str × GD) := [("hexadecimal", .fn 1184), ("set_of", .fn 1185), ("is_sign", .fn 1186), ("OCTAL", .cst 30), ("HEXADECIMAL", .cst 12)]
def B1015 : List Str := ["ord"]
theorem sc1015 : FnScope N1015 ["source", "index"] (defScope s1015) := ⟨rfl, rfl, rfl, by decide +kernel, rfl, by decide +kernel, by decide +kernel⟩
theorem ck1015 : chkSs ⟨N1015, defScope s1015, fun _ => true, G1015, B1015, [], [], [], [], [], [], [], xcL⟩ c1015 (defBody s1015) = true := by decide +kernel
def N1187 : List Str := ["source", "index", "sign", "kind", "found", "after"]
def G1187 : List (Str × GD) := [("read_escape", .fn 1015)]
def B1187 : List Str := ["ord"]
theorem sc1187 : FnScope N1187 ["source", "index"] (defScope s1187) := ⟨rfl, rfl, rfl, by decide +kernel, rfl, by decide +kernel, by decide +kernel⟩
theorem ck1187 : chkSs ⟨N1187, defScope s1187, fun _ => true, G1187, B1187, [], [], [], [], [], [], [], xcL⟩ c1187 (defBody s1187) = true := by decide +kernel
def N1188 : List Str := ["source", "index", "first", "sign", "code", "after"]
def G1188 : List (Str × GD) := [("operator_at", .fn 1183), ("read_item", .fn 1187)]
def B1188 : List Str := []
theorem sc1188 : FnScope N1188 ["source", "index", "first"] (defScope s1188) := ⟨rfl, rfl, rfl, by decide +kernel, rfl, by decide +kernel, by decide +kernel⟩
theorem ck1188 : chkSs ⟨N1188, defScope s1188, fun _ => true, G1188, B1188, [], [], [], [], [], [], [], xcL⟩ c1188 (defBody s1188) = true := by decide +kernel
def N0 : List Str := ["pairs", "ranges", "low", "high"]
def G0 : List (Str × GD) := []
def B0 : List Str := ["sorted", "max", "tuple"]
theorem sc0 : FnScope N0 ["pairs"] (defScope s0) := ⟨rfl, rfl, rfl, by decide +kernel, rfl, by decide +kernel, by decide +kernel⟩
theorem ck0 : chkSs ⟨N0, defScope s0, fun _ => true, G0, B0, [], [], [], [], [], [], [], {}⟩ c0 (defBody s0) = true := by decide +kernel
def N9 : List Str := ["a", "b", "ranges", "low", "high", "start", "stop"]
def G9 : List (Str × GD) := [("make_set", .fn 0)]
def B9 : List Str := ["max", "min"]
theorem sc9 : FnScope N9 ["a", "b"] (defScope s9) := ⟨rfl, rfl, rfl, by decide +kernel, rfl, by decide +kernel, by decide +kernel⟩
theorem ck9 : chkSs ⟨N9, defScope s9, fun _ => true, G9, B9, [], [], [], [], [], [], [], {}⟩ c9 (defBody s9) = true := by decide +kernel
def N17 : List Str := ["a", "offset", "low", "high"]
def G17 : List (Str × GD) := []
def B17 : List Str := []
theorem sc17 : FnScope N17 ["a", "offset"] (defScope s17) := ⟨rfl, rfl, rfl, by decide +kernel, rfl, by decide +kernel, by decide +kernel⟩
theorem ck17 : chkSs ⟨N17, defScope s17, fun _ => true, G17, B17, [], [], [], [], [], [], [], {}⟩ c17 (defBody s17) = true := by decide +kernel
def N18 : List Str := ["a", "upper", "lower"]
def G18 : List (Str × GD) := [("common", .fn 9), ("make_set", .fn 0), ("shifted", .fn 17)]
def B18 : List Str := ["list"]
theorem sc18 : FnScope N18 ["a"] (defScope s18) := ⟨rfl, rfl, rfl, by decide +kernel, rfl, by decide +kernel, by decide +kernel⟩
theorem ck18 : chkSs ⟨N18, defScope s18, fun _ => true, G18, B18, [], [], [], [], [], [], [], {}⟩ c18 (defBody s18) = true := by decide +kernel
def N1182 : List Str := ["source", "index", "fold", "depth", "pairs", "single", "start", "part", "sign", "codes", "last"]
def G1182 : List (Str × GD) := [("operator_at", .fn 1183), ("read_class", .fn 1014), ("read_item", .fn 1187), ("read_range_end", .fn 1188), ("make_set", .fn 0), ("folded", .fn 18)]
def B1182 : List Str := []
theorem sc1182 : FnScope N1182 ["source", "index", "fold", "depth"] (defScope s1182) := ⟨rfl, rfl, rfl, by decide +kernel, rfl, by decide +kernel, by decide +kernel⟩
theorem ck1182 : chkSs ⟨N1182, defScope s1182, fun _ => true, G1182, B1182, [], [], [], [], [], [], [], xcL⟩ c1182 (defBody s1182) = true := by decide +kernel
def N11 : List Str := ["a", "b"]
def G11 : List (Str × GD) := [("common", .fn 9), ("complement", .fn 10)]
def B11 : List Str := []
theorem sc11 : FnScope N11 ["a", "b"] (defScope s11) := ⟨rfl, rfl, rfl, by decide +kernel, rfl, by decide +kernel, by decide +kernel⟩
theorem ck11 : chkSs ⟨N11, defScope s11, fun _ => true, G11, B11, [], [], [], [], [], [], [], {}⟩ c11 (defBody s11) = true := by decide +kernel
def N1014 : List Str := ["source", "index", "fold", "depth", "inverted", "operator", "codes", "filled", "at", "part"]
def G1014 : List (Str × GD) := [("read_part", .fn 1182), ("operator_at", .fn 1183), ("common", .fn 9), ("without", .fn 11), ("complement", .fn 10), ("CLASS_DEPTH", .cst 14)]
def B1014 : List Str := ["int"]
theorem sc1014 : FnScope N1014 ["source", "index", "fold", "depth"] (defScope s1014) := ⟨rfl, rfl, rfl, by decide +kernel, rfl, by decide +kernel, by decide +kernel⟩
theorem ck1014 : chkSs ⟨N1014, defScope s1014, fun _ => true, G1014, B1014, [], [], [], [], [], [], [], xcL⟩ c1014 (defBody s1014) = true := by decide +kernel
def N98 : List Str := ["code", "flags", "codes"]
def G98 : List (Str × GD) := [("folded", .fn 18)]
def B98 : List Str := []
theorem sc98 : FnScope N98 ["code", "flags"] (defScope s98) := ⟨rfl, rfl, rfl, by decide +kernel, rfl, by decide +kernel, by decide +kernel⟩
theorem ck98 : chkSs ⟨N98, defScope s98, fun _ => true, G98, B98, [], [], [], [], [], [], [], {}⟩ c98 (defBody s98) = true := by decide +kernel
def N1195 : List Str := ["source", "index", "flags", "sign", "codes", "after", "kind", "found"]
def G1195 : List (Str × GD) := [("caret_or_dollar", .fn 95), ("read_class", .fn 1014), ("read_escape", .fn 1015), ("code_tree", .fn 98), ("EVERY", .cst 6), ("IN_LINE", .cst 1)]
def B1195 : List Str := ["ord"]
theorem sc1195 : FnScope N1195 ["source", "index", "flags"] (defScope s1195) := ⟨rfl, rfl, rfl, by decide +kernel, rfl, by decide +kernel, by decide +kernel⟩
theorem ck1195 : chkSs ⟨N1195, defScope s1195, fun _ => true, G1195, B1195, [], [], [], [], [], [], [], {}⟩ c1195 (defBody s1195) = true := by decide +kernel
def N1057 : List Str := ["source", "index", "flags", "sign", "tree", "after"]
def G1057 : List (Str × GD) := [("read_bracket", .fn 1193), ("read_repeat", .fn 1194), ("read_element", .fn 1195)]
def B1057 : List Str := []
theorem sc1057 : FnScope N1057 ["source", "index", "flags"] (defScope s1057) := ⟨rfl, rfl, rfl, by decide +kernel, rfl, by decide +kernel, by decide +kernel⟩
theorem ck1057 : chkSs ⟨N1057, defScope s1057, fun _ => true, G1057, B1057, [], [], [], [], [], [], [], xcL⟩ c1057 (defBody s1057) = true := by decide +kernel
def N1190 : List Str := ["source", "flags", "found", "index", "token"]
def G1190 : List (Str × GD) := [("read_token", .fn 1057)]
def B1190 : List Str := ["len"]
theorem sc1190 : FnScope N1190 ["source", "flags"] (defScope s1190) := ⟨rfl, rfl, rfl, by decide +kernel, rfl, by decide +kernel, by decide +kernel⟩
theorem ck1190 : chkSs ⟨N1190, defScope s1190, fun _ => true, G1190, B1190, [], [], [], [], [], [], [], {}⟩ c1190 (defBody s1190) = true := by decide +kernel
def N1344 : List Str := ["self", "token"]
def G1344 : List (Str × GD) := [("BRACKET_DEPTH", .cst 40)]
def B1344 : List Str := ["len"]
theorem sc1344 : FnScope N1344 ["self", "token"] (defScope s1344) := ⟨rfl, rfl, rfl, by decide +kernel, rfl, by decide +kernel, by decide +kernel⟩
theorem ck1344 : chkSs ⟨N1344, defScope s1344, fun _ => true, G1344, B1344, FLL, [("OpenBracket", 535, "OpenBracket")], [], [], [], [], [], xcL⟩ c1344 (defBody s1344) = true := by decide +kernel
def N1346 : List Str := ["members", "kind", "tree", "total", "member"]
def G1346 : List (Str × GD) := []
def B1346 : List Str := []
theorem sc1346 : FnScope N1346 ["members", "kind"] (defScope s1346) := ⟨rfl, rfl, rfl, by decide +kernel, rfl, by decide +kernel, by decide +kernel⟩
theorem ck1346 : chkSs ⟨N1346, defScope s1346, fun _ => true, G1346, B1346, [], [], [], [], [], [], [], {}⟩ c1346 (defBody s1346) = true := by decide +kernel
def N1342 : List Str := ["self"]
def G1342 : List (Str × GD) := [("joined", .fn 1346)]
def B1342 : List Str := []
theorem sc1342 : FnScope N1342 ["self"] (defScope s1342) := ⟨rfl, rfl, rfl, by decide +kernel, rfl, by decide +kernel, by decide +kernel⟩
theorem ck1342 : chkSs ⟨N1342, defScope s1342, fun _ => true, G1342, B1342, FLL, [], [], [], [], [], [], {}⟩ c1342 (defBody s1342) = true := by decide +kernel
def N1343 : List Str := ["self"]
def G1343 : List (Str × GD) := [("joined", .fn 1346)]
def B1343 : List Str := []
theorem sc1343 : FnScope N1343 ["self"] (defScope s1343) := ⟨rfl, rfl, rfl, by decide +kernel, rfl, by decide +kernel, by decide +kernel⟩
theorem ck1343 : chkSs ⟨N1343, defScope s1343, fun _ => true, G1343, B1343, FLL, [], [("OpenBracket", "end_alternative", 1342)], [], [], [], [], {}⟩ c1343 (defBody s1343) = true := by decide +kernel
def N1348 : List Str := ["self", "token", "bracket", "tree", "total", "kind", "told"]
def G1348 : List (Str × GD) := []
def B1348 : List Str := ["len"]
theorem sc1348 : FnScope N1348 ["self", "token"] (defScope s1348) := ⟨rfl, rfl, rfl, by decide +kernel, rfl, by decide +kernel, by decide +kernel⟩
theorem ck1348 : chkSs ⟨N1348, defScope s1348, fun _ => true, G1348, B1348, FLL, [], [("OpenBracket", "content", 1343)], [], [], [], [], xcL⟩ c1348 (defBody s1348) = true := by decide +kernel
def N1349 : List Str := ["self", "token", "members", "tree", "total", "_", "least", "most"]
def G1349 : List (Str × GD) := [("MOST_WEIGHT", .cst 39)]
def B1349 : List Str := ["max"]
theorem sc1349 : FnScope N1349 ["self", "token"] (defScope s1349) := ⟨rfl, rfl, rfl, by decide +kernel, rfl, by decide +kernel, by decide +kernel⟩
theorem ck1349 : chkSs ⟨N1349, defScope s1349, fun _ => true, G1349, B1349, FLL, [], [], [], [], [], [], xcL⟩ c1349 (defBody s1349) = true := by decide +kernel
def N1191 : List Str := ["self", "token", "kind"]
def G1191 : List (Str × GD) := []
def B1191 : List Str := []
theorem sc1191 : FnScope N1191 ["self", "token"] (defScope s1191) := ⟨rfl, rfl, rfl, by decide +kernel, rfl, by decide +kernel, by decide +kernel⟩
theorem ck1191 : chkSs ⟨N1191, defScope s1191, fun _ => true, G1191, B1191, FLL, [], [("TreeBuilder", "enter", 1344), ("TreeBuilder", "leave", 1348), ("OpenBracket", "end_alternative", 1342), ("TreeBuilder", "repeat_last", 1349)], [], [], [], [], {}⟩ c1191 (defBody s1191) = true := by decide +kernel
def N1192 : List Str := ["self", "tree", "total"]
def G1192 : List (Str × GD) := [("MOST_WEIGHT", .cst 39), ("MOST_LOOKS", .cst 41)]
def B1192 : List Str := ["len", "tuple"]
theorem sc1192 : FnScope N1192 ["self"] (defScope s1192) := ⟨rfl, rfl, rfl, by decide +kernel, rfl, by decide +kernel, by decide +kernel⟩
theorem ck1192 : chkSs ⟨N1192, defScope s1192, fun _ => true, G1192, B1192, FLL, [], [("OpenBracket", "content", 1343)], [], [], [], [], xcL⟩ c1192 (defBody s1192) = true := by decide +kernel
def N1056 : List Str := ["source", "flags", "builder", "token"]
def G1056 : List (Str × GD) := [("tokens_of", .fn 1190), ("FLAG_TEXTS", .cst 16)]
def B1056 : List Str := []
theorem sc1056 : FnScope N1056 ["source", "flags"] (defScope s1056) := ⟨rfl, rfl, rfl, by decide +kernel, rfl, by decide +kernel, by decide +kernel⟩
theorem ck1056 : chkSs ⟨N1056, defScope s1056, fun _ => true, G1056, B1056, [], [("TreeBuilder", 1189, "TreeBuilder")], [("TreeBuilder", "take", 1191), ("TreeBuilder", "whole_tree", 1192)], [], [], [], [], xcL⟩ c1056 (defBody s1056) = true := by decide +kernel
def N1565 : List Str := ["_law_source", "error"]
def G1565 : List (Str × GD) := [("read_pattern", .fn 1056)]
def B1565 : List Str := ["isinstance", "ValueError", "bool", "str"]
theorem sc1565 : FnScope N1565 ["_law_source"] (defScope s1565) := ⟨rfl, rfl, rfl, by decide +kernel, rfl, by decide +kernel, by decide +kernel⟩
theorem ck1565 : chkBs ⟨N1565, defScope s1565, fun _ => true, G1565, B1565, [], [], [], [], [], [], [], xcL⟩ x1565 c1565 (defBody s1565) = true := by decide +kernel
def N143 : List Str := ["_law_found"]
def G143 : List (Str × GD) := []
def B143 : List Str := []
theorem sc143 : FnScope N143 [] (defScope s143) := ⟨rfl, rfl, rfl, by decide +kernel, rfl, by decide +kernel, by decide +kernel⟩
theorem ck143 : chkSs ⟨N143, defScope s143, fun _ => true, G143, B143, [], [], [], [], [], [], [], {}⟩ c143 (defBody s143) = true := by decide +kernel
def N1354 : List Str := ["_law_script", "_law_state", "_law_tokens", "_law_prefix", "_law_tail", "_law_style", "_law_piece", "_law_mended_here", "_law_pieces_here", "_law_k"]
def G1354 : List (Str × GD) := [("_law_digit", .fn 2), ("_law_ends", .fn 139), ("_law_in_classes", .fn 140), ("_law_pieces", .fn 141), ("_law_error", .fn 1565), ("_law_mended", .fn 143)]
def B1354 : List Str := ["range", "len"]
theorem sc1354 : FnScope N1354 ["_law_script"] (defScope s1354) := ⟨rfl, rfl, rfl, by decide +kernel, rfl, by decide +kernel, by decide +kernel⟩
theorem ck1354 : chkSs ⟨N1354, defScope s1354, fun _ => true, G1354, B1354, [], [], [], [], [], [], [], {}⟩ c1354 (defBody s1354) = true := by decide +kernel
abbrev FnL (K : PySem.W.Frag) (d : He.DefD) (f : Addr) (fd : FuncData) : Prop := FunD K d.name d.qual d.params d.body d.scope [] [] f fd
section
structure FGl (mg : Str → Option Value) (T : Addr → FuncData → Prop) (nm : Str) where
  f : Addr
  d : FuncData
  F : T f d
  g : mg nm = some (.ref f)
structure FGm (P : Pm) (c n : Str) (T : Addr → FuncData → Prop) where
  f : Addr
  d : FuncData
  F : T f d
  g : Cls P.K (P.cls c)
  m : Meth P.K (P.cls c) n f
structure FGi (P : Pm) (mg : Str → Option Value) (c : Str) (T : Addr → FuncData → Prop) where
  f : Addr
  d : FuncData
  F : T f d
  g : mg c = some (.ref (P.cls c))
  k : L2.Mk P.K (P.cls c) f
structure EV (P : Pm) (mg : Str → Option Value) (base : Heap) where
  e1 : FGl mg (FnL P.K dd1) "_law_row"
  e2 : FGl mg (FnL P.K dd2) "_law_digit"
  e139 : FGl mg (FnL P.K dd139) "_law_ends"
  e140 : FGl mg (FnL P.K dd140) "_law_in_classes"
  e141 : FGl mg (FnL P.K dd141) "_law_pieces"
  e535 : FGi P mg "OpenBracket" (FnL P.K dd535)
  e1189 : FGi P mg "TreeBuilder" (FnL P.K dd1189)
  e1181 : FGl mg (FnL P.K dd1181) "read_name"
  e1193 : FGl mg (FnL P.K dd1193) "read_bracket"
  e1013 : FGl mg (FnL P.K dd1013) "read_count"
  e1347 : FGl mg (FnL P.K dd1347) "read_counts"
  e1194 : FGl mg (FnL P.K dd1194) "read_repeat"
  e95 : FGl mg (FnL P.K dd95) "caret_or_dollar"
  e1183 : FGl mg (FnL P.K dd1183) "operator_at"
  e1184 : FGl mg (FnL P.K dd1184) "hexadecimal"
  e10 : FGl mg (FnL P.K dd10) "complement"
  e1185 : FGl mg (FnL P.K dd1185) "set_of"
  e1186 : FGl mg (FnL P.K dd1186) "is_sign"
  e1015 : FGl mg (FnL P.K dd1015) "read_escape"
  e1187 : FGl mg (FnL P.K dd1187) "read_item"
  e1188 : FGl mg (FnL P.K dd1188) "read_range_end"
  e0 : FGl mg (FnL P.K dd0) "make_set"
  e9 : FGl mg (FnL P.K dd9) "common"
  e17 : FGl mg (FnL P.K dd17) "shifted"
  e18 : FGl mg (FnL P.K dd18) "folded"
  e1182 : FGl mg (FnL P.K dd1182) "read_part"
  e11 : FGl mg (FnL P.K dd11) "without"
  e1014 : FGl mg (FnL P.K dd1014) "read_class"
  e98 : FGl mg (FnL P.K dd98) "code_tree"
  e1195 : FGl mg (FnL P.K dd1195) "read_element"
  e1057 : FGl mg (FnL P.K dd1057) "read_token"
  e1190 : FGl mg (FnL P.K dd1190) "tokens_of"
  e1344 : FGm P "TreeBuilder" "enter" (FnL P.K dd1344)
  e1346 : FGl mg (FnL P.K dd1346) "joined"
  e1342 : FGm P "OpenBracket" "end_alternative" (FnL P.K dd1342)
  e1343 : FGm P "OpenBracket" "content" (FnL P.K dd1343)
  e1348 : FGm P "TreeBuilder" "leave" (FnL P.K dd1348)
  e1349 : FGm P "TreeBuilder" "repeat_last" (FnL P.K dd1349)
  e1191 : FGm P "TreeBuilder" "take" (FnL P.K dd1191)
  e1192 : FGm P "TreeBuilder" "whole_tree" (FnL P.K dd1192)
  e1056 : FGl mg (FnL P.K dd1056) "read_pattern"
  e1565 : FGl mg (FnL P.K dd1565) "_law_error"
  e143 : FGl mg (FnL P.K dd143) "_law_mended"
  e1354 : FGl mg (FnL P.K dd1354) "law"
  fl : ∀ q ∈ FLL, Cls P.K (P.cls q.1) ∧ NoAttr P.K (P.cls q.1) q.2
  xo : ∀ k, 2 ≤ k → XOk P.pg P.wl P.K mg base P xcL k
  hc10 : ∃ u v, mg "LETTERS" = some u ∧ RelV v u ∧ ∀ w, RelD P w (k10) v
  hc32 : ∃ u v, mg "NAME_LENGTH" = some u ∧ RelV v u ∧ ∀ w, RelD P w (k32) v
  hc33 : ∃ u v, mg "NAME_SIGNS" = some u ∧ RelV v u ∧ ∀ w, RelD P w (k33) v
  hc13 : ∃ u v, mg "OPENERS" = some u ∧ RelV v u ∧ ∀ w, RelD P w (k13) v
  hc11 : ∃ u v, mg "FIGURES" = some u ∧ RelV v u ∧ ∀ w, RelD P w (k11) v
  hc15 : ∃ u v, mg "MOST_COUNT" = some u ∧ RelV v u ∧ ∀ w, RelD P w (k15) v
  hc12 : ∃ u v, mg "HEXADECIMAL" = some u ∧ RelV v u ∧ ∀ w, RelD P w (k12) v
  hc0 : ∃ u v, mg "LIMIT" = some u ∧ RelV v u ∧ ∀ w, RelD P w (k0) v
  hc4 : ∃ u v, mg "WORD" = some u ∧ RelV v u ∧ ∀ w, RelD P w (k4) v
  hc3 : ∃ u v, mg "WHITE" = some u ∧ RelV v u ∧ ∀ w, RelD P w (k3) v
  hc5 : ∃ u v, mg "DIGITS" = some u ∧ RelV v u ∧ ∀ w, RelD P w (k5) v
  hc30 : ∃ u v, mg "OCTAL" = some u ∧ RelV v u ∧ ∀ w, RelD P w (k30) v
  hc14 : ∃ u v, mg "CLASS_DEPTH" = some u ∧ RelV v u ∧ ∀ w, RelD P w (k14) v
  hc6 : ∃ u v, mg "EVERY" = some u ∧ RelV v u ∧ ∀ w, RelD P w (k6) v
  hc1 : ∃ u v, mg "IN_LINE" = some u ∧ RelV v u ∧ ∀ w, RelD P w (k1) v
  hc40 : ∃ u v, mg "BRACKET_DEPTH" = some u ∧ RelV v u ∧ ∀ w, RelD P w (k40) v
  hc39 : ∃ u v, mg "MOST_WEIGHT" = some u ∧ RelV v u ∧ ∀ w, RelD P w (k39) v
  hc41 : ∃ u v, mg "MOST_LOOKS" = some u ∧ RelV v u ∧ ∀ w, RelD P w (k41) v
  hc16 : ∃ u v, mg "FLAG_TEXTS" = some u ∧ RelV v u ∧ ∀ w, RelD P w (k16) v
  b_len : mg "len" = none
  b_int : mg "int" = none
  b_tuple : mg "tuple" = none
  b_ord : mg "ord" = none
  b_sorted : mg "sorted" = none
  b_max : mg "max" = none
  b_min : mg "min" = none
  b_list : mg "list" = none
  b_isinstance : mg "isinstance" = none
  b_ValueError : mg "ValueError" = none
  b_bool : mg "bool" = none
  b_str : mg "str" = none
  b_range : mg "range" = none
variable {P : Pm} {mg : Str → Option Value} {base : Heap}
theorem ok1 (e : EV P mg base) : OkD P.pg P.wl P.K mg base P 1 e.e1.f e.e1.d ["_law_script", "_law_k"] sp1 := okD (Φ := (ΦL 6 6)) (κ := κL) rfl rfl rfl (Tab.nil (by simp [B1, e.b_len, e.b_int])) e.e1.F sc1 ck1 ln1 (rd1)
theorem bn1 (e : EV P mg base) : Binds P.K e.e1.d ["_law_script", "_law_k"] [] := FunD.bindsN e.e1.F fun _ _ _ _ _ _ us hl => match us, hl with | [_, _], _ => rfl
theorem ok2 (e : EV P mg base) : OkD P.pg P.wl P.K mg base P 2 e.e2.f e.e2.d ["_law_script", "_law_state", "_law_many"] sp2w := okD (Φ := (ΦL 6 6)) (κ := κL) rfl rfl rfl (Tab.consF (Tab.nil (by simp [B2, e.b_int])) (by omega) e.e1.g e.e1.F.kp (ok1 e) (bn1 e)) e.e2.F sc2 ck2 ln2w (rd2w rfl)
theorem ok139 (e : EV P mg base) : OkD P.pg P.wl P.K mg base P 1 e.e139.f e.e139.d [] sp139 := okD (Φ := (ΦL 6 6)) (κ := κL) rfl rfl rfl (Tab.nil (by simp [B139])) e.e139.F sc139 ck139 ln139 (rd139)
theorem ok140 (e : EV P mg base) : OkD P.pg P.wl P.K mg base P 1 e.e140.f e.e140.d [] sp140 := okD (Φ := (ΦL 6 6)) (κ := κL) rfl rfl rfl (Tab.nil (by simp [B140])) e.e140.F sc140 ck140 ln140 (rd140)
theorem ok141 (e : EV P mg base) : OkD P.pg P.wl P.K mg base P 1 e.e141.f e.e141.d [] sp141 := okD (Φ := (ΦL 6 6)) (κ := κL) rfl rfl rfl (Tab.nil (by simp [B141])) e.e141.F sc141 ck141 ln141 (rd141)
theorem ok535 (e : EV P mg base) : OkD P.pg P.wl P.K mg base P 1 e.e535.f e.e535.d ["self", "token", "number"] sp535 := okDC (Φ := (ΦL 6 6)) (κ := κL) rfl rfl rfl (Tab.nil (by simp [B535])) e.e535.F sc535 ck535 e.fl (fun _ h => by cases h) ln535 (rd535)
theorem bn535 (e : EV P mg base) : Binds P.K e.e535.d ["self", "token", "number"] [] := FunD.bindsN e.e535.F fun _ _ _ _ _ _ us hl => match us, hl with | [_, _, _], _ => rfl
theorem ok1189 (e : EV P mg base) : OkD P.pg P.wl P.K mg base P 3 e.e1189.f e.e1189.d ["self"] sp1189 := okDC (Φ := (ΦL 6 6)) (κ := κL) rfl rfl rfl (Tab.nil (by simp [B1189])) e.e1189.F sc1189 ck1189 e.fl (by intro q hq; simp only [List.mem_cons, List.not_mem_nil, or_false] at hq; rcases hq with rfl; exact ⟨_, _, _, _, by omega, e.e535.g, e.e535.k, (ok535 e), (bn535 e)⟩) ln1189 (rd1189 rfl)
theorem ok1181 (e : EV P mg base) : OkD P.pg P.wl P.K mg base P 3 e.e1181.f e.e1181.d ["source", "index"] sp1181 := okDX (Φ := (ΦL 6 6)) (κ := κL) rfl rfl rfl (Tab.consC (Tab.consC (Tab.consC (Tab.nil (by simp [B1181, e.b_len])) e.hc33) e.hc32) e.hc10) e.e1181.F sc1181 (e.xo _ (by omega)) (.of ck1181) (fun _ h => by cases h) (fun _ h => by cases h) (fun _ h => by cases h) (fun _ h => by cases h) (fun _ h => by cases h) (fun _ h => by cases h) ln1181 (rd1181 rfl rfl rfl)
theorem bn1181 (e : EV P mg base) : Binds P.K e.e1181.d ["source", "index"] [] := FunD.bindsN e.e1181.F fun _ _ _ _ _ _ us hl => match us, hl with | [_, _], _ => rfl
theorem ok1193 (e : EV P mg base) : OkD P.pg P.wl P.K mg base P 4 e.e1193.f e.e1193.d ["source", "index"] sp1193 := okDX (Φ := (ΦL 6 6)) (κ := κL) rfl rfl rfl (Tab.consF (Tab.consC (Tab.nil (by simp [B1193, e.b_len])) e.hc13) (by omega) e.e1181.g e.e1181.F.kp (ok1181 e) (bn1181 e)) e.e1193.F sc1193 (e.xo _ (by omega)) (.of ck1193) (fun _ h => by cases h) (fun _ h => by cases h) (fun _ h => by cases h) (fun _ h => by cases h) (fun _ h => by cases h) (fun _ h => by cases h) ln1193 (rd1193 rfl rfl)
theorem ok1013 (e : EV P mg base) : OkD P.pg P.wl P.K mg base P 3 e.e1013.f e.e1013.d ["source", "index"] sp1013 := okDX (Φ := (ΦL 6 6)) (κ := κL) rfl rfl rfl (Tab.consC (Tab.consC (Tab.nil (by simp [B1013, e.b_len, e.b_int])) e.hc15) e.hc11) e.e1013.F sc1013 (e.xo _ (by omega)) (.of ck1013) (fun _ h => by cases h) (fun _ h => by cases h) (fun _ h => by cases h) (fun _ h => by cases h) (fun _ h => by cases h) (fun _ h => by cases h) ln1013 (rd1013 rfl rfl)
theorem bn1013 (e : EV P mg base) : Binds P.K e.e1013.d ["source", "index"] [] := FunD.bindsN e.e1013.F fun _ _ _ _ _ _ us hl => match us, hl with | [_, _], _ => rfl
theorem ok1347 (e : EV P mg base) : OkD P.pg P.wl P.K mg base P 4 e.e1347.f e.e1347.d ["source", "index"] sp1347 := okDX (Φ := (ΦL 6 6)) (κ := κL) rfl rfl rfl (Tab.consF (Tab.nil (by simp [B1347])) (by omega) e.e1013.g e.e1013.F.kp (ok1013 e) (bn1013 e)) e.e1347.F sc1347 (e.xo _ (by omega)) (.of ck1347) (fun _ h => by cases h) (fun _ h => by cases h) (fun _ h => by cases h) (fun _ h => by cases h) (fun _ h => by cases h) (fun _ h => by cases h) ln1347 (rd1347 rfl)
theorem bn1347 (e : EV P mg base) : Binds P.K e.e1347.d ["source", "index"] [] := FunD.bindsN e.e1347.F fun _ _ _ _ _ _ us hl => match us, hl with | [_, _], _ => rfl
theorem ok1194 (e : EV P mg base) : OkD P.pg P.wl P.K mg base P 5 e.e1194.f e.e1194.d ["source", "index"] sp1194 := okD (Φ := (ΦL 6 6)) (κ := κL) rfl rfl rfl (Tab.consF (Tab.nil (by simp [B1194, e.b_int])) (by omega) e.e1347.g e.e1347.F.kp (ok1347 e) (bn1347 e)) e.e1194.F sc1194 ck1194 ln1194 (rd1194 rfl)
theorem ok95 (e : EV P mg base) : OkD P.pg P.wl P.K mg base P 1 e.e95.f e.e95.d ["sign", "flags"] sp95 := okD (Φ := (ΦL 6 6)) (κ := κL) rfl rfl rfl (Tab.nil (by simp [B95, e.b_int])) e.e95.F sc95 ck95 ln95 (rd95)
theorem ok1183 (e : EV P mg base) : OkD P.pg P.wl P.K mg base P 1 e.e1183.f e.e1183.d ["source", "index"] sp1183 := okD (Φ := (ΦL 6 6)) (κ := κL) rfl rfl rfl (Tab.nil (by simp [B1183])) e.e1183.F sc1183 ck1183 ln1183 (rd1183)
theorem ok1184 (e : EV P mg base) : OkD P.pg P.wl P.K mg base P 3 e.e1184.f e.e1184.d ["source", "index", "allowed", "expected"] sp1184 := okDX (Φ := (ΦL 6 6)) (κ := κL) rfl rfl rfl (Tab.consC (Tab.nil (by simp [B1184])) e.hc12) e.e1184.F sc1184 (e.xo _ (by omega)) (.of ck1184) (fun _ h => by cases h) (fun _ h => by cases h) (fun _ h => by cases h) (fun _ h => by cases h) (fun _ h => by cases h) (fun _ h => by cases h) ln1184 (rd1184 rfl)
theorem ok10 (e : EV P mg base) : OkD P.pg P.wl P.K mg base P 1 e.e10.f e.e10.d ["a"] sp10 := okD (Φ := (ΦL 6 6)) (κ := κL) rfl rfl rfl (Tab.consC (Tab.nil (by simp [B10, e.b_tuple])) e.hc0) e.e10.F sc10 ck10 ln10 (rd10 rfl)
theorem bn10 (e : EV P mg base) : Binds P.K e.e10.d ["a"] [] := FunD.bindsN e.e10.F fun _ _ _ _ _ _ us hl => match us, hl with | [_], _ => rfl
theorem ok1185 (e : EV P mg base) : OkD P.pg P.wl P.K mg base P 2 e.e1185.f e.e1185.d ["letter"] sp1185 := okD (Φ := (ΦL 6 6)) (κ := κL) rfl rfl rfl (Tab.consF (Tab.consC (Tab.consC (Tab.consC (Tab.nil (by simp [B1185])) e.hc5) e.hc3) e.hc4) (by omega) e.e10.g e.e10.F.kp (ok10 e) (bn10 e)) e.e1185.F sc1185 ck1185 ln1185 (rd1185 rfl rfl rfl rfl)
theorem ok1186 (e : EV P mg base) : OkD P.pg P.wl P.K mg base P 1 e.e1186.f e.e1186.d ["sign"] sp1186 := okD (Φ := (ΦL 6 6)) (κ := κL) rfl rfl rfl (Tab.consC (Tab.consC (Tab.nil (by simp [B1186])) e.hc11) e.hc10) e.e1186.F sc1186 ck1186 ln1186 (rd1186 rfl rfl)
theorem bn1186 (e : EV P mg base) : Binds P.K e.e1186.d ["sign"] [] := FunD.bindsN e.e1186.F fun _ _ _ _ _ _ us hl => match us, hl with | [_], _ => rfl
theorem bn1185 (e : EV P mg base) : Binds P.K e.e1185.d ["letter"] [] := FunD.bindsN e.e1185.F fun _ _ _ _ _ _ us hl => match us, hl with | [_], _ => rfl
theorem bn1184 (e : EV P mg base) : Binds P.K e.e1184.d ["source", "index", "allowed", "expected"] [] := FunD.bindsN e.e1184.F fun _ _ _ _ _ _ us hl => match us, hl with | [_, _, _, _], _ => rfl
theorem ok1015 (e : EV P mg base) : OkD P.pg P.wl P.K mg base P 4 e.e1015.f e.e1015.d ["source", "index"] sp1015 := okDX (Φ := (ΦL 6 6)) (κ := κL) rfl rfl rfl (Tab.consF (Tab.consF (Tab.consF (Tab.consC (Tab.consC (Tab.nil (by simp [B1015, e.b_ord])) e.hc12) e.hc30) (by omega) e.e1186.g e.e1186.F.kp (ok1186 e) (bn1186 e)) (by omega) e.e1185.g e.e1185.F.kp (ok1185 e) (bn1185 e)) (by omega) e.e1184.g e.e1184.F.kp (ok1184 e) (bn1184 e)) e.e1015.F sc1015 (e.xo _ (by omega)) (.of ck1015) (fun _ h => by cases h) (fun _ h => by cases h) (fun _ h => by cases h) (fun _ h => by cases h) (fun _ h => by cases h) (fun _ h => by cases h) ln1015 (rd1015 rfl rfl rfl rfl rfl)
theorem bn1015 (e : EV P mg base) : Binds P.K e.e1015.d ["source", "index"] [] := FunD.bindsN e.e1015.F fun _ _ _ _ _ _ us hl => match us, hl with | [_, _], _ => rfl
theorem ok1187 (e : EV P mg base) : OkD P.pg P.wl P.K mg base P 5 e.e1187.f e.e1187.d ["source", "index"] sp1187 := okDX (Φ := (ΦL 6 6)) (κ := κL) rfl rfl rfl (Tab.consF (Tab.nil (by simp [B1187, e.b_ord])) (by omega) e.e1015.g e.e1015.F.kp (ok1015 e) (bn1015 e)) e.e1187.F sc1187 (e.xo _ (by omega)) (.of ck1187) (fun _ h => by cases h) (fun _ h => by cases h) (fun _ h => by cases h) (fun _ h => by cases h) (fun _ h => by cases h) (fun _ h => by cases h) ln1187 (rd1187 rfl)
theorem bn1187 (e : EV P mg base) : Binds P.K e.e1187.d ["source", "index"] [] := FunD.bindsN e.e1187.F fun _ _ _ _ _ _ us hl => match us, hl with | [_, _], _ => rfl
theorem bn1183 (e : EV P mg base) : Binds P.K e.e1183.d ["source", "index"] [] := FunD.bindsN e.e1183.F fun _ _ _ _ _ _ us hl => match us, hl with | [_, _], _ => rfl
theorem ok1188 (e : EV P mg base) : OkD P.pg P.wl P.K mg base P 6 e.e1188.f e.e1188.d ["source", "index", "first"] sp1188 := okDX (Φ := (ΦL 6 6)) (κ := κL) rfl rfl rfl (Tab.consF (Tab.consF (Tab.nil (by simp [B1188])) (by omega) e.e1187.g e.e1187.F.kp (ok1187 e) (bn1187 e)) (by omega) e.e1183.g e.e1183.F.kp (ok1183 e) (bn1183 e)) e.e1188.F sc1188 (e.xo _ (by omega)) (.of ck1188) (fun _ h => by cases h) (fun _ h => by cases h) (fun _ h => by cases h) (fun _ h => by cases h) (fun _ h => by cases h) (fun _ h => by cases h) ln1188 (rd1188 rfl rfl)
theorem ok0 (e : EV P mg base) : OkD P.pg P.wl P.K mg base P 1 e.e0.f e.e0.d ["pairs"] sp0 := okD (Φ := (ΦL 6 6)) (κ := κL) rfl rfl rfl (Tab.nil (by simp [B0, e.b_sorted, e.b_max, e.b_tuple])) e.e0.F sc0 ck0 ln0 (rd0)
theorem bn0 (e : EV P mg base) : Binds P.K e.e0.d ["pairs"] [] := FunD.bindsN e.e0.F fun _ _ _ _ _ _ us hl => match us, hl with | [_], _ => rfl
theorem ok9 (e : EV P mg base) : OkD P.pg P.wl P.K mg base P 2 e.e9.f e.e9.d ["a", "b"] sp9 := okD (Φ := (ΦL 6 6)) (κ := κL) rfl rfl rfl (Tab.consF (Tab.nil (by simp [B9, e.b_max, e.b_min])) (by omega) e.e0.g e.e0.F.kp (ok0 e) (bn0 e)) e.e9.F sc9 ck9 ln9 (rd9 rfl)
theorem ok17 (e : EV P mg base) : OkD P.pg P.wl P.K mg base P 1 e.e17.f e.e17.d ["a", "offset"] sp17 := okD (Φ := (ΦL 6 6)) (κ := κL) rfl rfl rfl (Tab.nil (by simp [B17])) e.e17.F sc17 ck17 ln17 (rd17)
theorem bn17 (e : EV P mg base) : Binds P.K e.e17.d ["a", "offset"] [] := FunD.bindsN e.e17.F fun _ _ _ _ _ _ us hl => match us, hl with | [_, _], _ => rfl
theorem bn9 (e : EV P mg base) : Binds P.K e.e9.d ["a", "b"] [] := FunD.bindsN e.e9.F fun _ _ _ _ _ _ us hl => match us, hl with | [_, _], _ => rfl
theorem ok18 (e : EV P mg base) : OkD P.pg P.wl P.K mg base P 3 e.e18.f e.e18.d ["a"] sp18 := okD (Φ := (ΦL 6 6)) (κ := κL) rfl rfl rfl (Tab.consF (Tab.consF (Tab.consF (Tab.nil (by simp [B18, e.b_list])) (by omega) e.e17.g e.e17.F.kp (ok17 e) (bn17 e)) (by omega) e.e0.g e.e0.F.kp (ok0 e) (bn0 e)) (by omega) e.e9.g e.e9.F.kp (ok9 e) (bn9 e)) e.e18.F sc18 ck18 ln18 (rd18 rfl rfl rfl)
theorem bn18 (e : EV P mg base) : Binds P.K e.e18.d ["a"] [] := FunD.bindsN e.e18.F fun _ _ _ _ _ _ us hl => match us, hl with | [_], _ => rfl
theorem bn1188 (e : EV P mg base) : Binds P.K e.e1188.d ["source", "index", "first"] [] := FunD.bindsN e.e1188.F fun _ _ _ _ _ _ us hl => match us, hl with | [_, _, _], _ => rfl
theorem bn1014 (e : EV P mg base) : Binds P.K e.e1014.d ["source", "index", "fold", "depth"] [] := FunD.bindsN e.e1014.F fun _ _ _ _ _ _ us hl => match us, hl with | [_, _, _, _], _ => rfl
theorem ok1182 (e : EV P mg base) (d : Nat) {k : Nat} (hk : 6 ≤ k) (ih : OkD P.pg P.wl P.K mg base P k e.e1014.f e.e1014.d ["source", "index", "fold", "depth"] (sp1014 d)) : OkD P.pg P.wl P.K mg base P (k + 0 + 1) e.e1182.f e.e1182.d ["source", "index", "fold", "depth"] (sp1182 d) := okDX (k := k + 0) (Φ := (ΦL d d)) (κ := κL) rfl rfl rfl (Tab.consF (Tab.consF (Tab.consF (Tab.consF (Tab.consF (Tab.consF (Tab.nil (by simp [B1182])) (by omega) e.e18.g e.e18.F.kp (ok18 e) (bn18 e)) (by omega) e.e0.g e.e0.F.kp (ok0 e) (bn0 e)) (by omega) e.e1188.g e.e1188.F.kp (ok1188 e) (bn1188 e)) (by omega) e.e1187.g e.e1187.F.kp (ok1187 e) (bn1187 e)) (by omega) e.e1014.g e.e1014.F.kp ih (bn1014 e)) (by omega) e.e1183.g e.e1183.F.kp (ok1183 e) (bn1183 e)) e.e1182.F sc1182 (e.xo _ (by omega)) (.of ck1182) (fun _ h => by cases h) (fun _ h => by cases h) (fun _ h => by cases h) (fun _ h => by cases h) (fun _ h => by cases h) (fun _ h => by cases h) (ln1182 d) (rd1182 rfl rfl rfl rfl rfl rfl)
theorem ok11 (e : EV P mg base) : OkD P.pg P.wl P.K mg base P 3 e.e11.f e.e11.d ["a", "b"] sp11 := okD (Φ := (ΦL 6 6)) (κ := κL) rfl rfl rfl (Tab.consF (Tab.consF (Tab.nil (by simp [B11])) (by omega) e.e10.g e.e10.F.kp (ok10 e) (bn10 e)) (by omega) e.e9.g e.e9.F.kp (ok9 e) (bn9 e)) e.e11.F sc11 ck11 ln11 (rd11 rfl rfl)
theorem bn11 (e : EV P mg base) : Binds P.K e.e11.d ["a", "b"] [] := FunD.bindsN e.e11.F fun _ _ _ _ _ _ us hl => match us, hl with | [_, _], _ => rfl
theorem bn1182 (e : EV P mg base) : Binds P.K e.e1182.d ["source", "index", "fold", "depth"] [] := FunD.bindsN e.e1182.F fun _ _ _ _ _ _ us hl => match us, hl with | [_, _, _, _], _ => rfl
theorem ok1014 (e : EV P mg base) : ∀ d, OkD P.pg P.wl P.K mg base P (6 + 2 * d) e.e1014.f e.e1014.d ["source", "index", "fold", "depth"] (sp1014 d)
  | 0 => OkD.imp OkD.no z1014
  | d + 1 => by
    have ih := ok1014 e d
    have hk : 6 ≤ 6 + 2 * d := by omega
    exact okDX (Φ := (ΦL d d)) (κ := κL) (k := 6 + 2 * d + 1) rfl rfl rfl (Tab.consF (Tab.consF (Tab.consF (Tab.consF (Tab.consF (Tab.consC (Tab.nil (by simp [B1014, e.b_int])) e.hc14) (by omega) e.e10.g e.e10.F.kp (ok10 e) (bn10 e)) (by omega) e.e11.g e.e11.F.kp (ok11 e) (bn11 e)) (by omega) e.e9.g e.e9.F.kp (ok9 e) (bn9 e)) (by omega) e.e1183.g e.e1183.F.kp (ok1183 e) (bn1183 e)) (by omega) e.e1182.g e.e1182.F.kp ((ok1182 e) d hk ih) (bn1182 e)) e.e1014.F sc1014 (e.xo _ (by omega)) (.of ck1014) (fun _ h => by cases h) (fun _ h => by cases h) (fun _ h => by cases h) (fun _ h => by cases h) (fun _ h => by cases h) (fun _ h => by cases h) (ln1014 (d + 1)) (rd1014 rfl rfl rfl rfl rfl rfl)
theorem ok98 (e : EV P mg base) : OkD P.pg P.wl P.K mg base P 4 e.e98.f e.e98.d ["code", "flags"] sp98 := okD (Φ := (ΦL 6 6)) (κ := κL) rfl rfl rfl (Tab.consF (Tab.nil (by simp [B98])) (by omega) e.e18.g e.e18.F.kp (ok18 e) (bn18 e)) e.e98.F sc98 ck98 ln98 (rd98 rfl)
theorem bn98 (e : EV P mg base) : Binds P.K e.e98.d ["code", "flags"] [] := FunD.bindsN e.e98.F fun _ _ _ _ _ _ us hl => match us, hl with | [_, _], _ => rfl
theorem bn95 (e : EV P mg base) : Binds P.K e.e95.d ["sign", "flags"] [] := FunD.bindsN e.e95.F fun _ _ _ _ _ _ us hl => match us, hl with | [_, _], _ => rfl
theorem ok1195 (e : EV P mg base) : OkD P.pg P.wl P.K mg base P 19 e.e1195.f e.e1195.d ["source", "index", "flags"] sp1195 := okD (Φ := (ΦL 6 6)) (κ := κL) rfl rfl rfl (Tab.consF (Tab.consF (Tab.consF (Tab.consF (Tab.consC (Tab.consC (Tab.nil (by simp [B1195, e.b_ord])) e.hc1) e.hc6) (by omega) e.e98.g e.e98.F.kp (ok98 e) (bn98 e)) (by omega) e.e1015.g e.e1015.F.kp (ok1015 e) (bn1015 e)) (by omega) e.e1014.g e.e1014.F.kp ((ok1014 e) 6) (bn1014 e)) (by omega) e.e95.g e.e95.F.kp (ok95 e) (bn95 e)) e.e1195.F sc1195 ck1195 ln1195 (rd1195 rfl rfl rfl rfl rfl rfl)
theorem bn1195 (e : EV P mg base) : Binds P.K e.e1195.d ["source", "index", "flags"] [] := FunD.bindsN e.e1195.F fun _ _ _ _ _ _ us hl => match us, hl with | [_, _, _], _ => rfl
theorem bn1194 (e : EV P mg base) : Binds P.K e.e1194.d ["source", "index"] [] := FunD.bindsN e.e1194.F fun _ _ _ _ _ _ us hl => match us, hl with | [_, _], _ => rfl
theorem bn1193 (e : EV P mg base) : Binds P.K e.e1193.d ["source", "index"] [] := FunD.bindsN e.e1193.F fun _ _ _ _ _ _ us hl => match us, hl with | [_, _], _ => rfl
theorem ok1057 (e : EV P mg base) : OkD P.pg P.wl P.K mg base P 20 e.e1057.f e.e1057.d ["source", "index", "flags"] sp1057 := okDX (Φ := (ΦL 6 6)) (κ := κL) rfl rfl rfl (Tab.consF (Tab.consF (Tab.consF (Tab.nil (by simp [B1057])) (by omega) e.e1195.g e.e1195.F.kp (ok1195 e) (bn1195 e)) (by omega) e.e1194.g e.e1194.F.kp (ok1194 e) (bn1194 e)) (by omega) e.e1193.g e.e1193.F.kp (ok1193 e) (bn1193 e)) e.e1057.F sc1057 (e.xo _ (by omega)) (.of ck1057) (fun _ h => by cases h) (fun _ h => by cases h) (fun _ h => by cases h) (fun _ h => by cases h) (fun _ h => by cases h) (fun _ h => by cases h) ln1057 (rd1057 rfl rfl rfl)
theorem bn1057 (e : EV P mg base) : Binds P.K e.e1057.d ["source", "index", "flags"] [] := FunD.bindsN e.e1057.F fun _ _ _ _ _ _ us hl => match us, hl with | [_, _, _], _ => rfl
theorem ok1190 (e : EV P mg base) : OkD P.pg P.wl P.K mg base P 21 e.e1190.f e.e1190.d ["source", "flags"] sp1190 := okD (Φ := (ΦL 6 6)) (κ := κL) rfl rfl rfl (Tab.consF (Tab.nil (by simp [B1190, e.b_len])) (by omega) e.e1057.g e.e1057.F.kp (ok1057 e) (bn1057 e)) e.e1190.F sc1190 ck1190 ln1190 (rd1190 rfl)
theorem ok1344 (e : EV P mg base) : OkD P.pg P.wl P.K mg base P 3 e.e1344.f e.e1344.d ["self", "token"] sp1344 := okDX (Φ := (ΦL 6 6)) (κ := κL) rfl rfl rfl (Tab.consC (Tab.nil (by simp [B1344, e.b_len])) e.hc40) e.e1344.F sc1344 (e.xo _ (by omega)) (.of ck1344) e.fl (by intro q hq; simp only [List.mem_cons, List.not_mem_nil, or_false] at hq; rcases hq with rfl; exact ⟨_, _, _, _, by omega, e.e535.g, e.e535.k, (ok535 e), (bn535 e)⟩) (fun _ h => by cases h) (fun _ h => by cases h) (fun _ h => by cases h) (fun _ h => by cases h) ln1344 (rd1344 rfl rfl)
theorem ok1346 (e : EV P mg base) : OkD P.pg P.wl P.K mg base P 1 e.e1346.f e.e1346.d ["members", "kind"] sp1346 := okD (Φ := (ΦL 6 6)) (κ := κL) rfl rfl rfl (Tab.nil (by simp [B1346])) e.e1346.F sc1346 ck1346 ln1346 (rd1346)
theorem bn1346 (e : EV P mg base) : Binds P.K e.e1346.d ["members", "kind"] [] := FunD.bindsN e.e1346.F fun _ _ _ _ _ _ us hl => match us, hl with | [_, _], _ => rfl
theorem ok1342 (e : EV P mg base) : OkD P.pg P.wl P.K mg base P 2 e.e1342.f e.e1342.d ["self"] sp1342 := okDC (Φ := (ΦL 6 6)) (κ := κL) rfl rfl rfl (Tab.consF (Tab.nil (by simp [B1342])) (by omega) e.e1346.g e.e1346.F.kp (ok1346 e) (bn1346 e)) e.e1342.F sc1342 ck1342 e.fl (fun _ h => by cases h) ln1342 (rd1342 rfl)
theorem bn1342 (e : EV P mg base) : Binds P.K e.e1342.d ["self"] [] := FunD.bindsN e.e1342.F fun _ _ _ _ _ _ us hl => match us, hl with | [_], _ => rfl
theorem ok1343 (e : EV P mg base) : OkD P.pg P.wl P.K mg base P 3 e.e1343.f e.e1343.d ["self"] sp1343 := okDM (Φ := (ΦL 6 6)) (κ := κL) rfl rfl rfl (Tab.consF (Tab.nil (by simp [B1343])) (by omega) e.e1346.g e.e1346.F.kp (ok1346 e) (bn1346 e)) e.e1343.F sc1343 ck1343 e.fl (fun _ h => by cases h) (by intro q hq; simp only [List.mem_cons, List.not_mem_nil, or_false] at hq; rcases hq with rfl; exact ⟨_, _, _, _, by omega, e.e1342.g, e.e1342.m, (ok1342 e), (bn1342 e)⟩) ln1343 (rd1343 rfl rfl)
theorem bn1343 (e : EV P mg base) : Binds P.K e.e1343.d ["self"] [] := FunD.bindsN e.e1343.F fun _ _ _ _ _ _ us hl => match us, hl with | [_], _ => rfl
theorem ok1348 (e : EV P mg base) : OkD P.pg P.wl P.K mg base P 4 e.e1348.f e.e1348.d ["self", "token"] sp1348 := okDX (Φ := (ΦL 6 6)) (κ := κL) rfl rfl rfl (Tab.nil (by simp [B1348, e.b_len])) e.e1348.F sc1348 (e.xo _ (by omega)) (.of ck1348) e.fl (fun _ h => by cases h) (by intro q hq; simp only [List.mem_cons, List.not_mem_nil, or_false] at hq; rcases hq with rfl; exact ⟨_, _, _, _, by omega, e.e1343.g, e.e1343.m, (ok1343 e), (bn1343 e)⟩) (fun _ h => by cases h) (fun _ h => by cases h) (fun _ h => by cases h) ln1348 (rd1348 rfl)
theorem ok1349 (e : EV P mg base) : OkD P.pg P.wl P.K mg base P 3 e.e1349.f e.e1349.d ["self", "token"] sp1349 := okDX (Φ := (ΦL 6 6)) (κ := κL) rfl rfl rfl (Tab.consC (Tab.nil (by simp [B1349, e.b_max])) e.hc39) e.e1349.F sc1349 (e.xo _ (by omega)) (.of ck1349) e.fl (fun _ h => by cases h) (fun _ h => by cases h) (fun _ h => by cases h) (fun _ h => by cases h) (fun _ h => by cases h) ln1349 (rd1349 rfl)
theorem bn1344 (e : EV P mg base) : Binds P.K e.e1344.d ["self", "token"] [] := FunD.bindsN e.e1344.F fun _ _ _ _ _ _ us hl => match us, hl with | [_, _], _ => rfl
theorem bn1348 (e : EV P mg base) : Binds P.K e.e1348.d ["self", "token"] [] := FunD.bindsN e.e1348.F fun _ _ _ _ _ _ us hl => match us, hl with | [_, _], _ => rfl
theorem bn1349 (e : EV P mg base) : Binds P.K e.e1349.d ["self", "token"] [] := FunD.bindsN e.e1349.F fun _ _ _ _ _ _ us hl => match us, hl with | [_, _], _ => rfl
theorem ok1191 (e : EV P mg base) : OkD P.pg P.wl P.K mg base P 5 e.e1191.f e.e1191.d ["self", "token"] sp1191 := okDM (Φ := (ΦL 6 6)) (κ := κL) rfl rfl rfl (Tab.nil (by simp [B1191])) e.e1191.F sc1191 ck1191 e.fl (fun _ h => by cases h) (by intro q hq; simp only [List.mem_cons, List.not_mem_nil, or_false] at hq; rcases hq with rfl | rfl | rfl | rfl; exact ⟨_, _, _, _, by omega, e.e1344.g, e.e1344.m, (ok1344 e), (bn1344 e)⟩; exact ⟨_, _, _, _, by omega, e.e1348.g, e.e1348.m, (ok1348 e), (bn1348 e)⟩; exact ⟨_, _, _, _, by omega, e.e1342.g, e.e1342.m, (ok1342 e), (bn1342 e)⟩; exact ⟨_, _, _, _, by omega, e.e1349.g, e.e1349.m, (ok1349 e), (bn1349 e)⟩) ln1191 (rd1191 rfl rfl rfl rfl)
theorem ok1192 (e : EV P mg base) : OkD P.pg P.wl P.K mg base P 4 e.e1192.f e.e1192.d ["self"] sp1192 := okDX (Φ := (ΦL 6 6)) (κ := κL) rfl rfl rfl (Tab.consC (Tab.consC (Tab.nil (by simp [B1192, e.b_len, e.b_tuple])) e.hc41) e.hc39) e.e1192.F sc1192 (e.xo _ (by omega)) (.of ck1192) e.fl (fun _ h => by cases h) (by intro q hq; simp only [List.mem_cons, List.not_mem_nil, or_false] at hq; rcases hq with rfl; exact ⟨_, _, _, _, by omega, e.e1343.g, e.e1343.m, (ok1343 e), (bn1343 e)⟩) (fun _ h => by cases h) (fun _ h => by cases h) (fun _ h => by cases h) ln1192 (rd1192 rfl rfl rfl)
theorem bn1190 (e : EV P mg base) : Binds P.K e.e1190.d ["source", "flags"] [] := FunD.bindsN e.e1190.F fun _ _ _ _ _ _ us hl => match us, hl with | [_, _], _ => rfl
theorem bn1189 (e : EV P mg base) : Binds P.K e.e1189.d ["self"] [] := FunD.bindsN e.e1189.F fun _ _ _ _ _ _ us hl => match us, hl with | [_], _ => rfl
theorem bn1191 (e : EV P mg base) : Binds P.K e.e1191.d ["self", "token"] [] := FunD.bindsN e.e1191.F fun _ _ _ _ _ _ us hl => match us, hl with | [_, _], _ => rfl
theorem bn1192 (e : EV P mg base) : Binds P.K e.e1192.d ["self"] [] := FunD.bindsN e.e1192.F fun _ _ _ _ _ _ us hl => match us, hl with | [_], _ => rfl
theorem ok1056 (e : EV P mg base) : OkD P.pg P.wl P.K mg base P 22 e.e1056.f e.e1056.d ["source", "flags"] sp1056 := okDX (Φ := (ΦL 6 6)) (κ := κL) rfl rfl rfl (Tab.consF (Tab.consC (Tab.nil (by simp [B1056])) e.hc16) (by omega) e.e1190.g e.e1190.F.kp (ok1190 e) (bn1190 e)) e.e1056.F sc1056 (e.xo _ (by omega)) (.of ck1056) (fun _ h => by cases h) (by intro q hq; simp only [List.mem_cons, List.not_mem_nil, or_false] at hq; rcases hq with rfl; exact ⟨_, _, _, _, by omega, e.e1189.g, e.e1189.k, (ok1189 e), (bn1189 e)⟩) (by intro q hq; simp only [List.mem_cons, List.not_mem_nil, or_false] at hq; rcases hq with rfl | rfl; exact ⟨_, _, _, _, by omega, e.e1191.g, e.e1191.m, (ok1191 e), (bn1191 e)⟩; exact ⟨_, _, _, _, by omega, e.e1192.g, e.e1192.m, (ok1192 e), (bn1192 e)⟩) (fun _ h => by cases h) (fun _ h => by cases h) (fun _ h => by cases h) ln1056 (rd1056 rfl rfl rfl rfl rfl)
theorem bn1056 (e : EV P mg base) : Binds P.K e.e1056.d ["source", "flags"] [] := FunD.bindsN e.e1056.F fun _ _ _ _ _ _ us hl => match us, hl with | [_, _], _ => rfl
theorem ok1565 (e : EV P mg base) : OkD P.pg P.wl P.K mg base P 23 e.e1565.f e.e1565.d ["_law_source"] sp1565 := okDX (Φ := (ΦL 6 6)) (κ := κL) rfl rfl rfl (Tab.consF (Tab.nil (by simp [B1565, e.b_isinstance, e.b_ValueError, e.b_bool, e.b_str])) (by omega) e.e1056.g e.e1056.F.kp (ok1056 e) (bn1056 e)) e.e1565.F sc1565 (e.xo _ (by omega)) (.blocks ck1565) (fun _ h => by cases h) (fun _ h => by cases h) (fun _ h => by cases h) (fun _ h => by cases h) (fun _ h => by cases h) (fun _ h => by cases h) ln1565 (rd1565 rfl)
theorem ok143 (e : EV P mg base) : OkD P.pg P.wl P.K mg base P 1 e.e143.f e.e143.d [] sp143 := okD (Φ := (ΦL 6 6)) (κ := κL) rfl rfl rfl (Tab.nil (by simp [B143])) e.e143.F sc143 ck143 ln143 (rd143)
theorem bn143 (e : EV P mg base) : Binds P.K e.e143.d [] [] := FunD.bindsN e.e143.F fun _ _ _ _ _ _ us hl => match us, hl with | [], _ => rfl
theorem bn1565 (e : EV P mg base) : Binds P.K e.e1565.d ["_law_source"] [] := FunD.bindsN e.e1565.F fun _ _ _ _ _ _ us hl => match us, hl with | [_], _ => rfl
theorem bn141 (e : EV P mg base) : Binds P.K e.e141.d [] [] := FunD.bindsN e.e141.F fun _ _ _ _ _ _ us hl => match us, hl with | [], _ => rfl
theorem bn140 (e : EV P mg base) : Binds P.K e.e140.d [] [] := FunD.bindsN e.e140.F fun _ _ _ _ _ _ us hl => match us, hl with | [], _ => rfl
theorem bn139 (e : EV P mg base) : Binds P.K e.e139.d [] [] := FunD.bindsN e.e139.F fun _ _ _ _ _ _ us hl => match us, hl with | [], _ => rfl
theorem bn2 (e : EV P mg base) : Binds P.K e.e2.d ["_law_script", "_law_state", "_law_many"] [] := FunD.bindsN e.e2.F fun _ _ _ _ _ _ us hl => match us, hl with | [_, _, _], _ => rfl
theorem ok1354 (e : EV P mg base) : OkD P.pg P.wl P.K mg base P 24 e.e1354.f e.e1354.d ["_law_script"] (spLaw 63) := okD (Φ := (ΦL 6 6)) (κ := κL) rfl rfl rfl (Tab.consF (Tab.consF (Tab.consF (Tab.consF (Tab.consF (Tab.consF (Tab.nil (by simp [B1354, e.b_range, e.b_len])) (by omega) e.e143.g e.e143.F.kp (ok143 e) (bn143 e)) (by omega) e.e1565.g e.e1565.F.kp (ok1565 e) (bn1565 e)) (by omega) e.e141.g e.e141.F.kp (ok141 e) (bn141 e)) (by omega) e.e140.g e.e140.F.kp (ok140 e) (bn140 e)) (by omega) e.e139.g e.e139.F.kp (ok139 e) (bn139 e)) (by omega) e.e2.g e.e2.F.kp (ok2 e) (bn2 e)) e.e1354.F sc1354 ck1354 lnLaw (rd1354 rfl rfl rfl rfl rfl rfl)
end
theorem factsL {Pg : Program} {w : World} {K : PySem.W.Frag} {h : Heap} {mg : Str → Option Value} {f : Addr} (X : K.In h) (G : h.Ns mainGlobals mg) (hfa : mg ("law" : Str) = some (.ref f)) (c0 : He.SaysX faL fnL tsL [] exL w h K) :
    ∃ fd : FuncData, (∀ (s : Shared) (v : Value), BindsTo s fd ⟨[v], []⟩ [("_law_script", v)]) ∧ ∀ base : Heap, OkD Pg w K mg base ⟨Pg, w, K, clsL K, []⟩ 24 f fd ["_law_script"] (spLaw 63) := by
  have c : He.SaysD faL fnL K := c0.t.d
  have mo := c0.more
  unfold exL at mo
  simp only [Bool.and_eq_true] at mo
  have cc : ∀ q ∈ csL, cstB K q = true := List.all_eq_true.mp mo.1
  obtain ⟨fd1, F1⟩ := c.def_ 0 (d := dd1) rfl
  obtain ⟨fd2, F2⟩ := c.def_ 1 (d := dd2) rfl
  obtain ⟨fd139, F139⟩ := c.def_ 2 (d := dd139) rfl
  obtain ⟨fd140, F140⟩ := c.def_ 3 (d := dd140) rfl
  obtain ⟨fd141, F141⟩ := c.def_ 4 (d := dd141) rfl
  obtain ⟨fd535, F535⟩ := c.def_ 5 (d := dd535) rfl
  obtain ⟨fd1189, F1189⟩ := c.def_ 6 (d := dd1189) rfl
  obtain ⟨fd1181, F1181⟩ := c.def_ 7 (d := dd1181) rfl
  obtain ⟨fd1193, F1193⟩ := c.def_ 8 (d := dd1193) rfl
  obtain ⟨fd1013, F1013⟩ := c.def_ 9 (d := dd1013) rfl
  obtain ⟨fd1347, F1347⟩ := c.def_ 10 (d := dd1347) rfl
  obtain ⟨fd1194, F1194⟩ := c.def_ 11 (d := dd1194) rfl
  obtain ⟨fd95, F95⟩ := c.def_ 12 (d := dd95) rfl
  obtain ⟨fd1183, F1183⟩ := c.def_ 13 (d := dd1183) rfl
  obtain ⟨fd1184, F1184⟩ := c.def_ 14 (d := dd1184) rfl
  obtain ⟨fd10, F10⟩ := c.def_ 15 (d := dd10) rfl
  obtain ⟨fd1185, F1185⟩ := c.def_ 16 (d := dd1185) rfl
  obtain ⟨fd1186, F1186⟩ := c.def_ 17 (d := dd1186) rfl
  obtain ⟨fd1015, F1015⟩ := c.def_ 18 (d := dd1015) rfl
  obtain ⟨fd1187, F1187⟩ := c.def_ 19 (d := dd1187) rfl
  obtain ⟨fd1188, F1188⟩ := c.def_ 20 (d := dd1188) rfl
  obtain ⟨fd0, F0⟩ := c.def_ 21 (d := dd0) rfl
  obtain ⟨fd9, F9⟩ := c.def_ 22 (d := dd9) rfl
  obtain ⟨fd17, F17⟩ := c.def_ 23 (d := dd17) rfl
  obtain ⟨fd18, F18⟩ := c.def_ 24 (d := dd18) rfl
  obtain ⟨fd1182, F1182⟩ := c.def_ 25 (d := dd1182) rfl
  obtain ⟨fd11, F11⟩ := c.def_ 26 (d := dd11) rfl
  obtain ⟨fd1014, F1014⟩ := c.def_ 27 (d := dd1014) rfl
  obtain ⟨fd98, F98⟩ := c.def_ 28 (d := dd98) rfl
  obtain ⟨fd1195, F1195⟩ := c.def_ 29 (d := dd1195) rfl
  obtain ⟨fd1057, F1057⟩ := c.def_ 30 (d := dd1057) rfl
  obtain ⟨fd1190, F1190⟩ := c.def_ 31 (d := dd1190) rfl
  obtain ⟨fd1344, F1344⟩ := c.def_ 32 (d := dd1344) rfl
  obtain ⟨fd1346, F1346⟩ := c.def_ 33 (d := dd1346) rfl
  obtain ⟨fd1342, F1342⟩ := c.def_ 34 (d := dd1342) rfl
  obtain ⟨fd1343, F1343⟩ := c.def_ 35 (d := dd1343) rfl
  obtain ⟨fd1348, F1348⟩ := c.def_ 36 (d := dd1348) rfl
  obtain ⟨fd1349, F1349⟩ := c.def_ 37 (d := dd1349) rfl
  obtain ⟨fd1191, F1191⟩ := c.def_ 38 (d := dd1191) rfl
  obtain ⟨fd1192, F1192⟩ := c.def_ 39 (d := dd1192) rfl
  obtain ⟨fd1056, F1056⟩ := c.def_ 40 (d := dd1056) rfl
  obtain ⟨fd1565, F1565⟩ := c.def_ 41 (d := dd1565) rfl
  obtain ⟨fd143, F143⟩ := c.def_ 42 (d := dd143) rfl
  obtain ⟨fd1354, F1354⟩ := c.def_ 43 (d := dd1354) rfl
  obtain ⟨fd1327, F1327⟩ := c.def_ 44 (d := dd1327) rfl
  cases hfa.symm.trans (He.glo_ok X G (c.fact 34 (f := .glo "law") rfl))
  have b := FunD.bindsA (ps := ["_law_script"]) F1354 fun _ _ _ _ _ _ us hl => match us, hl with | [_], _ => rfl
  exact ⟨fd1354, fun s v => b s [v] rfl, fun base => ok1354 (P := ⟨Pg, w, K, clsL K, []⟩) ⟨⟨_, _, F1, (He.glo_ok X G (c.fact 0 (f := .glo "_law_row") rfl))⟩, ⟨_, _, F2, (He.glo_ok X G (c.fact 1 (f := .glo "_law_digit") rfl))⟩, ⟨_, _, F139, (He.glo_ok X G (c.fact 2 (f := .glo "_law_ends") rfl))⟩, ⟨_, _, F140, (He.glo_ok X G (c.fact 3 (f := .glo "_law_in_classes") rfl))⟩, ⟨_, _, F141, (He.glo_ok X G (c.fact 4 (f := .glo "_law_pieces") rfl))⟩, ⟨_, _, F535, (He.glo_ok X G (c.fact 42 (f := .glo "OpenBracket") rfl)), (He.mkr_ok (c.fact 53 (f := .mkr "OpenBracket") rfl))⟩, ⟨_, _, F1189, (He.glo_ok X G (c.fact 43 (f := .glo "TreeBuilder") rfl)), (He.mkr_ok (c.fact 54 (f := .mkr "TreeBuilder") rfl))⟩, ⟨_, _, F1181, (He.glo_ok X G (c.fact 5 (f := .glo "read_name") rfl))⟩, ⟨_, _, F1193, (He.glo_ok X G (c.fact 6 (f := .glo "read_bracket") rfl))⟩, ⟨_, _, F1013, (He.glo_ok X G (c.fact 7 (f := .glo "read_count") rfl))⟩, ⟨_, _, F1347, (He.glo_ok X G (c.fact 8 (f := .glo "read_counts") rfl))⟩, ⟨_, _, F1194, (He.glo_ok X G (c.fact 9 (f := .glo "read_repeat") rfl))⟩, ⟨_, _, F95, (He.glo_ok X G (c.fact 10 (f := .glo "caret_or_dollar") rfl))⟩, ⟨_, _, F1183, (He.glo_ok X G (c.fact 11 (f := .glo "operator_at") rfl))⟩, ⟨_, _, F1184, (He.glo_ok X G (c.fact 12 (f := .glo "hexadecimal") rfl))⟩, ⟨_, _, F10, (He.glo_ok X G (c.fact 13 (f := .glo "complement") rfl))⟩, ⟨_, _, F1185, (He.glo_ok X G (c.fact 14 (f := .glo "set_of") rfl))⟩, ⟨_, _, F1186, (He.glo_ok X G (c.fact 15 (f := .glo "is_sign") rfl))⟩, ⟨_, _, F1015, (He.glo_ok X G (c.fact 16 (f := .glo "read_escape") rfl))⟩, ⟨_, _, F1187, (He.glo_ok X G (c.fact 17 (f := .glo "read_item") rfl))⟩, ⟨_, _, F1188, (He.glo_ok X G (c.fact 18 (f := .glo "read_range_end") rfl))⟩, ⟨_, _, F0, (He.glo_ok X G (c.fact 19 (f := .glo "make_set") rfl))⟩, ⟨_, _, F9, (He.glo_ok X G (c.fact 20 (f := .glo "common") rfl))⟩, ⟨_, _, F17, (He.glo_ok X G (c.fact 21 (f := .glo "shifted") rfl))⟩, ⟨_, _, F18, (He.glo_ok X G (c.fact 22 (f := .glo "folded") rfl))⟩, ⟨_, _, F1182, (He.glo_ok X G (c.fact 23 (f := .glo "read_part") rfl))⟩, ⟨_, _, F11, (He.glo_ok X G (c.fact 24 (f := .glo "without") rfl))⟩, ⟨_, _, F1014, (He.glo_ok X G (c.fact 25 (f := .glo "read_class") rfl))⟩, ⟨_, _, F98, (He.glo_ok X G (c.fact 26 (f := .glo "code_tree") rfl))⟩, ⟨_, _, F1195, (He.glo_ok X G (c.fact 27 (f := .glo "read_element") rfl))⟩, ⟨_, _, F1057, (He.glo_ok X G (c.fact 28 (f := .glo "read_token") rfl))⟩, ⟨_, _, F1190, (He.glo_ok X G (c.fact 29 (f := .glo "tokens_of") rfl))⟩, ⟨_, _, F1344, (He.cls_ok (c.fact 45 (f := .cls "TreeBuilder") rfl)), (He.meth_ok (c.fact 37 (f := .meth "TreeBuilder" "enter") rfl))⟩, ⟨_, _, F1346, (He.glo_ok X G (c.fact 30 (f := .glo "joined") rfl))⟩, ⟨_, _, F1342, (He.cls_ok (c.fact 44 (f := .cls "OpenBracket") rfl)), (He.meth_ok (c.fact 35 (f := .meth "OpenBracket" "end_alternative") rfl))⟩, ⟨_, _, F1343, (He.cls_ok (c.fact 44 (f := .cls "OpenBracket") rfl)), (He.meth_ok (c.fact 36 (f := .meth "OpenBracket" "content") rfl))⟩, ⟨_, _, F1348, (He.cls_ok (c.fact 45 (f := .cls "TreeBuilder") rfl)), (He.meth_ok (c.fact 38 (f := .meth "TreeBuilder" "leave") rfl))⟩, ⟨_, _, F1349, (He.cls_ok (c.fact 45 (f := .cls "TreeBuilder") rfl)), (He.meth_ok (c.fact 39 (f := .meth "TreeBuilder" "repeat_last") rfl))⟩, ⟨_, _, F1191, (He.cls_ok (c.fact 45 (f := .cls "TreeBuilder") rfl)), (He.meth_ok (c.fact 40 (f := .meth "TreeBuilder" "take") rfl))⟩, ⟨_, _, F1192, (He.cls_ok (c.fact 45 (f := .cls "TreeBuilder") rfl)), (He.meth_ok (c.fact 41 (f := .meth "TreeBuilder" "whole_tree") rfl))⟩, ⟨_, _, F1056, (He.glo_ok X G (c.fact 31 (f := .glo "read_pattern") rfl))⟩, ⟨_, _, F1565, (He.glo_ok X G (c.fact 32 (f := .glo "_law_error") rfl))⟩, ⟨_, _, F143, (He.glo_ok X G (c.fact 33 (f := .glo "_law_mended") rfl))⟩, ⟨_, _, F1354, (He.glo_ok X G (c.fact 34 (f := .glo "law") rfl))⟩, (by intro q hq; simp only [FLL, List.mem_cons, List.not_mem_nil, or_false] at hq; rcases hq with rfl | rfl | rfl | rfl | rfl | rfl | rfl <;> first | exact ⟨(He.cls_ok (c.fact 44 (f := .cls "OpenBracket") rfl)), (He.noat_ok (c.fact 46 (f := .noat "OpenBracket" "token") rfl))⟩ | exact ⟨(He.cls_ok (c.fact 44 (f := .cls "OpenBracket") rfl)), (He.noat_ok (c.fact 47 (f := .noat "OpenBracket" "number") rfl))⟩ | exact ⟨(He.cls_ok (c.fact 44 (f := .cls "OpenBracket") rfl)), (He.noat_ok (c.fact 48 (f := .noat "OpenBracket" "alternatives") rfl))⟩ | exact ⟨(He.cls_ok (c.fact 44 (f := .cls "OpenBracket") rfl)), (He.noat_ok (c.fact 49 (f := .noat "OpenBracket" "members") rfl))⟩ | exact ⟨(He.cls_ok (c.fact 45 (f := .cls "TreeBuilder") rfl)), (He.noat_ok (c.fact 50 (f := .noat "TreeBuilder" "brackets") rfl))⟩ | exact ⟨(He.cls_ok (c.fact 45 (f := .cls "TreeBuilder") rfl)), (He.noat_ok (c.fact 51 (f := .noat "TreeBuilder" "group_names") rfl))⟩ | exact ⟨(He.cls_ok (c.fact 45 (f := .cls "TreeBuilder") rfl)), (He.noat_ok (c.fact 52 (f := .noat "TreeBuilder" "look_count") rfl))⟩), (fun k hk => xok_of hk (fun _ => rfl) rfl (by intro q hq; simp only [xcL, List.mem_cons, List.not_mem_nil, or_false] at hq; rcases hq with rfl | rfl | rfl; exact ⟨(He.glo_ok X G (c.fact 55 (f := .glo "FirstwayError") rfl)), (cc ("FirstwayError", D.exc 0 none "s" ["FirstwayError", "FlagsError", "PatternError"] []) (by simp [csL]))⟩; exact ⟨(He.glo_ok X G (c.fact 56 (f := .glo "FlagsError") rfl)), (cc ("FlagsError", D.exc 0 none "s" ["FirstwayError", "FlagsError", "PatternError"] []) (by simp [csL]))⟩; exact ⟨(He.glo_ok X G (c.fact 57 (f := .glo "PatternError") rfl)), (cc ("PatternError", D.exc 0 none "s" ["FirstwayError", "FlagsError", "PatternError"] []) (by simp [csL]))⟩) (by intro q hq; simp only [xcL, List.mem_cons, List.not_mem_nil, or_false] at hq; rcases hq with rfl; exact ⟨(He.glo_ok X G (c.fact 56 (f := .glo "FlagsError") rfl)), (cc ("FlagsError", D.exc 0 none "r" [] []) (by simp [csL]))⟩) (by intro q hq; simp only [xcL, List.mem_cons, List.not_mem_nil, or_false] at hq; rcases hq with rfl; exact ⟨(He.glo_ok X G (c.fact 57 (f := .glo "PatternError") rfl)), (cc ("PatternError", D.exc 0 none "i" [] []) (by simp [csL])), fd1327, okInit (xi_ok (cc ("PatternError", D.exc 0 none "i" [] []) (by simp [csL]))).1 (fun g hg => by simp only [List.mem_cons, List.not_mem_nil, or_false] at hg; rcases hg with rfl | rfl; exact xf_ok (cc ("PatternError", D.exc 0 none "f" ["column"] []) (by simp [csL])) _ (List.mem_singleton.mpr rfl); exact xf_ok (cc ("PatternError", D.exc 0 none "f" ["expected"] []) (by simp [csL])) _ (List.mem_singleton.mpr rfl)) F1327 sc1327 ck1327 (by simp) (by decide), FunD.bindsN F1327 fun _ _ _ _ _ _ us hl => match us, hl with | [_, _, _], _ => rfl⟩) (by intro q hq; simp only [xcL, List.mem_cons, List.not_mem_nil, or_false] at hq; rcases hq with rfl | rfl; exact ⟨by simp [xcL], (cc ("PatternError", D.exc 0 none "f" ["column"] []) (by simp [csL]))⟩; exact ⟨by simp [xcL], (cc ("PatternError", D.exc 0 none "f" ["expected"] []) (by simp [csL]))⟩) (by intro q hq; simp only [xcL, List.mem_cons, List.not_mem_nil, or_false] at hq; rcases hq with rfl; exact kd_ok c0.t 0 rfl (He.glo_ok X G (c.fact 58 (f := .glo "ANCHORS") rfl)) mo.2)), (hcStr (He.str_ok X G (c.fact 72 (f := .str "LETTERS" "ABCDEFGHIJKLMNOPQRSTUVWXYZabcdefghijklmnopqrstuvwxyz") rfl))), (hcInt (He.int_ok X G (c.fact 73 (f := .int "NAME_LENGTH" 20) rfl))), (hcStr (He.str_ok X G (c.fact 74 (f := .str "NAME_SIGNS" "ABCDEFGHIJKLMNOPQRSTUVWXYZabcdefghijklmnopqrstuvwxyz_0123456789") rfl))), (hcC (P := ⟨Pg, w, K, clsL K, []⟩) X G (cstB_0 (cc ("OPENERS", k13) (by simp [csL])) (fun _ _ _ _ _ z => by cases z))), (hcStr (He.str_ok X G (c.fact 75 (f := .str "FIGURES" "0123456789") rfl))), (hcInt (He.int_ok X G (c.fact 76 (f := .int "MOST_COUNT" 50) rfl))), (hcStr (He.str_ok X G (c.fact 77 (f := .str "HEXADECIMAL" "0123456789abcdef") rfl))), (hcInt (He.int_ok X G (c.fact 78 (f := .int "LIMIT" 128) rfl))), (hcC (P := ⟨Pg, w, K, clsL K, []⟩) X G (cstB_0 (cc ("WORD", k4) (by simp [csL])) (fun _ _ _ _ _ z => by cases z))), (hcC (P := ⟨Pg, w, K, clsL K, []⟩) X G (cstB_0 (cc ("WHITE", k3) (by simp [csL])) (fun _ _ _ _ _ z => by cases z))), (hcC (P := ⟨Pg, w, K, clsL K, []⟩) X G (cstB_0 (cc ("DIGITS", k5) (by simp [csL])) (fun _ _ _ _ _ z => by cases z))), (hcStr (He.str_ok X G (c.fact 79 (f := .str "OCTAL" "01234567") rfl))), (hcInt (He.int_ok X G (c.fact 80 (f := .int "CLASS_DEPTH" 4) rfl))), (hcC (P := ⟨Pg, w, K, clsL K, []⟩) X G (cstB_0 (cc ("EVERY", k6) (by simp [csL])) (fun _ _ _ _ _ z => by cases z))), (hcC (P := ⟨Pg, w, K, clsL K, []⟩) X G (cstB_0 (cc ("IN_LINE", k1) (by simp [csL])) (fun _ _ _ _ _ z => by cases z))), (hcInt (He.int_ok X G (c.fact 81 (f := .int "BRACKET_DEPTH" 8) rfl))), (hcInt (He.int_ok X G (c.fact 82 (f := .int "MOST_WEIGHT" 100) rfl))), (hcInt (He.int_ok X G (c.fact 83 (f := .int "MOST_LOOKS" 4) rfl))), (hcC (P := ⟨Pg, w, K, clsL K, []⟩) X G (cstB_0 (cc ("FLAG_TEXTS", k16) (by simp [csL])) (fun _ _ _ _ _ z => by cases z))), (He.free_ok X G (c.fact 59 (f := .free "len") rfl)), (He.free_ok X G (c.fact 60 (f := .free "int") rfl)), (He.free_ok X G (c.fact 61 (f := .free "tuple") rfl)), (He.free_ok X G (c.fact 62 (f := .free "ord") rfl)), (He.free_ok X G (c.fact 63 (f := .free "sorted") rfl)), (He.free_ok X G (c.fact 64 (f := .free "max") rfl)), (He.free_ok X G (c.fact 65 (f := .free "min") rfl)), (He.free_ok X G (c.fact 66 (f := .free "list") rfl)), (He.free_ok X G (c.fact 67 (f := .free "isinstance") rfl)), (He.free_ok X G (c.fact 68 (f := .free "ValueError") rfl)), (He.free_ok X G (c.fact 69 (f := .free "bool") rfl)), (He.free_ok X G (c.fact 70 (f := .free "str") rfl)), (He.free_ok X G (c.fact 71 (f := .free "range") rfl))⟩⟩
end DL
open PySem PySem.W PySem.Calls PyProof.Rows
theorem PySem.Challenge.cw_firstway_k24_errors_of_tokens_holds : PySem.Challenge.rw_firstway_k24_errors_of_tokens.Holds := by
  w_on; o_law
  refine HandSHeadRun.head_any (r := DL.rowL) (q := view DL.rowL.prog [67]) (H := DL.hkL) (ob := DL.obL) (M := 20000) (loose := [("FirstwayError" : PySem.Str), ("FlagsError" : PySem.Str), ("PatternError" : PySem.Str), ("MOST_WEIGHT" : PySem.Str), ("MOST_LOOKS" : PySem.Str), ("BRACKET_DEPTH" : PySem.Str), ("joined" : PySem.Str), ("OpenBracket" : PySem.Str), ("TreeBuilder" : PySem.Str), ("EVERY" : PySem.Str), ("DIGITS" : PySem.Str), ("WORD" : PySem.Str), ("WHITE" : PySem.Str), ("IN_LINE" : PySem.Str), ("LIMIT" : PySem.Str), ("make_set" : PySem.Str), ("common" : PySem.Str), ("complement" : PySem.Str), ("without" : PySem.Str), ("shifted" : PySem.Str), ("folded" : PySem.Str), ("LETTERS" : PySem.Str), ("FIGURES" : PySem.Str), ("OCTAL" : PySem.Str), ("HEXADECIMAL" : PySem.Str), ("ANCHORS" : PySem.Str), ("is_sign" : PySem.Str), ("set_of" : PySem.Str), ("hexadecimal" : PySem.Str), ("read_escape" : PySem.Str), ("CLASS_DEPTH" : PySem.Str), ("operator_at" : PySem.Str), ("read_item" : PySem.Str), ("read_range_end" : PySem.Str), ("read_part" : PySem.Str), ("read_class" : PySem.Str), ("MOST_COUNT" : PySem.Str), ("NAME_LENGTH" : PySem.Str), ("NAME_SIGNS" : PySem.Str), ("OPENERS" : PySem.Str), ("code_tree" : PySem.Str), ("caret_or_dollar" : PySem.Str), ("read_element" : PySem.Str), ("read_name" : PySem.Str), ("read_bracket" : PySem.Str), ("read_count" : PySem.Str), ("read_counts" : PySem.Str), ("read_repeat" : PySem.Str), ("read_token" : PySem.Str), ("tokens_of" : PySem.Str), ("FLAG_TEXTS" : PySem.Str), ("read_pattern" : PySem.Str), ("_law_row" : PySem.Str), ("_law_digit" : PySem.Str), ("_law_pieces" : PySem.Str), ("_law_ends" : PySem.Str), ("_law_in_classes" : PySem.Str), ("_law_error" : PySem.Str), ("_law_mended" : PySem.Str)]) (d := HandSHeadRun.topDef DL.rowL.prog 67) (kwd := []) DL.obL_eq
    (by kernel_rfl) (fun s => by kernel_rfl) DL.runL (by kernel_rfl) (by kernel_rfl) (by kernel_rfl) (by rfl) (by first | assumption | decide +kernel) (by decide +kernel) ⟨rfl, rfl, rfl, rfl, rfl, by decide +kernel⟩ ?hw ?hc
  case hw => w_witness2
  case hc =>
    refine DL.walk_ofX (l := PySem.Challenge.rw_firstway_k24_errors_of_tokens) (n := 63) (k := 24) (x := "_law_script") rfl (by decide) (by kernel_rfl) ⟨rfl, by decide, by decide⟩ ?F
    intro w mg fa h Y G hmg0
    obtain ⟨K, KX, c⟩ := Y
    have hmg : mg ("law" : PySem.Str) = some (.ref fa) := hmg0
    obtain ⟨fd, hb, hF⟩ := DL.factsL (Pg := (PySem.Challenge.rw_firstway_k24_errors_of_tokens).prog) (w := w) KX G hmg c
    exact ⟨⟨(PySem.Challenge.rw_firstway_k24_errors_of_tokens).prog, w, K, DL.clsL K, []⟩, fd, rfl, KX, hb, fun base _ _ => hF base⟩

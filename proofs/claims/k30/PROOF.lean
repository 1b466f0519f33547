import PyProof.Rows.All
import Wide.All
import OpenK.AllK
import Wide.FinOn
import HandS.ForMost
import HandS.Exc
import HandS.ExcOwn
import HandS.WordsExc
import HandS.Flow
import HandS.TupAny
import HandS.IsInst
import HandS.SortRule
import HandS.CallSlots
import HandS.NoneIn
import HandS.TupLen
import KE.KeyNested
import HandS.NestedK
import HandS.Deep
import KE.SortData
import HandS.More
import HandS.Defaults
import HandS.Iter
import HandS.HeadWalk
import HandS.Conv
import HandS.Style
import HandS.MakeKwOnly
import HandS.HeadEnd
import HandS.HeadHook2
import HandS.Head2
import HandS.Codes
import HandS.EndTab
import HandS.HeadHook4
import HandS.Head0
import HandS.Head1
import HandS.HeadHook1
import Lean
import PySem.Challenge.RW_firstway_k30_facts_by_the_table
set_option Elab.async false
set_option linter.all false
set_option maxRecDepth 100000
set_option maxHeartbeats 8000000
/-! DL: dicts by keys that may be None; dicts by tuples -/
namespace DL
open PySem PySem.Spec PyProof.Rows L2
/-- a dict by None, ints, texts -/
def FD (pg : Program) (w : World) (a : Addr) (us : List (Option Key × V)) : HO := .ext fun h =>
  us.length ≤ sizeLine ∧ (a == sysModules) = false ∧ ∃ vs, KV us vs ∧ h.DictOf (noneKind pg w) a vs
def kVo : Option Key → V
  | none => .non
  | some k => kV k
theorem kVo_is {P : Program} {w : World} {k : Option Key} {u : Value} (r : RelV (kVo k) u) : (noneKind P w).is k u = true := by
  cases k with
  | none => have r : u = Value.none := r; subst r; rfl
  | some k => exact kV_is (P := P) (w := w) r
section
variable {X : Cx} {pins : List (Addr × Obj)} {σ : L2.St} {H : Hp} {s : Shared} {a : Addr} {y v : V} {u r : Value} {A : Around} {E : Value → Shared → Prop} {us : List (Option Key × V)} {k : Option Key}
theorem fd_of (I : Inv X pins σ H s) (e : H a = some (FD X.prog X.w a us)) : us.length ≤ sizeLine ∧ (a == sysModules) = false ∧ ∃ vs, KV us vs ∧ s.heap.DictOf (noneKind X.prog X.w) a vs := by
  obtain ⟨z, _, _⟩ := I.hok a _ e
  exact z
theorem fd_getItem {Q : Value → Shared → Prop} (I : Inv X pins σ H s) (e : H a = some (FD X.prog X.w a us)) (l : valV us k = some v) (ry : RelV (kVo k) u) (h : ∀ w' s', Inv X pins σ H s' → RelV v w' → Q w' s') :
    wpAny (model X.prog X.w) A (getItem (.ref a) u) Q E s := by
  obtain ⟨z, hd, vs, rel, dd⟩ := fd_of I e
  obtain ⟨w', hw, rw'⟩ := RelO.some_of (v := v) (o := valueAt vs k) (by rw [← l]; exact rel.val k)
  exact wpAny_getItem_of (kVo_is ry) dd.mapOf hw (h w' _ (I.tok _) rw')
theorem fd_in {Q : Value → Shared → Prop} (I : Inv X pins σ H s) (e : H a = some (FD X.prog X.w a us)) (ry : RelV (kVo k) u) (h : ∀ s', Inv X pins σ H s' → Q (.bool (valV us k).isSome) s') :
    wpAny (model X.prog X.w) A (compareOp .In u (.ref a)) Q E s := by
  obtain ⟨z, hd, vs, rel, dd⟩ := fd_of I e
  refine wpAny_in_of (kVo_is ry) hd dd.mapOf ?_
  rw [← (rel.val k).isSome_eq]
  exact h _ (I.tok _)
theorem fd_notIn {Q : Value → Shared → Prop} (I : Inv X pins σ H s) (e : H a = some (FD X.prog X.w a us)) (ry : RelV (kVo k) u) (h : ∀ s', Inv X pins σ H s' → Q (.bool (!(valV us k).isSome)) s') :
    wpAny (model X.prog X.w) A (compareOp .NotIn u (.ref a)) Q E s := by
  obtain ⟨z, hd, vs, rel, dd⟩ := fd_of I e
  refine wpAny_notIn_of (kVo_is ry) hd dd.mapOf ?_
  rw [← (rel.val k).isSome_eq]
  exact h _ (I.tok _)
theorem fd_ok {P : Program} {w : World} {H' : Hp} {h' : Heap} {us : List (Option Key × V)} {vs : List (Option Key × Value)} (z : us.length ≤ sizeLine) (hd : (a == sysModules) = false) (rel : KV us vs) (dd : h'.DictOf (noneKind P w) a vs) :
    ObjOk P w H' h' a (FD P w a us) := by
  refine ⟨⟨z, hd, vs, rel, dd⟩, ?_, ?_⟩
  · obtain ⟨o, _, _, ho, _⟩ := dd; exact ⟨o, ho⟩
  · rintro h1 h2 ⟨z, hd, vs, rel, o, es, ep, ho, hx, hdt, hk, hp, hn⟩ st
    exact ⟨z, hd, vs, rel, o, es, ep, st _ ho, hx, hdt, hk, hp, hn⟩
theorem fd_setItem {Q : Unit → Shared → Prop} (I : Inv X pins σ H s) (e : H a = some (FD X.prog X.w a us)) (l : us.length < sizeLine) (ry : RelV (kVo k) u) (rv : RelV v r)
    (h : ∀ s', Inv X pins σ (upd H a (FD X.prog X.w a (putK us k v))) s' → Q () s') : wpAny (model X.prog X.w) A (setItem (.ref a) u r) Q E s := by
  obtain ⟨z, hd, vs, rel, dd⟩ := fd_of I e
  have hz : vs.length ≤ sizeLine := by rw [← rel.length]; exact z
  have hl : (putK us k v).length ≤ sizeLine := by have := length_putK us k v; omega
  refine wpAny_setItem_pairs (hsz := hz) (kVo_is ry) dd fun h' dd' hs => h _ ?_
  have he : ∃ q, h'.get? a = some q := let ⟨q, _, _, hq, _⟩ := dd'; ⟨q, hq⟩
  exact d_write I (by rw [e]; exact True.intro) hs he (fd_ok hl hd (rel.put k rv) dd')
theorem fd_len {Q : Value → Shared → Prop} (I : Inv X pins σ H s) (e : H a = some (FD X.prog X.w a us)) (h : ∀ t s', Inv X pins σ H s' → Q (.int us.length t) s') : wpAny (model X.prog X.w) A (call (.builtin "len") [.ref a]) Q E s := by
  obtain ⟨z, hd, vs, rel, dd⟩ := fd_of I e
  refine call_len_dict hd dd (by rw [← rel.length]; rw [sizeLine_eq] at z; omega) ?_
  rw [← rel.length]
  exact h _ _ (I.tok _)
end
/-! ### by tuples -/
/-- the entries: the key, where its tuple lies, the value -/
def TD (pg : Program) (w : World) (a : Addr) (es : List (NestedKey × Addr × V)) : HO := .ext fun h =>
  es.length ≤ sizeLine ∧ (a == sysModules) = false ∧ ∃ xs : List (NestedKey × Addr × Value), Paired (fun (p : NestedKey × Addr × V) (q : NestedKey × Addr × Value) => p.1 = q.1 ∧ p.2.1 = q.2.1 ∧ RelV p.2.2 q.2.2) es xs ∧
    ∃ o e ep, h.get? a = some o ∧ o.ExactDict ∧ o.data = .dict e ep ∧ e.toList = xs.map (entryOfKey (nestedKind pg w)) ∧ (xs.map (·.1)).Nodup
def tVal (es : List (NestedKey × Addr × V)) (k : NestedKey) : Option V := (es.find? fun x => decide (x.1 = k)).map (·.2.2)
def tPut (es : List (NestedKey × Addr × V)) (k : NestedKey) (b : Addr) (v : V) : List (NestedKey × Addr × V) :=
  if (es.any fun x => decide (x.1 = k)) = true then es.map (fun x => if x.1 = k then (x.1, x.2.1, v) else x) else es ++ [(k, b, v)]
abbrev TR : List (NestedKey × Addr × V) → List (NestedKey × Addr × Value) → Prop := Paired fun p q => p.1 = q.1 ∧ p.2.1 = q.2.1 ∧ RelV p.2.2 q.2.2
theorem TR.val {es xs} (r : TR es xs) (k : NestedKey) : RelO (tVal es k) ((atKey xs k).map (·.2)) := by
  induction r with
  | nil => exact True.intro
  | @cons p q ps qs h t ih =>
    obtain ⟨h1, _, h2⟩ := h
    by_cases e : p.1 = k
    · have e' : q.1 = k := h1.symm.trans e
      have b : atKey (q :: qs) k = some q.2 := by simp [atKey, List.find?_cons, e']
      have c : tVal (p :: ps) k = some p.2.2 := by simp [tVal, List.find?_cons, e]
      rw [c, b]; exact h2
    · have e' : ¬ q.1 = k := fun z => e (h1.trans z)
      have b : atKey (q :: qs) k = atKey qs k := by simp [atKey, List.find?_cons, e']
      have c : tVal (p :: ps) k = tVal ps k := by simp [tVal, List.find?_cons, e]
      rw [c, b]; exact ih
theorem TR.any {es xs} (r : TR es xs) (k : NestedKey) : (es.any fun x => decide (x.1 = k)) = (atKey xs k).isSome := by
  induction r with
  | nil => rfl
  | @cons p q ps qs h t ih =>
    obtain ⟨h1, _, h2⟩ := h
    rw [List.any_cons, ih]
    by_cases e : p.1 = k
    · have e' : q.1 = k := h1.symm.trans e
      have b : atKey (q :: qs) k = some q.2 := by simp [atKey, List.find?_cons, e']
      rw [b]; simp [e]
    · have e' : ¬ q.1 = k := fun z => e (h1.trans z)
      have b : atKey (q :: qs) k = atKey qs k := by simp [atKey, List.find?_cons, e']
      rw [b]; simp [e]
theorem TR.put {es xs} (r : TR es xs) (k : NestedKey) {b : Addr} {v : V} {u : Value} (rv : RelV v u) : TR (tPut es k b v) (storedH xs k b u) := by
  unfold tPut storedH
  rw [r.any]
  by_cases q : (atKey xs k).isSome = true
  · rw [if_pos q, if_pos q]
    clear q
    induction r with
    | nil => exact .nil
    | @cons p q ps qs h t ih =>
      rw [List.map_cons, List.map_cons]
      refine .cons ?_ ih
      obtain ⟨h1, h2, h3⟩ := h
      unfold putAt
      by_cases e : p.1 = k
      · rw [if_pos e, if_pos (h1.symm.trans e)]; exact ⟨h1, h2, rv⟩
      · rw [if_neg e, if_neg (fun z => e (h1.trans z))]; exact ⟨h1, h2, h3⟩
  · rw [if_neg q, if_neg q]; exact Paired.snoc r ⟨rfl, rfl, rv⟩
theorem tPut_len (es : List (NestedKey × Addr × V)) (k : NestedKey) (b : Addr) (v : V) : (tPut es k b v).length ≤ es.length + 1 := by
  unfold tPut
  split
  · rw [List.length_map]; omega
  · rw [List.length_append]; simp
theorem nested_room {A : Around} (hu : A.units + 10 < cLine) {pg : Program} {w : World} : (nestedKind pg w).room A.in1 := by
  show A.in1.units + 8 < cLine
  rw [Around.in1_units]; omega
section
variable {X : Cx} {pins : List (Addr × Obj)} {σ : L2.St} {H : Hp} {s : Shared} {a b : Addr} {y v : V} {u r : Value} {A : Around} {E : Value → Shared → Prop} {es : List (NestedKey × Addr × V)} {k : NestedKey}
/-- the keys lie as they should -/
def KeysAt (pg : Program) (w : World) (h : Heap) (es : List (NestedKey × Addr × V)) : Prop := ∀ x ∈ es, (nestedKind pg w).is h x.1 x.2.1
theorem td_of (I : Inv X pins σ H s) (e : H a = some (TD X.prog X.w a es)) (hk : KeysAt X.prog X.w s.heap es) : es.length ≤ sizeLine ∧ (a == sysModules) = false ∧ ∃ xs, TR es xs ∧ s.heap.DictOfH (nestedKind X.prog X.w) a xs := by
  obtain ⟨⟨z, hd, xs, r, o, e1, ep, h1, h2, h3, h4, h5⟩, _, _⟩ := I.hok a _ e
  refine ⟨z, hd, xs, r, o, e1, ep, h1, h2, h3, h4, fun x hx => ?_, h5⟩
  have : ∀ {l m}, TR l m → (∀ x ∈ l, (nestedKind X.prog X.w).is s.heap x.1 x.2.1) → ∀ x ∈ m, (nestedKind X.prog X.w).is s.heap x.1 x.2.1 := by
    intro l m r
    induction r with
    | nil => intro _ x hx; cases hx
    | @cons p q ps qs h t ih =>
      intro hl x hx
      rcases List.mem_cons.mp hx with e | hx
      · subst e
        obtain ⟨h1, h2, _⟩ := h
        rw [← h1, ← h2]
        exact hl p List.mem_cons_self
      · exact ih (fun y hy => hl y (List.mem_cons_of_mem _ hy)) x hx
  exact this r hk x hx
theorem td_getItem {Q : Value → Shared → Prop} (hu : A.units + 10 < cLine) (I : Inv X pins σ H s) (e : H a = some (TD X.prog X.w a es)) (hk : KeysAt X.prog X.w s.heap es) (hb : (nestedKind X.prog X.w).is s.heap k b) (l : tVal es k = some v)
    (h : ∀ w' s', Inv X pins σ H s' → RelV v w' → Q w' s') : wpAny (model X.prog X.w) A (getItem (.ref a) (.ref b)) Q E s := by
  obtain ⟨z, hd, xs, rel, dd⟩ := td_of I e hk
  obtain ⟨w', hw, rw'⟩ := RelO.some_of (v := v) (o := (atKey xs k).map (·.2)) (by rw [← l]; exact rel.val k)
  obtain ⟨p, hp, hp2⟩ := Option.map_eq_some_iff.mp hw
  refine wpAny_getItem_heap (nested_room hu) hb dd hp ?_
  rw [hp2]
  exact h w' _ (I.tok _) rw'
theorem td_in {Q : Value → Shared → Prop} (hu : A.units + 10 < cLine) (I : Inv X pins σ H s) (e : H a = some (TD X.prog X.w a es)) (hk : KeysAt X.prog X.w s.heap es) (hb : (nestedKind X.prog X.w).is s.heap k b)
    (h : ∀ s', Inv X pins σ H s' → Q (.bool (tVal es k).isSome) s') : wpAny (model X.prog X.w) A (compareOp .In (.ref b) (.ref a)) Q E s := by
  obtain ⟨z, hd, xs, rel, dd⟩ := td_of I e hk
  refine wpAny_in_heap (nested_room hu) hb hd dd ?_
  have q := (rel.val k).isSome_eq
  rw [Option.isSome_map] at q
  rw [← q]
  exact h _ (I.tok _)
theorem td_notIn {Q : Value → Shared → Prop} (hu : A.units + 10 < cLine) (I : Inv X pins σ H s) (e : H a = some (TD X.prog X.w a es)) (hk : KeysAt X.prog X.w s.heap es) (hb : (nestedKind X.prog X.w).is s.heap k b)
    (h : ∀ s', Inv X pins σ H s' → Q (.bool (!(tVal es k).isSome)) s') : wpAny (model X.prog X.w) A (compareOp .NotIn (.ref b) (.ref a)) Q E s := by
  obtain ⟨z, hd, xs, rel, dd⟩ := td_of I e hk
  refine wpAny_notIn_heap (nested_room hu) hb hd dd ?_
  have q := (rel.val k).isSome_eq
  rw [Option.isSome_map] at q
  rw [← q]
  exact h _ (I.tok _)
theorem td_ok {P : Program} {w : World} {H' : Hp} {h' : Heap} {xs : List (NestedKey × Addr × Value)} (z : es.length ≤ sizeLine) (hd : (a == sysModules) = false) (rel : TR es xs) (dd : h'.DictOfH (nestedKind P w) a xs) :
    ObjOk P w H' h' a (TD P w a es) := by
  obtain ⟨o, e1, ep, h1, h2, h3, h4, _, h5⟩ := dd
  refine ⟨⟨z, hd, xs, rel, o, e1, ep, h1, h2, h3, h4, h5⟩, ⟨o, h1⟩, ?_⟩
  rintro g1 g2 ⟨z, hd, xs, rel, o, e1, ep, h1, h2, h3, h4, h5⟩ st
  exact ⟨z, hd, xs, rel, o, e1, ep, st _ h1, h2, h3, h4, h5⟩
theorem td_setItem {Q : Unit → Shared → Prop} (hu : A.units + 10 < cLine) (I : Inv X pins σ H s) (e : H a = some (TD X.prog X.w a es)) (hk : KeysAt X.prog X.w s.heap es) (hb : (nestedKind X.prog X.w).is s.heap k b) (l : es.length < sizeLine) (rv : RelV v r)
    (h : ∀ s', Inv X pins σ (upd H a (TD X.prog X.w a (tPut es k b v))) s' → Q () s') : wpAny (model X.prog X.w) A (setItem (.ref a) (.ref b) r) Q E s := by
  obtain ⟨z, hd, xs, rel, dd⟩ := td_of I e hk
  have hz : xs.length ≤ sizeLine := by rw [← Paired.length rel]; exact z
  have hl : (tPut es k b v).length ≤ sizeLine := by have := tPut_len es k b v; omega
  refine wpAny_setItem_heap (hsz := hz) (nested_room hu) hb dd fun h' dd' hs => h _ ?_
  have he : ∃ q, h'.get? a = some q := let ⟨q, _, _, hq, _⟩ := dd'; ⟨q, hq⟩
  exact d_write I (by rw [e]; exact True.intro) hs he (td_ok hl hd (rel.put k rv) dd')
theorem td_len {Q : Value → Shared → Prop} (I : Inv X pins σ H s) (e : H a = some (TD X.prog X.w a es)) (hk : KeysAt X.prog X.w s.heap es) (h : ∀ t s', Inv X pins σ H s' → Q (.int es.length t) s') : wpAny (model X.prog X.w) A (call (.builtin "len") [.ref a]) Q E s := by
  obtain ⟨z, hd, xs, rel, dd⟩ := td_of I e hk
  refine call_len_dictH hd dd (by rw [← Paired.length rel]; rw [sizeLine_eq] at z; omega) ?_
  rw [← Paired.length rel]
  exact h _ _ (I.tok _)
end
theorem pe_dnewF {X : Cx} {pos : Pos} : PE X (.Dict [] [] pos) fun _ H Q => ∀ p, H p = none → Q (.ref p) (upd H p (FD X.prog X.w p [])) := ⟨fun pins s σ H Q I h =>
  wpAny_Dict_empty ⟨.ref s.heap.objs.size, _, I.laid (a := s.heap.objs.size) (o := FD X.prog X.w s.heap.objs.size []) (t' := s.toks) (fun _ _ q => Heap.get?_push_of_some _ q) (Nat.le_refl _)
    (fd_ok (vs := []) (Nat.zero_le _) (beq_eq_false_iff_ne.mpr (Nat.ne_of_gt I.big)) .nil ⟨_, #[], 0, Heap.get?_push_size _ rfl, ⟨rfl, rfl, rfl⟩, rfl, fun _ he => by simp at he, by constructor, by simp⟩), rfl, h _ (I.hok.fresh (Nat.le_refl _))⟩⟩
theorem pe_dnewT {X : Cx} {pos : Pos} : PE X (.Dict [] [] pos) fun _ H Q => ∀ p, H p = none → Q (.ref p) (upd H p (TD X.prog X.w p [])) := ⟨fun pins s σ H Q I h =>
  wpAny_Dict_empty ⟨.ref s.heap.objs.size, _, I.laid (a := s.heap.objs.size) (o := TD X.prog X.w s.heap.objs.size []) (t' := s.toks) (fun _ _ q => Heap.get?_push_of_some _ q) (Nat.le_refl _)
    (td_ok (xs := []) (Nat.zero_le _) (beq_eq_false_iff_ne.mpr (Nat.ne_of_gt I.big)) .nil ⟨_, #[], 0, Heap.get?_push_size _ rfl, ⟨rfl, rfl, rfl⟩, rfl, rfl, fun _ he => (nomatch he), by simp⟩), rfl, h _ (I.hok.fresh (Nat.le_refl _))⟩⟩
/-! ### a display with texts as keys -/
structure PD (X : Cx) (KS : List Str) (keys : List (Option Expr)) (values : List Expr) (t : TA) : Prop where
  run : ∀ (pos : Pos) (pins : List (Addr × Obj)) (s : Shared) (σ : L2.St) (H : Hp) (Q : List V → Hp → Prop), Inv X pins σ H s → t σ H Q →
    wpAny (model X.prog X.w) X.A (evalPairs (pairTrees keys values X.env pos)) (fun ws s' => ∃ us H', Inv X pins σ H' s' ∧ us.length = KS.length ∧ VV ((KS.zip us).map fun p => (V.str p.1, p.2)) ws ∧ Q us H') X.xe s
theorem pd_nil {X : Cx} : PD X [] [] [] (fun _ H Q => Q [] H) := ⟨fun pos pins s σ H Q I h => pairTrees_nil_walk ⟨[], H, I, rfl, .nil, h⟩⟩
theorem pd_cons {X : Cx} {KS : List Str} {k : Str} {a : Nat} {b : Pos} {v : Expr} {keys : List (Option Expr)} {values : List Expr} {tv : TE} {tr : TA} (hv : PE X v tv) (hr : PD X KS keys values tr) :
    PD X (k :: KS) (some (.Constant (.str k) a b) :: keys) (v :: values) (fun σ H Q => tv σ H fun y H2 => tr σ H2 fun us H3 => Q (y :: us) H3) := ⟨fun pos pins s σ H Q I h =>
  pairTrees_cons_walk (thn ((pe_str (x := k) (j := a) (pos := b)).run pins s σ H (fun x H1 => x = .str k ∧ H1 = H) I ⟨rfl, rfl⟩) fun u s1 ⟨x, H1, I1, rx, ex, e1⟩ => by
    subst ex; subst e1
    exact thn (hv.run pins s1 σ _ _ I1 h) fun w2 s2 ⟨y, H2, I2, ry, q2⟩ =>
      thn (hr.run pos pins s2 σ H2 _ I2 q2) fun ws s3 ⟨us, H3, I3, hl, rel, q3⟩ => ⟨y :: us, H3, I3, by rw [List.length_cons, List.length_cons, hl], .cons ⟨rx, ry⟩ rel, q3⟩)⟩
def fPut (l : List (Str × V)) (acc : List (Option Key × V)) : List (Option Key × V) := l.foldl (fun acc kv => putK acc (some (.inr kv.1)) kv.2) acc
theorem fPut_len : ∀ (l : List (Str × V)) (acc : List (Option Key × V)), (fPut l acc).length ≤ acc.length + l.length
  | [], acc => Nat.le_refl _
  | p :: l, acc => by
    have h1 := fPut_len l (putK acc (some (.inr p.1)) p.2)
    have h2 := length_putK acc (some (.inr p.1) : Option Key) p.2
    show (fPut l (putK acc (some (.inr p.1)) p.2)).length ≤ _
    rw [List.length_cons]; omega
theorem carriesF {P : Program} {w : World} : ∀ {l : List (Str × V)} {ws : List (Value × Value)}, VV (l.map fun p => (V.str p.1, p.2)) ws → ∃ rs : List (Option Key × Value), Carries (noneKind P w) ws rs ∧ ∀ {acc vs}, KV acc vs → KV (fPut l acc) (merged vs rs)
  | [], _, r => by rw [List.map_nil] at r; cases r; exact ⟨[], True.intro, fun q => q⟩
  | p :: l, _, r => by
    rw [List.map_cons] at r
    cases r with
    | @cons a b as bs h t =>
      obtain ⟨rs, c, q⟩ := carriesF (P := P) (w := w) t
      obtain ⟨b1, b2⟩ := b
      have h1 : (noneKind P w).is (some (.inr p.1)) b1 = true := kVo_is (P := P) (w := w) (k := some (.inr p.1)) h.1
      exact ⟨(some (.inr p.1), b2) :: rs, ⟨h1, rfl, c⟩, fun q0 => q (q0.put _ h.2)⟩
theorem pe_dlitF {X : Cx} {pos : Pos} {KS : List Str} {keys : List (Option Expr)} {values : List Expr} {t : TA} (h : PD X KS keys values t) (hall : keys.all (·.isSome) = true) (hl : keys.length = values.length) (h0 : keys ≠ []) (h15 : keys.length ≤ 15) (hk : KS.length ≤ 15) :
    PE X (.Dict keys values pos) fun σ H Q => ∀ p, H p = none → t σ (upd H p (FD X.prog X.w p [])) fun us H2 => H2 p = some (FD X.prog X.w p []) ∧ Q (.ref p) (upd H2 p (FD X.prog X.w p (fPut (KS.zip us) []))) := by
  refine ⟨fun pins s σ H Q I q => ?_⟩
  have hn := I.hok.fresh (Nat.le_refl s.heap.objs.size)
  have I1 := I.laid (a := s.heap.objs.size) (o := FD X.prog X.w s.heap.objs.size []) (h' := s.heap.push { cls := .type "dict", data := .dict #[] }) (t' := s.toks) (fun _ _ q => Heap.get?_push_of_some _ q) (Nat.le_refl _)
    (fd_ok (vs := []) (Nat.zero_le _) (beq_eq_false_iff_ne.mpr (Nat.ne_of_gt I.big)) .nil ⟨_, #[], 0, Heap.get?_push_size _ rfl, ⟨rfl, rfl, rfl⟩, rfl, fun _ he => by simp at he, by constructor, by simp⟩)
  refine wpAny_Dict_walk (knd := noneKind X.prog X.w) hall hl h0 h15 (thn (h.run pos pins _ σ _ _ I1 (q _ hn)) fun ws s2 ⟨us, H2, I2, hlen, rel, e, q2⟩ => ?_)
  obtain ⟨rs, c, rk⟩ := carriesF (P := X.prog) (w := X.w) rel
  obtain ⟨z, hd, vs0, r0, dd⟩ := fd_of I2 e
  cases r0
  refine ⟨rs, c, dd, fun h' dd' hs => ⟨.ref s.heap.objs.size, _, ?_, rfl, q2⟩⟩
  have hz : (fPut (KS.zip us) []).length ≤ sizeLine := by
    have h1 := fPut_len (KS.zip us) []
    rw [List.length_nil, List.length_zip, hlen] at h1
    rw [sizeLine_eq]; omega
  have he : ∃ q, h'.get? s.heap.objs.size = some q := let ⟨q, _, _, hq, _⟩ := dd'; ⟨q, hq⟩
  exact d_write I2 (by rw [e]; exact True.intro) hs he (fd_ok hz hd (rk .nil) dd')
/-! ### d.get(y, x) -/
def tFGet2 (pg : Program) (wl : World) (td ty tx : TE) : TE := fun σ H Q => td σ H fun x H1 => ∃ a us, x = .ref a ∧ H1 a = some (FD pg wl a us) ∧ ty σ H1 fun y H2 => tx σ H2 fun z H3 => ∃ us k, H3 a = some (FD pg wl a us) ∧ y = kVo k ∧ Q ((valV us k).getD z) H3
theorem fd_get2 {X : Cx} {pins : List (Addr × Obj)} {σ : L2.St} {H : Hp} {s : Shared} {a : Addr} {z : V} {u r : Value} {A : Around} {E : Value → Shared → Prop} {us : List (Option Key × V)} {k : Option Key} {Q : Value → Shared → Prop} (hu : A.units + 1 < cLine) (I : Inv X pins σ H s) (e : H a = some (FD X.prog X.w a us)) (ry : RelV (kVo k) u) (rd : RelV z r)
    (h : ∀ w' s', Inv X pins σ H s' → RelV ((valV us k).getD z) w' → Q w' s') : wpAny (model X.prog X.w) A (call (.builtin "dict.get") [.ref a, u, r]) Q E s := by
  obtain ⟨_, hd, vs, rel, dd⟩ := fd_of I e
  refine call_meetsIn PySem.F.slot_dict_get dd.typeIs PySem.F.entry_dict_get (PySem.F.args_dict_get_3 _ _ _) (meets_dict_get_default (noneKind X.prog X.w) a (kVo_is ry) hd r) ⟨_, dd.mapOf, h _ _ (I.tok _) ?_⟩
  exact (rel.val k).getD rd
theorem pe_fget2 {X : Cx} {o e f : Expr} {apos cpos : Pos} {td ty tx : TE} (hu : X.A.units + 1 < cLine) (ho : PE X o td) (he : PE X e ty) (hf : PE X f tx) (m : M2 X o "get" apos e f cpos) : PE X (.Call (.Attribute o "get" apos) [e, f] [] cpos) (tFGet2 X.prog X.w td ty tx) := by
  refine ⟨fun pins s σ H Q I h => ?_⟩
  refine wpAny_Call_method m.base m.few m.line PySem.F.plainAttrs_dict PySem.F.slot_dict_get PySem.F.type_dict_get (thn (ho.run pins s σ H _ I h) fun u s1 ⟨x, H1, I1, rx, a, us, ex, d, q1⟩ => ?_)
  subst ex
  obtain rfl : u = Value.ref a := rx
  obtain ⟨_, hd, vs, _, dd⟩ := fd_of I1 d
  have t2 : ∀ b, Value.ref a = .ref b → ∃ ob, s1.heap.get? b = some ob ∧ ob.dict = none := fun b q => by
    cases q
    obtain ⟨ob, _, _, h1, h2, _⟩ := dd
    exact ⟨ob, h1, h2.2.1⟩
  refine ⟨dd.typeIs, t2, ?_⟩
  rw [m.trees]
  refine Calls.callWith_builtin rfl (Calls.evalArgs_plain (Calls.spliced_cons (thn (he.run pins s1 σ H1 _ I1 q1) fun iv s2 ⟨y, H2, I2, ry, q2⟩ =>
    Calls.spliced_cons (thn (hf.run pins s2 σ H2 _ I2 q2) fun fv s3 ⟨z, H3, I3, rz, us3, k, e3, ey, q3⟩ => Calls.spliced_nil ?_))))
  subst ey
  exact fd_get2 hu I3 e3 ry rz fun w' s4 I4 rw' => ⟨_, H3, I4, rw', q3⟩
end DL

/-! DL: a layer of data over HandS: tuples and settled lists are values, only what is changed stands at a place -/
namespace DL
open PySem L2

/-- data: what a name holds, tuples and settled lists by value; ref k: the k-th changing object -/
inductive D where
  | non | bl (b : Bool) | int (i : Int) | str (s : Str) | tup (ds : List D) | lst (ds : List D) | scr (ns : List Int) | ref (k : Nat) | obj (c : Str) (ns : List Str) (ds : List D)
/-- a changing object; dead: one that is settled or let go -/
inductive MO where
  | lst (ds : List D) | dct (kvs : List (Option Key × D)) | dctT (kvs : List (D × D)) | ins (c : Str) (fs : List (Str × D)) | fn (F : NdefX.NF) (n : Nat) (cs : List D) (cvs : List V) | dead
abbrev Md := List MO
abbrev Std := List (Option D)

/-- how data lie: F what is settled, r where the changing objects stand -/
structure Wd where
  F : Hp
  r : List Addr
/-- the classes of the text -/
structure Pm where
  pg : Program
  wl : World
  K : PySem.W.Frag
  cls : Str → Addr
  T : List NdefX.NTab

mutual
def RelD (P : Pm) (w : Wd) : D → V → Prop
  | .non, v => v = .non
  | .bl b, v => v = .bl b
  | .int i, v => v = .int i
  | .str s, v => v = .str s
  | .tup ds, v => ∃ p vs, v = .ref p ∧ SqT P.K w.F p vs ∧ RelDs P w ds vs
  | .lst ds, v => ∃ p vs, v = .ref p ∧ w.F p = some (.lst vs) ∧ RelDs P w ds vs
  | .scr ns, v => ∃ p, v = .ref p ∧ SqL P.K w.F p (ns.map V.int)
  | .ref k, v => ∃ p, v = .ref p ∧ w.r[k]? = some p
  | .obj c ns ds, v => ∃ p dx vs, v = .ref p ∧ w.F p = some (.ins (P.cls c) dx (ns.zip vs)) ∧ ns.length = ds.length ∧ RelDs P w ds vs
def RelDs (P : Pm) (w : Wd) : List D → List V → Prop
  | [], vs => vs = []
  | d :: ds, vs => ∃ v r, vs = v :: r ∧ RelD P w d v ∧ RelDs P w ds r
end

structure Le (w w' : Wd) : Prop where
  F : ∀ a o, w.F a = some o → w'.F a = some o
  r : ∀ (k : Nat) p, w.r[k]? = some p → w'.r[k]? = some p
theorem Le.refl (w : Wd) : Le w w := ⟨fun _ _ h => h, fun _ _ h => h⟩
theorem Le.trans {a b c : Wd} (x : Le a b) (y : Le b c) : Le a c := ⟨fun p o h => y.F p o (x.F p o h), fun k p h => y.r k p (x.r k p h)⟩

theorem rd_mono {H H' : Hp} (e : ∀ a o, H a = some o → H' a = some o) {a : Addr} {u : HO} (h : Rd H a u) : Rd H' a u := by
  rcases h with h | ⟨o, h⟩
  · exact .inl (e _ _ h)
  · exact .inr ⟨o, e _ _ h⟩
theorem sqT_mono {K : PySem.W.Frag} {H H' : Hp} (e : ∀ a o, H a = some o → H' a = some o) {a : Addr} {xs : List V} (h : SqT K H a xs) : SqT K H' a xs := by
  rcases h with h | h
  · exact .inl (rd_mono e h)
  · exact .inr h
theorem sqL_mono {K : PySem.W.Frag} {H H' : Hp} (e : ∀ a o, H a = some o → H' a = some o) {a : Addr} {xs : List V} (h : SqL K H a xs) : SqL K H' a xs := by
  rcases h with h | h
  · exact .inl (rd_mono e h)
  · exact .inr h

section
variable {P : Pm} {w w' : Wd}
mutual
theorem RelD.mono (l : Le w w') : ∀ {d : D} {v : V}, RelD P w d v → RelD P w' d v
  | .non, _, h => h
  | .bl _, _, h => h
  | .int _, _, h => h
  | .str _, _, h => h
  | .tup ds, _, ⟨p, vs, e, hp, hs⟩ => ⟨p, vs, e, sqT_mono l.F hp, RelDs.mono l hs⟩
  | .lst ds, _, ⟨p, vs, e, hp, hs⟩ => ⟨p, vs, e, l.F _ _ hp, RelDs.mono l hs⟩
  | .scr _, _, ⟨p, e, hp⟩ => ⟨p, e, sqL_mono l.F hp⟩
  | .ref _, _, ⟨p, e, hp⟩ => ⟨p, e, l.r _ _ hp⟩
  | .obj c ns ds, _, ⟨p, dx, vs, e, hp, hl, hs⟩ => ⟨p, dx, vs, e, l.F _ _ hp, hl, RelDs.mono l hs⟩
theorem RelDs.mono (l : Le w w') : ∀ {ds : List D} {vs : List V}, RelDs P w ds vs → RelDs P w' ds vs
  | [], _, h => h
  | d :: ds, _, ⟨v, r, e, h1, h2⟩ => ⟨v, r, e, RelD.mono l h1, RelDs.mono l h2⟩
end
theorem RelDs.length : ∀ {ds : List D} {vs : List V}, RelDs P w ds vs → vs.length = ds.length
  | [], _, h => by
    have h : _ = [] := h
    rw [h]; rfl
  | d :: ds, _, ⟨v, r, e, h1, h2⟩ => by rw [e, List.length_cons, List.length_cons, RelDs.length h2]
theorem RelDs.nil : RelDs P w [] [] := rfl
theorem RelDs.cons {d : D} {ds : List D} {v : V} {vs : List V} (h : RelD P w d v) (t : RelDs P w ds vs) : RelDs P w (d :: ds) (v :: vs) := ⟨v, vs, rfl, h, t⟩
theorem RelDs.append : ∀ {ds es : List D} {vs us : List V}, RelDs P w ds vs → RelDs P w es us → RelDs P w (ds ++ es) (vs ++ us)
  | [], _, _, _, h, t => by
    have h : _ = [] := h
    rw [h]; exact t
  | d :: ds, _, _, _, ⟨v, r, e, h1, h2⟩, t => by rw [e]; exact ⟨v, _, rfl, h1, RelDs.append h2 t⟩
theorem RelDs.get : ∀ {ds : List D} {vs : List V} {i : Nat} {d : D}, RelDs P w ds vs → ds[i]? = some d → ∃ v, vs[i]? = some v ∧ RelD P w d v
  | [], _, _, _, _, h => by simp at h
  | d :: ds, _, 0, _, ⟨v, r, e, h1, h2⟩, h => by
    simp at h; subst h; rw [e]; exact ⟨v, rfl, h1⟩
  | d :: ds, _, i + 1, _, ⟨v, r, e, h1, h2⟩, h => by
    rw [e]
    simpa using RelDs.get (i := i) h2 (by simpa using h)
theorem RelDs.set : ∀ {ds : List D} {vs : List V} {d : D} {v : V} (i : Nat), RelD P w d v → RelDs P w ds vs → RelDs P w (ds.set i d) (vs.set i v)
  | [], _, _, _, _, _, h => by
    have h : _ = [] := h
    rw [h]; rfl
  | d :: ds, _, _, _, 0, q, ⟨v, r, e, h1, h2⟩ => by rw [e]; exact ⟨_, _, rfl, q, h2⟩
  | d :: ds, _, _, _, i + 1, q, ⟨v, r, e, h1, h2⟩ => by rw [e]; exact ⟨_, _, rfl, h1, RelDs.set i q h2⟩
theorem RelDs.take : ∀ {ds : List D} {vs : List V} (n : Nat), RelDs P w ds vs → RelDs P w (ds.take n) (vs.take n)
  | _, _, 0, _ => by simp [RelDs]
  | [], _, n + 1, h => by
    have h : _ = [] := h
    rw [h]; rfl
  | d :: ds, _, n + 1, ⟨v, r, e, h1, h2⟩ => by rw [e]; exact ⟨_, _, rfl, h1, RelDs.take n h2⟩
theorem RelDs.drop : ∀ {ds : List D} {vs : List V} (n : Nat), RelDs P w ds vs → RelDs P w (ds.drop n) (vs.drop n)
  | _, _, 0, h => by simpa using h
  | [], _, n + 1, h => by
    have h : _ = [] := h
    rw [h]; rfl
  | d :: ds, _, n + 1, ⟨v, r, e, h1, h2⟩ => by rw [e]; exact RelDs.drop n h2
theorem RelDs.reverse : ∀ {ds : List D} {vs : List V}, RelDs P w ds vs → RelDs P w ds.reverse vs.reverse
  | [], _, h => by
    have h : _ = [] := h
    rw [h]; rfl
  | d :: ds, _, ⟨v, r, e, h1, h2⟩ => by
    rw [e, List.reverse_cons, List.reverse_cons]
    exact RelDs.append (RelDs.reverse h2) (.cons h1 .nil)
end

/-- entries, field by field -/
def RelKs {κ : Type} (P : Pm) (w : Wd) : List (κ × D) → List (κ × V) → Prop
  | [], us => us = []
  | (k, d) :: r, us => ∃ v us', us = (k, v) :: us' ∧ RelD P w d v ∧ RelKs P w r us'
theorem RelKs.mono {κ : Type} {P : Pm} {w w' : Wd} (l : Le w w') : ∀ {ds : List (κ × D)} {vs : List (κ × V)}, RelKs P w ds vs → RelKs P w' ds vs
  | [], _, h => h
  | (k, d) :: r, _, ⟨v, us', e, h2, h3⟩ => ⟨v, us', e, h2.mono l, RelKs.mono l h3⟩
theorem RelKs.length {κ : Type} {P : Pm} {w : Wd} : ∀ {ds : List (κ × D)} {vs : List (κ × V)}, RelKs P w ds vs → vs.length = ds.length
  | [], _, h => by
    have h : _ = [] := h
    rw [h]; rfl
  | (k, d) :: r, _, ⟨v, us', e, h2, h3⟩ => by rw [e, List.length_cons, List.length_cons, RelKs.length h3]

/-! ### keys that are tuples -/
mutual
def keyN : D → Option NestedKey
  | .non => some .none
  | .bl b => some (.num (if b = true then 1 else 0))
  | .int i => some (.num i)
  | .str s => some (.text s)
  | .tup ds => (keyNs ds).map .tup
  | .lst _ => none
  | .scr _ => none
  | .ref _ => none
  | .obj _ _ _ => none
def keyNs : List D → Option (List NestedKey)
  | [] => some []
  | d :: ds => match keyN d, keyNs ds with
    | some k, some ks => some (k :: ks)
    | _, _ => none
end
/-- entries by tuples -/
def RelTs (P : Pm) (w : Wd) : List (D × D) → List (NestedKey × Addr × V) → Prop
  | [], es => es = []
  | (kd, d) :: r, es => ∃ k b v es', es = (k, b, v) :: es' ∧ keyN kd = some k ∧ k.depth ≤ 8 ∧ RelD P w kd (.ref b) ∧ RelD P w d v ∧ RelTs P w r es'
theorem RelTs.mono {P : Pm} {w w' : Wd} (l : Le w w') : ∀ {ds : List (D × D)} {es : List (NestedKey × Addr × V)}, RelTs P w ds es → RelTs P w' ds es
  | [], _, h => h
  | (kd, d) :: r, _, ⟨k, b, v, es', e, h1, h2, h3, h4, h5⟩ => ⟨k, b, v, es', e, h1, h2, h3.mono l, h4.mono l, RelTs.mono l h5⟩
theorem RelTs.length {P : Pm} {w : Wd} : ∀ {ds : List (D × D)} {es : List (NestedKey × Addr × V)}, RelTs P w ds es → es.length = ds.length
  | [], _, h => by
    have h : _ = [] := h
    rw [h]; rfl
  | (kd, d) :: r, _, ⟨k, b, v, es', e, h1, h2, h3, h4, h5⟩ => by rw [e, List.length_cons, List.length_cons, RelTs.length h5]
/-- a changing object as it stands at p -/
def CellOk (P : Pm) (w : Wd) (H : Hp) (p : Addr) : MO → Prop
  | .dead => True
  | .lst ds => w.F p = none ∧ ∃ vs, H p = some (.lst vs) ∧ RelDs P w ds vs
  | .dct kvs => w.F p = none ∧ ∃ us, H p = some (FD P.pg P.wl p us) ∧ RelKs P w kvs us
  | .dctT kvs => w.F p = none ∧ ∃ es, H p = some (TD P.pg P.wl p es) ∧ RelTs P w kvs es
  | .ins c fs => w.F p = none ∧ ∃ dx us, H p = some (.ins (P.cls c) dx us) ∧ RelKs P w fs us
  | .fn F _ cs cvs => w.F p = none ∧ H p = some (NdefX.FnO p F) ∧ F.c ∉ w.r ∧ H F.c = some (LamX.CodeO F.c F.qual) ∧ RelDs P w cs cvs
/-- no code object, no table -/
structure NoC (b : Addr) (o : HO) : Prop where
  c : ∀ q, o ≠ LamX.CodeO b q
  t : ∀ ps, o ≠ .tbl ps
/-- the tables of code objects stand, apart from all else -/
structure TabOk (P : Pm) (w : Wd) (H : Hp) : Prop where
  t : ∀ t ∈ P.T, (t.1 ∉ w.r ∧ w.F t.1 = none) ∧ ∃ ps : Array Value, H t.1 = some (.tbl ps) ∧ TriplesOk ps.toList ∧ ∀ (pos : Pos) (cv : Value), codeAmong pos ps.toList = some cv → ∃ c, cv = .ref c ∧ c ∉ w.r ∧ H c = some (LamX.CodeO c (t.2 pos.line pos.col))
  nt : ∀ a ps, w.F a ≠ some (.tbl ps)
  nc : ∀ b ∈ w.r, ∀ o, H b = some o → NoC b o
structure RepM (P : Pm) (w : Wd) (M : Md) (H : Hp) : Prop where
  sub : ∀ a o, w.F a = some o → H a = some o
  len : M.length = w.r.length
  nd : w.r.Nodup
  inH : ∀ p ∈ w.r, H p ≠ none
  cell : ∀ (k : Nat) m p, M[k]? = some m → w.r[k]? = some p → CellOk P w H p m
  tab : TabOk P w H
def RelSt (P : Pm) (w : Wd) (sd : Std) (σ : L2.St) : Prop := sd.length = σ.length ∧ ∀ (i : Nat) d, sd[i]? = some (some d) → ∃ v, σ[i]? = some (some v) ∧ RelD P w d v
theorem RelSt.mono {P : Pm} {w w' : Wd} {sd : Std} {σ : L2.St} (l : Le w w') (h : RelSt P w sd σ) : RelSt P w' sd σ :=
  ⟨h.1, fun i d e => let ⟨v, e', r⟩ := h.2 i d e; ⟨v, e', r.mono l⟩⟩

theorem upd_some {H : Hp} {p a : Addr} {o : HO} (e : H a ≠ none) : upd H p o a ≠ none := by
  by_cases h : a = p
  · subst h; rw [upd_same]; simp
  · rw [upd_ne h]; exact e
/-- what a step keeps -/
structure Step (w : Wd) (H : Hp) (w' : Wd) (H' : Hp) : Prop where
  le : Le w w'
  keep : ∀ a o, H a = some o → (∀ ps, o ≠ .tbl ps) → (a ∉ w.r ∨ w.F a ≠ none) → H' a = some o
  new : ∀ a, H a ≠ none → w.F a = none → a ∉ w.r → w'.F a = none ∧ a ∉ w'.r
  stay : ∀ a, H a ≠ none → H' a ≠ none
/-- the code objects stand as they did -/
def KpC (w : Wd) (H : Hp) (w' : Wd) (H' : Hp) : Prop := ∀ b q, b ∉ w.r → H b = some (LamX.CodeO b q) → b ∉ w'.r ∧ H' b = some (LamX.CodeO b q)
theorem TabOk.on {P : Pm} {w w' : Wd} {H H' : Hp} (T : TabOk P w H) (hC : KpC w H w' H') (hT : ∀ b ps, b ∉ w.r → w.F b = none → H b = some (.tbl ps) → b ∉ w'.r ∧ w'.F b = none ∧ H' b = some (.tbl ps)) (hn : ∀ a ps, w'.F a = some (.tbl ps) → w.F a = some (.tbl ps)) (hN : ∀ b ∈ w'.r, ∀ o, H' b = some o → NoC b o) : TabOk P w' H' := ⟨fun t ht => by
  obtain ⟨⟨h1, h2⟩, ps, h3, h4, h5⟩ := T.t t ht
  obtain ⟨g1, g2, g3⟩ := hT _ _ h1 h2 h3
  exact ⟨⟨g1, g2⟩, ps, g3, h4, fun pos cv hc => let ⟨c, e1, e2, e3⟩ := h5 pos cv hc; ⟨c, e1, hC c _ e2 e3⟩⟩, fun a ps z => T.nt a ps (hn a ps z), hN⟩
theorem codeO_tbl {a : Addr} {q : Str} (ps : Array Value) : LamX.CodeO a q ≠ .tbl ps := fun z => by unfold LamX.CodeO at z; cases z
theorem NoC.lst {b : Addr} {vs : List V} : NoC b (.lst vs) := ⟨(fun q z => by unfold LamX.CodeO at z; cases z), (fun ps z => by cases z)⟩
theorem NoC.ins {b C dx : Addr} {fs : List (Str × V)} : NoC b (.ins C dx fs) := ⟨(fun q z => by unfold LamX.CodeO at z; cases z), (fun ps z => by cases z)⟩
/-- a heap whose object at b is a code object -/
def hpC (b : Addr) (q : Str) : Heap := ⟨Array.replicate (b + 1) ⟨.none, none, .fields #[.none, .str q default], #[]⟩, {}⟩
theorem hpC_at {b : Addr} {q : Str} : (hpC b q).get? b = some ⟨.none, none, .fields #[.none, .str q default], #[]⟩ := by
  unfold hpC Heap.get?
  simp
theorem NoC.ext {b : Addr} {p : Heap → Prop} (h : ∀ hp o vs, hp.get? b = some o → o.data = .fields vs → ¬ p hp) : NoC b (.ext p) := ⟨(fun q z => by
  unfold LamX.CodeO at z
  have e : p = _ := HO.ext.inj z
  refine h (hpC b q) _ _ hpC_at rfl ?_
  rw [e]
  exact ⟨_, _, default, hpC_at, rfl, rfl⟩), (fun ps z => by cases z)⟩
theorem NoC.fd {pg : Program} {w : World} {b : Addr} {us : List (Option Key × V)} : NoC b (FD pg w b us) := .ext fun hp o vs h1 h2 ⟨_, _, vs', _, o', es, ep, h3, _, h4, _⟩ => by
  rw [h1] at h3; cases h3; rw [h2] at h4; cases h4
theorem NoC.td {pg : Program} {w : World} {b : Addr} {us : List (NestedKey × Addr × V)} : NoC b (TD pg w b us) := .ext fun hp o vs h1 h2 ⟨_, _, xs, _, o', es, ep, h3, _, h4, _⟩ => by
  rw [h1] at h3; cases h3; rw [h2] at h4; cases h4
theorem NoC.fn {b : Addr} {F : NdefX.NF} : NoC b (NdefX.FnO b F) := .ext fun hp o vs h1 h2 ⟨od, sl, doc, pm, ctv, h3⟩ => by
  rw [h1] at h3; cases h3; cases h2
theorem codeO_lst {a : Addr} {q : Str} {vs : List V} : LamX.CodeO a q ≠ .lst vs := fun z => by unfold LamX.CodeO at z; cases z
theorem Step.refl (w : Wd) (H : Hp) : Step w H w H := ⟨.refl w, fun _ _ h _ _ => h, fun _ _ h1 h2 => ⟨h1, h2⟩, fun _ h => h⟩
theorem Step.trans {a b c : Wd} {H1 H2 H3 : Hp} (x : Step a H1 b H2) (y : Step b H2 c H3) : Step a H1 c H3 where
  le := x.le.trans y.le
  keep := fun p o h ht hp => by
    by_cases hF : a.F p = none
    · rcases hp with hp | hp
      · obtain ⟨n1, n2⟩ := x.new p (by rw [h]; simp) hF hp
        exact y.keep p o (x.keep p o h ht (.inl hp)) ht (.inl n2)
      · exact absurd hF hp
    · have hF' : b.F p ≠ none := by
        cases q : a.F p with
        | none => exact absurd q hF
        | some u => rw [x.le.F _ _ q]; simp
      exact y.keep p o (x.keep p o h ht hp) ht (.inr hF')
  new := fun p h h1 h2 => by
    obtain ⟨n1, n2⟩ := x.new p h h1 h2
    exact y.new p (x.stay p h) n1 n2
  stay := fun p h => y.stay p (x.stay p h)

section
variable {P : Pm} {w : Wd} {M : Md} {H : Hp} {p : Addr}
theorem RepM.Fnone (R : RepM P w M H) (h : H p = none) : w.F p = none := by
  cases q : w.F p with
  | none => rfl
  | some o => rw [R.sub _ _ q] at h; cases h
theorem RepM.notin (R : RepM P w M H) (h : H p = none) : p ∉ w.r := fun hm => R.inH p hm h
theorem sqT_sub {K : PySem.W.Frag} {a : Addr} {xs : List V} (R : RepM P w M H) (h : SqT K w.F a xs) : SqT K H a xs := sqT_mono R.sub h
theorem CellOk.mono {w' : Wd} {H' : Hp} (l : Le w w') (hF : w.F p = none → w'.F p = none) (hH : H' p = H p) (hC : KpC w H w' H') : ∀ {m : MO}, CellOk P w H p m → CellOk P w' H' p m
  | .dead, _ => trivial
  | .lst ds, ⟨h, vs, e, r⟩ => ⟨hF h, vs, hH.trans e, r.mono l⟩
  | .dct _, ⟨h, vs, e, r⟩ => ⟨hF h, vs, hH.trans e, r.mono l⟩
  | .dctT _, ⟨h, vs, e, r⟩ => ⟨hF h, vs, hH.trans e, r.mono l⟩
  | .fn _ _ _ _, ⟨h, e, r1, r2, r3⟩ => ⟨hF h, hH.trans e, (hC _ _ r1 r2).1, (hC _ _ r1 r2).2, r3.mono l⟩
  | .ins _ _, ⟨h, dx, vs, e, r⟩ => ⟨hF h, dx, vs, hH.trans e, r.mono l⟩
/-- a new settled object -/
theorem RepM.newF (R : RepM P w M H) (h : H p = none) (o : HO) (hnt : ∀ ps, o ≠ .tbl ps) : RepM P { w with F := upd w.F p o } M (upd H p o) ∧ Step w H { w with F := upd w.F p o } (upd H p o) := by
  have hF := R.Fnone h
  have hr := R.notin h
  have le : Le w { w with F := upd w.F p o } := ⟨fun a u e => by rw [show ({ w with F := upd w.F p o } : Wd).F = upd w.F p o from rfl, upd_ne (fun z => by rw [z, hF] at e; cases e)]; exact e, fun _ _ e => e⟩
  have hC : KpC w H { w with F := upd w.F p o } (upd H p o) := fun b q h1 h2 => ⟨h1, by rw [upd_ne (fun z => by rw [z, h] at h2; cases h2)]; exact h2⟩
  refine ⟨⟨fun a u e => ?_, R.len, R.nd, fun q hq => ?_, fun k m q hm hq => ?_, R.tab.on hC (fun a ps h1 h2 h3 => ?_) (fun a ps z => ?_) fun b hb o' e => R.tab.nc b hb o' (by rw [upd_ne (fun z => hr (by rw [← z]; exact hb))] at e; exact e)⟩, le, fun a u e _ _ => ?_, fun a e h1 h2 => ⟨?_, h2⟩, fun a e => upd_some e⟩
  · by_cases ha : a = p
    · subst ha
      have e' : upd w.F a o a = some u := e
      rw [upd_same] at e' ⊢; exact e'
    · have e' : upd w.F p o a = some u := e
      rw [upd_ne ha] at e' ⊢; exact R.sub _ _ e'
  · have : q ≠ p := fun z => hr (z ▸ hq)
    rw [upd_ne this]; exact R.inH q hq
  · have hqr : q ∈ w.r := List.mem_of_getElem? hq
    have nq : q ≠ p := fun z => hr (z ▸ hqr)
    exact (R.cell k m q hm hq).mono le (fun z => by show upd w.F p o q = none; rw [upd_ne nq]; exact z) (upd_ne nq) hC
  · have np : a ≠ p := fun z => by rw [z, h] at h3; cases h3
    exact ⟨h1, (by show upd w.F p o a = none; rw [upd_ne np]; exact h2), by rw [upd_ne np]; exact h3⟩
  · have z : upd w.F p o a = some (.tbl ps) := z
    by_cases ha : a = p
    · subst ha; rw [upd_same] at z; exact absurd (Option.some.inj z) (hnt ps)
    · rw [upd_ne ha] at z; exact z
  · rw [upd_ne (fun z => by rw [z, h] at e; cases e)]; exact e
  · show upd w.F p o a = none
    rw [upd_ne (fun z => e (by rw [z]; exact h))]; exact h1
/-- a new changing object -/
theorem RepM.newC (R : RepM P w M H) (h : H p = none) (o : HO) (m : MO) (hno : NoC p o) (hc : CellOk P { w with r := w.r ++ [p] } (upd H p o) p m) :
    RepM P { w with r := w.r ++ [p] } (M ++ [m]) (upd H p o) ∧ Step w H { w with r := w.r ++ [p] } (upd H p o) := by
  have hF := R.Fnone h
  have hr := R.notin h
  have le : Le w { w with r := w.r ++ [p] } := ⟨fun _ _ e => e, fun k q e => by
    show (w.r ++ [p])[k]? = some q
    rw [List.getElem?_append_left (List.getElem?_eq_some_iff.mp e).1]; exact e⟩
  have hC : KpC w H { w with r := w.r ++ [p] } (upd H p o) := fun b q h1 h2 => by
    have np : b ≠ p := fun z => by rw [z, h] at h2; cases h2
    refine ⟨fun z => ?_, by rw [upd_ne np]; exact h2⟩
    rcases List.mem_append.mp z with z | z
    · exact h1 z
    · simp at z; exact np z
  refine ⟨⟨fun a u e => ?_, by simp [R.len], ?_, fun q hq => ?_, fun k m' q hm hq => ?_, R.tab.on hC (fun a ps h1 h2 h3 => ?_) (fun a ps z => z) fun b hb o' e => ?_⟩, le, fun a u e _ _ => ?_, fun a e h1 h2 => ⟨h1, ?_⟩, fun a e => upd_some e⟩
  · rw [upd_ne (fun z => by rw [z] at e; rw [show w.F p = some u from e] at hF; cases hF)]; exact R.sub _ _ e
  · exact List.nodup_append.mpr ⟨R.nd, by simp, fun a ha b hb => by simp at hb; subst hb; exact fun z => hr (z ▸ ha)⟩
  · by_cases hq' : q = p
    · subst hq'; rw [upd_same]; simp
    · rw [upd_ne hq']
      refine R.inH q ?_
      rcases List.mem_append.mp hq with z | z
      · exact z
      · simp at z; exact absurd z hq'
  · by_cases hk : k < M.length
    · rw [List.getElem?_append_left hk] at hm
      have hq2 : w.r[k]? = some q := by
        have : (w.r ++ [p])[k]? = some q := hq
        rwa [List.getElem?_append_left (by rw [← R.len]; exact hk)] at this
      have nq : q ≠ p := fun z => hr (z ▸ List.mem_of_getElem? hq2)
      exact (R.cell k m' q hm hq2).mono le (fun z => z) (upd_ne nq) hC
    · have hk2 : k = M.length := by
        have := (List.getElem?_eq_some_iff.mp hm).1
        simp at this; omega
      subst hk2
      have e1 : m' = m := by simpa using hm.symm
      have e2 : q = p := by
        have : (w.r ++ [p])[M.length]? = some q := hq
        rw [R.len] at this
        simpa using this.symm
      subst e1; subst e2
      exact hc
  · have np : a ≠ p := fun z => by rw [z, h] at h3; cases h3
    refine ⟨fun z => ?_, h2, by rw [upd_ne np]; exact h3⟩
    rcases List.mem_append.mp z with z | z
    · exact h1 z
    · simp at z; exact np z
  · by_cases hbp : b = p
    · subst hbp; rw [upd_same] at e; cases e; exact hno
    · rw [upd_ne hbp] at e
      refine R.tab.nc b ?_ o' e
      rcases List.mem_append.mp hb with z | z
      · exact z
      · simp at z; exact absurd z hbp
  · rw [upd_ne (fun z => by rw [z, h] at e; cases e)]; exact e
  · intro z
    rcases List.mem_append.mp z with z | z
    · exact h2 z
    · simp at z; exact e (by rw [z]; exact h)
/-- a changing object changed -/
theorem RepM.write (R : RepM P w M H) {k : Nat} {m m' : MO} {o : HO} (hm : M[k]? = some m) (hl : w.F p = none) (hp : w.r[k]? = some p) (hno : NoC p o) (hc : CellOk P w (upd H p o) p m') :
    RepM P w (M.set k m') (upd H p o) ∧ Step w H w (upd H p o) := by
  have hpr : p ∈ w.r := List.mem_of_getElem? hp
  have hC : KpC w H w (upd H p o) := fun b q h1 h2 => ⟨h1, by rw [upd_ne (fun z => h1 (by rw [z]; exact hpr))]; exact h2⟩
  refine ⟨⟨fun a u e => ?_, by simp [R.len], R.nd, fun q hq => ?_, fun j n q hn hq => ?_, R.tab.on hC (fun a ps h1 h2 h3 => ⟨h1, h2, by rw [upd_ne (fun z => h1 (by rw [z]; exact hpr))]; exact h3⟩) (fun a ps z => z) fun b hb o' e => ?_⟩, .refl w, fun a u e _ ha => ?_, fun a e h1 h2 => ⟨h1, h2⟩, fun a e => upd_some e⟩
  · rw [upd_ne (fun z => by rw [z, hl] at e; cases e)]; exact R.sub _ _ e
  · by_cases hq' : q = p
    · subst hq'; rw [upd_same]; simp
    · rw [upd_ne hq']; exact R.inH q hq
  · by_cases hj : j = k
    · subst hj
      have e2 : q = p := by rw [hp] at hq; exact (Option.some.inj hq).symm
      subst e2
      have hlt : j < M.length := (List.getElem?_eq_some_iff.mp hm).1
      rw [List.getElem?_set_self hlt] at hn
      cases hn
      exact hc
    · rw [List.getElem?_set_ne (Ne.symm hj)] at hn
      have nq : q ≠ p := fun z => by
        subst z
        obtain ⟨l1, e1⟩ := List.getElem?_eq_some_iff.mp hq
        obtain ⟨l2, e2⟩ := List.getElem?_eq_some_iff.mp hp
        exact hj ((List.getElem_inj R.nd).mp (e1.trans e2.symm))
      exact (R.cell j n q hn hq).mono (.refl w) (fun z => z) (upd_ne nq) hC
  · by_cases hbp : b = p
    · subst hbp; rw [upd_same] at e; cases e; exact hno
    · rw [upd_ne hbp] at e; exact R.tab.nc b hb o' e
  · rw [upd_ne (fun z => by
      subst z
      rcases ha with ha | ha
      · exact ha hpr
      · exact ha hl)]
    exact e
theorem RepM.at (R : RepM P w M H) {k : Nat} {m : MO} (hm : M[k]? = some m) : ∃ p, w.r[k]? = some p := by
  have hlt : k < M.length := (List.getElem?_eq_some_iff.mp hm).1
  rw [R.len] at hlt
  exact ⟨w.r[k], List.getElem?_eq_getElem hlt⟩
/-- a changing list is settled -/
theorem RepM.settle (R : RepM P w M H) {k : Nat} {ds : List D} (hm : M[k]? = some (.lst ds)) (hp : w.r[k]? = some p) :
    ∃ vs, H p = some (.lst vs) ∧ RelDs P w ds vs ∧ RepM P { w with F := upd w.F p (.lst vs) } (M.set k .dead) H ∧ Step w H { w with F := upd w.F p (.lst vs) } H := by
  obtain ⟨hF, vs, hv, r⟩ := R.cell k _ p hm hp
  have hpr : p ∈ w.r := List.mem_of_getElem? hp
  have le : Le w { w with F := upd w.F p (.lst vs) } := ⟨fun a u e => by show upd w.F p _ a = _; rw [upd_ne (fun z => by rw [z, hF] at e; cases e)]; exact e, fun _ _ e => e⟩
  refine ⟨vs, hv, r, ⟨fun a u e => ?_, by simp [R.len], R.nd, R.inH, fun j n q hn hq => ?_, R.tab.on (fun _ _ h1 h2 => ⟨h1, h2⟩) (fun a ps h1 h2 h3 => ⟨h1, (by show upd w.F p _ a = none; rw [upd_ne (fun z => h1 (by rw [z]; exact hpr))]; exact h2), h3⟩) (fun a ps z => by
    have z : upd w.F p _ a = some (.tbl ps) := z
    by_cases ha : a = p
    · subst ha; rw [upd_same] at z; cases z
    · rw [upd_ne ha] at z; exact z) R.tab.nc⟩, le, fun a u e _ _ => e, fun a e h1 h2 => ⟨?_, h2⟩, fun a e => e⟩
  · have e' : upd w.F p (.lst vs) a = some u := e
    by_cases ha : a = p
    · subst ha; rw [upd_same] at e'; rw [← e']; exact hv
    · rw [upd_ne ha] at e'; exact R.sub _ _ e'
  · by_cases hj : j = k
    · subst hj
      have hlt : j < M.length := (List.getElem?_eq_some_iff.mp hm).1
      rw [List.getElem?_set_self hlt] at hn
      cases hn
      trivial
    · rw [List.getElem?_set_ne (Ne.symm hj)] at hn
      have nq : q ≠ p := fun z => by
        subst z
        obtain ⟨l1, e1⟩ := List.getElem?_eq_some_iff.mp hq
        obtain ⟨l2, e2⟩ := List.getElem?_eq_some_iff.mp hp
        exact hj ((List.getElem_inj R.nd).mp (e1.trans e2.symm))
      exact (R.cell j n q hn hq).mono le (fun z => by show upd w.F p _ q = none; rw [upd_ne nq]; exact z) rfl fun _ _ h1 h2 => ⟨h1, h2⟩
  · show upd w.F p _ a = none
    rw [upd_ne (fun z => h2 (by rw [z]; exact hpr))]; exact h1
/-- a changing instance is settled -/
theorem relKs_zip {P : Pm} {w : Wd} : ∀ {fs : List (Str × D)} {us : List (Str × V)}, RelKs P w fs us → us = (fs.map (·.1)).zip (us.map (·.2)) ∧ RelDs P w (fs.map (·.2)) (us.map (·.2))
  | [], us, h => by
    have h : us = [] := h
    subst h; exact ⟨rfl, rfl⟩
  | (k, d) :: r, _, ⟨v, us', e, h2, h3⟩ => by
    subst e
    obtain ⟨a, b⟩ := relKs_zip h3
    refine ⟨?_, v, _, rfl, h2, b⟩
    rw [List.map_cons, List.map_cons, List.zip_cons_cons, ← a]
theorem RepM.settleI (R : RepM P w M H) {k : Nat} {c : Str} {fs : List (Str × D)} (hm : M[k]? = some (.ins c fs)) (hp : w.r[k]? = some p) :
    ∃ w', w'.r = w.r ∧ RepM P w' (M.set k .dead) H ∧ Step w H w' H ∧ RelD P w' (.obj c (fs.map (·.1)) (fs.map (·.2))) (.ref p) := by
  obtain ⟨hF, dx, us, hv, r⟩ := R.cell k _ p hm hp
  have hpr : p ∈ w.r := List.mem_of_getElem? hp
  have le : Le w { w with F := upd w.F p (.ins (P.cls c) dx us) } := ⟨fun a u e => by show upd w.F p _ a = _; rw [upd_ne (fun z => by rw [z, hF] at e; cases e)]; exact e, fun _ _ e => e⟩
  obtain ⟨z1, z2⟩ := relKs_zip r
  refine ⟨{ w with F := upd w.F p (.ins (P.cls c) dx us) }, rfl, ⟨fun a u e => ?_, by simp [R.len], R.nd, R.inH, fun j n q hn hq => ?_, R.tab.on (fun _ _ h1 h2 => ⟨h1, h2⟩) (fun a ps h1 h2 h3 => ⟨h1, (by show upd w.F p _ a = none; rw [upd_ne (fun z => h1 (by rw [z]; exact hpr))]; exact h2), h3⟩) (fun a ps z => by
    have z : upd w.F p _ a = some (.tbl ps) := z
    by_cases ha : a = p
    · subst ha; rw [upd_same] at z; cases z
    · rw [upd_ne ha] at z; exact z) R.tab.nc⟩, ⟨le, fun a u e _ _ => e, fun a e h1 h2 => ⟨?_, h2⟩, fun a e => e⟩, ⟨p, dx, us.map (·.2), rfl, ?_, by simp, z2.mono le⟩⟩
  · have e' : upd w.F p (.ins (P.cls c) dx us) a = some u := e
    by_cases ha : a = p
    · subst ha; rw [upd_same] at e'; rw [← e']; exact hv
    · rw [upd_ne ha] at e'; exact R.sub _ _ e'
  · by_cases hj : j = k
    · subst hj
      have hlt : j < M.length := (List.getElem?_eq_some_iff.mp hm).1
      rw [List.getElem?_set_self hlt] at hn
      cases hn
      trivial
    · rw [List.getElem?_set_ne (Ne.symm hj)] at hn
      have nq : q ≠ p := fun z => by
        subst z
        obtain ⟨l1, e1⟩ := List.getElem?_eq_some_iff.mp hq
        obtain ⟨l2, e2⟩ := List.getElem?_eq_some_iff.mp hp
        exact hj ((List.getElem_inj R.nd).mp (e1.trans e2.symm))
      exact (R.cell j n q hn hq).mono le (fun z => by show upd w.F p _ q = none; rw [upd_ne nq]; exact z) rfl fun _ _ h1 h2 => ⟨h1, h2⟩
  · show upd w.F p _ a = none
    rw [upd_ne (fun z => h2 (by rw [z]; exact hpr))]; exact h1
  · show upd w.F p _ p = _
    rw [upd_same, ← z1]
end

/-! ### letting go -/
mutual
def RLt (n : Nat) : D → Prop
  | .ref k => k < n
  | .tup ds => RLts n ds
  | .lst ds => RLts n ds
  | .obj _ _ ds => RLts n ds
  | _ => True
def RLts (n : Nat) : List D → Prop
  | [] => True
  | d :: ds => RLt n d ∧ RLts n ds
end
theorem RLts_iff {n : Nat} : ∀ {ds : List D}, RLts n ds ↔ ∀ d ∈ ds, RLt n d
  | [] => by simp [RLts]
  | d :: ds => by simp [RLts, RLts_iff (ds := ds)]
def RLtM (n : Nat) : MO → Prop
  | .dead => True
  | .fn _ _ cs _ => RLts n cs
  | .lst ds => RLts n ds
  | .dct kvs => ∀ p ∈ kvs, RLt n p.2
  | .dctT kvs => ∀ p ∈ kvs, RLt n p.1 ∧ RLt n p.2
  | .ins _ fs => ∀ p ∈ fs, RLt n p.2
/-- what stands at changing objects points to changing objects that stand -/
def MOk (M : Md) : Prop := ∀ m ∈ M, RLtM M.length m
section
variable {P : Pm} {w : Wd}
mutual
theorem RelD.rlt : ∀ {d : D} {v : V}, RelD P w d v → RLt w.r.length d
  | .non, _, _ => trivial
  | .bl _, _, _ => trivial
  | .int _, _, _ => trivial
  | .str _, _, _ => trivial
  | .scr _, _, _ => trivial
  | .tup ds, _, ⟨p, vs, e, hp, hs⟩ => RelDs.rlt hs
  | .lst ds, _, ⟨p, vs, e, hp, hs⟩ => RelDs.rlt hs
  | .ref _, _, ⟨p, e, hp⟩ => (List.getElem?_eq_some_iff.mp hp).1
  | .obj c ns ds, _, ⟨p, dx, vs, e, hp, hl, hs⟩ => RelDs.rlt hs
theorem RelDs.rlt : ∀ {ds : List D} {vs : List V}, RelDs P w ds vs → RLts w.r.length ds
  | [], _, _ => trivial
  | d :: ds, _, ⟨v, r, e, h1, h2⟩ => ⟨RelD.rlt h1, RelDs.rlt h2⟩
end
mutual
theorem RelD.cut {n : Nat} : ∀ {d : D} {v : V}, RelD P w d v → RLt n d → RelD P { w with r := w.r.take n } d v
  | .non, _, h, _ => h
  | .bl _, _, h, _ => h
  | .int _, _, h, _ => h
  | .str _, _, h, _ => h
  | .scr _, _, h, _ => h
  | .tup ds, _, ⟨p, vs, e, hp, hs⟩, l => ⟨p, vs, e, hp, RelDs.cut hs l⟩
  | .lst ds, _, ⟨p, vs, e, hp, hs⟩, l => ⟨p, vs, e, hp, RelDs.cut hs l⟩
  | .ref k, _, ⟨p, e, hp⟩, l => ⟨p, e, by
    have l : k < n := l
    show (w.r.take n)[k]? = some p
    rw [List.getElem?_take_of_lt l]; exact hp⟩
  | .obj c ns ds, _, ⟨p, dx, vs, e, hp, hl, hs⟩, l => ⟨p, dx, vs, e, hp, hl, RelDs.cut hs l⟩
theorem RelDs.cut {n : Nat} : ∀ {ds : List D} {vs : List V}, RelDs P w ds vs → RLts n ds → RelDs P { w with r := w.r.take n } ds vs
  | [], _, h, _ => h
  | d :: ds, _, ⟨v, r, e, h1, h2⟩, l => ⟨v, r, e, RelD.cut h1 l.1, RelDs.cut h2 l.2⟩
end
theorem RelKs.rlt {κ : Type} : ∀ {ds : List (κ × D)} {vs : List (κ × V)}, RelKs P w ds vs → ∀ p ∈ ds, RLt w.r.length p.2
  | [], _, _, p, hp => by cases hp
  | (k, d) :: r, _, ⟨v, us', e, h2, h3⟩, p, hp => by
    rcases List.mem_cons.mp hp with z | z
    · rw [z]; exact h2.rlt
    · exact RelKs.rlt h3 p z
theorem RelKs.cut {κ : Type} {n : Nat} : ∀ {ds : List (κ × D)} {vs : List (κ × V)}, RelKs P w ds vs → (∀ p ∈ ds, RLt n p.2) → RelKs P { w with r := w.r.take n } ds vs
  | [], _, h, _ => h
  | (k, d) :: r, _, ⟨v, us', e, h2, h3⟩, l => ⟨v, us', e, h2.cut (l _ List.mem_cons_self), RelKs.cut h3 fun p hp => l p (List.mem_cons_of_mem _ hp)⟩
theorem RelTs.rlt : ∀ {ds : List (D × D)} {es : List (NestedKey × Addr × V)}, RelTs P w ds es → ∀ p ∈ ds, RLt w.r.length p.1 ∧ RLt w.r.length p.2
  | [], _, _, p, hp => by cases hp
  | (kd, d) :: r, _, ⟨k, b, v, es', e, h1, h2, h3, h4, h5⟩, p, hp => by
    rcases List.mem_cons.mp hp with z | z
    · rw [z]; exact ⟨h3.rlt, h4.rlt⟩
    · exact RelTs.rlt h5 p z
theorem RelTs.cut {n : Nat} : ∀ {ds : List (D × D)} {es : List (NestedKey × Addr × V)}, RelTs P w ds es → (∀ p ∈ ds, RLt n p.1 ∧ RLt n p.2) → RelTs P { w with r := w.r.take n } ds es
  | [], _, h, _ => h
  | (kd, d) :: r, _, ⟨k, b, v, es', e, h1, h2, h3, h4, h5⟩, l => ⟨k, b, v, es', e, h1, h2, h3.cut (l _ List.mem_cons_self).1, h4.cut (l _ List.mem_cons_self).2, RelTs.cut h5 fun p hp => l p (List.mem_cons_of_mem _ hp)⟩
variable {M : Md} {H : Hp}
theorem RepM.ok (R : RepM P w M H) : MOk M := fun m hm => by
  obtain ⟨k, hk, e⟩ := List.getElem_of_mem hm
  have hm' : M[k]? = some m := by rw [List.getElem?_eq_getElem hk, e]
  obtain ⟨p, hp⟩ := R.at hm'
  have c := R.cell k m p hm' hp
  rw [R.len]
  cases m with
  | dead => trivial
  | fn _ _ _ _ => exact c.2.2.2.2.rlt
  | lst ds => obtain ⟨_, vs, _, r⟩ := c; exact r.rlt
  | dct kvs => obtain ⟨_, us, _, r⟩ := c; exact r.rlt
  | dctT kvs => obtain ⟨_, us, _, r⟩ := c; exact r.rlt
  | ins _ fs => obtain ⟨_, dx, us, _, r⟩ := c; exact r.rlt
theorem RepM.letgo (R : RepM P w M H) {n : Nat} (hn : n ≤ M.length) (hm : ∀ m ∈ M.take n, RLtM n m) : RepM P { w with r := w.r.take n } (M.take n) H where
  sub := R.sub
  len := by rw [List.length_take, List.length_take, R.len]
  nd := R.nd.sublist (List.take_sublist _ _)
  inH := fun p hp => R.inH p (List.mem_of_mem_take hp)
  cell := fun k m p h1 h2 => by
    have hk : k < n := by
      have := (List.getElem?_eq_some_iff.mp h1).1
      rw [List.length_take] at this; omega
    have h1' : M[k]? = some m := by rwa [List.getElem?_take_of_lt hk] at h1
    have h2' : w.r[k]? = some p := by
      have : (w.r.take n)[k]? = some p := h2
      rwa [List.getElem?_take_of_lt hk] at this
    have c := R.cell k m p h1' h2'
    have l := hm m (List.mem_of_getElem? h1)
    cases m with
    | dead => trivial
    | fn F n _ _ => exact ⟨c.1, c.2.1, fun z => c.2.2.1 (List.mem_of_mem_take z), c.2.2.2.1, c.2.2.2.2.cut l⟩
    | lst ds => obtain ⟨a, vs, e, r⟩ := c; exact ⟨a, vs, e, r.cut l⟩
    | dct kvs => obtain ⟨a, us, e, r⟩ := c; exact ⟨a, us, e, r.cut l⟩
    | dctT kvs => obtain ⟨a, us, e, r⟩ := c; exact ⟨a, us, e, r.cut l⟩
    | ins _ fs => obtain ⟨a, dx, us, e, r⟩ := c; exact ⟨a, dx, us, e, r.cut l⟩
  tab := R.tab.on (fun _ _ h1 h2 => ⟨fun z => h1 (List.mem_of_mem_take z), h2⟩) (fun a ps h1 h2 h3 => ⟨fun z => h1 (List.mem_of_mem_take z), h2, h3⟩) (fun a ps z => z) fun b hb => R.tab.nc b (List.mem_of_mem_take hb)
theorem Step.letgo {w0 : Wd} {H0 : Hp} (s : Step w0 H0 w H) {n : Nat} (h0 : w0.r.length ≤ n) : Step w0 H0 { w with r := w.r.take n } H where
  le := ⟨s.le.F, fun k p e => by
    have hk : k < n := Nat.lt_of_lt_of_le (List.getElem?_eq_some_iff.mp e).1 h0
    show (w.r.take n)[k]? = some p
    rw [List.getElem?_take_of_lt hk]; exact s.le.r _ _ e⟩
  keep := s.keep
  new := fun a e h1 h2 => ⟨(s.new a e h1 h2).1, fun z => (s.new a e h1 h2).2 (List.mem_of_mem_take z)⟩
  stay := s.stay
end

/-- what a def hands back: as it is; a changing list settled; changing objects of its own let go -/
inductive Fin (n0 : Nat) (Q : D → Md → Prop) : D → Md → Prop
  | keep {d : D} {M : Md} : Q d M → Fin n0 Q d M
  | drop {d : D} {M : Md} (n : Nat) : n0 ≤ n → n ≤ M.length → RLt n d → (∀ m ∈ M.take n, RLtM n m) → Fin n0 Q d (M.take n) → Fin n0 Q d M
  | settle {k : Nat} {ds : List D} {M : Md} : M[k]? = some (.lst ds) → Fin n0 Q (.lst ds) (M.set k .dead) → Fin n0 Q (.ref k) M
  | settleI {k : Nat} {c : Str} {fs : List (Str × D)} {M : Md} : M[k]? = some (.ins c fs) → Fin n0 Q (.obj c (fs.map (·.1)) (fs.map (·.2))) (M.set k .dead) → Fin n0 Q (.ref k) M
  | settleT {k : Nat} {ds es us : List D} {M : Md} : M[k]? = some (.lst ds) → Fin n0 Q (.tup (es ++ .lst ds :: us)) (M.set k .dead) → Fin n0 Q (.tup (es ++ .ref k :: us)) M
theorem RelDs.split {P : Pm} {w : Wd} {ds : List D} : ∀ {es : List D} {vs : List V}, RelDs P w (es ++ ds) vs → ∃ a b, vs = a ++ b ∧ RelDs P w es a ∧ RelDs P w ds b
  | [], vs, h => ⟨[], vs, rfl, rfl, h⟩
  | e :: es, vs, ⟨v, r, z, h1, h2⟩ => by
    obtain ⟨a, b, z2, h3, h4⟩ := RelDs.split h2
    exact ⟨v :: a, b, by rw [z, z2]; rfl, ⟨v, a, rfl, h1, h3⟩, h4⟩
theorem Fin.run {P : Pm} {n0 : Nat} {Q : D → Md → Prop} {d : D} {M : Md} (f : Fin n0 Q d M) : ∀ {w0 w : Wd} {H0 H : Hp} {v : V}, w0.r.length ≤ n0 → Step w0 H0 w H → RepM P w M H → RelD P w d v →
    ∃ d' M' w', Step w0 H0 w' H ∧ RepM P w' M' H ∧ RelD P w' d' v ∧ Q d' M' := by
  induction f with
  | keep q => intro w0 w H0 H v _ s R r; exact ⟨_, _, w, s, R, r, q⟩
  | drop n h0 hn hd hm _ ih =>
    intro w0 w H0 H v hw s R r
    exact ih hw (s.letgo (Nat.le_trans hw h0)) (R.letgo hn hm) (r.cut hd)
  | @settle k ds M hk _ ih =>
    intro w0 w H0 H v hw s R r
    obtain ⟨p, e, hp⟩ := r
    obtain ⟨vs, hv, rs, R', s'⟩ := R.settle hk hp
    refine ih hw (s.trans s') R' ⟨p, vs, e, ?_, rs.mono s'.le⟩
    show upd w.F p (.lst vs) p = _
    rw [upd_same]
  | @settleI k c fs M hk _ ih =>
    intro w0 w H0 H v hw s R r
    obtain ⟨p, e, hp⟩ := r
    obtain ⟨w', e1, R', s', r'⟩ := R.settleI hk hp
    subst e
    exact ih hw (s.trans s') R' r'
  | @settleT k ds es us M hk _ ih =>
    intro w0 w H0 H v hw s R r
    obtain ⟨q, vs, e, hq, rs⟩ := r
    obtain ⟨a, b, e2, h1, h2⟩ := rs.split
    obtain ⟨v, b, e3, ⟨p, e4, hp⟩, h3⟩ := h2
    obtain ⟨us', hv, rs', R', s'⟩ := R.settle hk hp
    refine ih hw (s.trans s') R' ⟨q, vs, e, sqT_mono s'.le.F hq, ?_⟩
    subst e2 e3 e4
    refine (h1.mono s'.le).append (.cons ⟨p, us', rfl, ?_, rs'.mono s'.le⟩ (h3.mono s'.le))
    show upd w.F p (.lst us') p = _
    rw [upd_same]
end DL

/-! DL: operations on data, as rules over HandS -/
namespace DL
open PySem L2
abbrev QE := D → Md → Prop
/-- an exception: its class, its fields -/
structure XD where
  cls : Str
  fs : Option (List (Str × D))
abbrev EX := XD → Md → Prop
abbrev O2 := D → D → Md → QE → Prop
abbrev O1 := D → Md → QE → Prop
abbrev OA := List D → Md → QE → Prop

def Lk (P : Pm) (w : Wd) (H : Hp) (Qd : QE) (Q : VK) : Prop := ∀ w' M' H' d v, Step w H w' H' → RepM P w' M' H' → RelD P w' d v → Qd d M' → Q v H'
section
variable {P : Pm} {w : Wd} {M : Md} {H : Hp} {p : Addr} {Qd : QE} {Q : VK}
theorem Lk.same (l : Lk P w H Qd Q) (R : RepM P w M H) {d : D} {v : V} (r : RelD P w d v) (q : Qd d M) : Q v H := l w M H d v (.refl _ _) R r q
theorem Lk.tup (l : Lk P w H Qd Q) (R : RepM P w M H) {ds : List D} {vs : List V} (r : RelDs P w ds vs) (h : H p = none) (q : Qd (.tup ds) M) : Q (.ref p) (upd H p (.tup vs)) := by
  obtain ⟨R', s⟩ := R.newF h (.tup vs) fun _ z => by cases z
  exact l _ M _ (.tup ds) _ s R' ⟨p, vs, rfl, .inl (.inl upd_same), r.mono s.le⟩ q
theorem Lk.lst (l : Lk P w H Qd Q) (R : RepM P w M H) {ds : List D} {vs : List V} (r : RelDs P w ds vs) (h : H p = none) (q : Qd (.lst ds) M) : Q (.ref p) (upd H p (.lst vs)) := by
  obtain ⟨R', s⟩ := R.newF h (.lst vs) fun _ z => by cases z
  exact l _ M _ (.lst ds) _ s R' ⟨p, vs, rfl, upd_same, r.mono s.le⟩ q
theorem Lk.cell (l : Lk P w H Qd Q) (R : RepM P w M H) {ds : List D} {vs : List V} (r : RelDs P w ds vs) (h : H p = none) (q : Qd (.ref M.length) (M ++ [.lst ds])) : Q (.ref p) (upd H p (.lst vs)) := by
  have le : Le w { w with r := w.r ++ [p] } := ⟨fun _ _ e => e, fun k q e => by
    show (w.r ++ [p])[k]? = some q
    rw [List.getElem?_append_left (List.getElem?_eq_some_iff.mp e).1]; exact e⟩
  obtain ⟨R', s⟩ := R.newC h (.lst vs) (.lst ds) .lst ⟨R.Fnone h, vs, upd_same, r.mono le⟩
  exact l _ _ _ (.ref M.length) _ s R' ⟨p, rfl, by show (w.r ++ [p])[M.length]? = some p; rw [R.len]; simp⟩ q
end

/-! ### lists by what they hold -/
def lstOf : D → Md → Option (List D)
  | .lst ds, _ => some ds
  | .ref k, M => match M[k]? with
    | some (.lst ds) => some ds
    | _ => none
  | _, _ => none
def seqOf : D → Md → Option (List D)
  | .tup ds, _ => some ds
  | .scr ns, _ => some (ns.map D.int)
  | .lst ds, _ => some ds
  | .ref k, M => match M[k]? with
    | some (.lst ds) => some ds
    | _ => none
  | _, _ => none
section
variable {P : Pm} {w : Wd} {M : Md} {H : Hp} {p : Addr} {Qd : QE} {Q : VK}
theorem relDs_ints : ∀ ns : List Int, RelDs P w (ns.map D.int) (ns.map V.int)
  | [] => rfl
  | n :: ns => ⟨.int n, _, rfl, rfl, relDs_ints ns⟩
theorem lstOf_at (R : RepM P w M H) {d : D} {v : V} {ds : List D} (r : RelD P w d v) (h : lstOf d M = some ds) : ∃ p vs, v = .ref p ∧ H p = some (.lst vs) ∧ RelDs P w ds vs := by
  cases d with
  | lst es =>
    cases h
    obtain ⟨p, vs, e, hp, hs⟩ := r
    exact ⟨p, vs, e, R.sub _ _ hp, hs⟩
  | ref k =>
    obtain ⟨p, e, hp⟩ := r
    have h : (match M[k]? with
      | some (.lst ds) => some ds
      | _ => none) = some ds := h
    split at h
    · rename_i ds' hm
      cases h
      obtain ⟨_, vs, e2, hs⟩ := R.cell k _ p hm hp
      exact ⟨p, vs, e, e2, hs⟩
    · cases h
  | _ => cases h
theorem seqOf_at (R : RepM P w M H) {d : D} {v : V} {ds : List D} (r : RelD P w d v) (h : seqOf d M = some ds) : ∃ p vs, v = .ref p ∧ (SqL P.K H p vs ∨ SqT P.K H p vs) ∧ RelDs P w ds vs := by
  cases d with
  | tup es =>
    cases h
    obtain ⟨p, vs, e, hp, hs⟩ := r
    exact ⟨p, vs, e, .inr (sqT_mono R.sub hp), hs⟩
  | lst es =>
    cases h
    obtain ⟨p, vs, e, hp, hs⟩ := r
    exact ⟨p, vs, e, .inl (SqL.of (R.sub _ _ hp)), hs⟩
  | scr ns =>
    cases h
    obtain ⟨p, e, hp⟩ := r
    exact ⟨p, _, e, .inl (sqL_mono R.sub hp), relDs_ints ns⟩
  | ref k =>
    obtain ⟨p, e, hp⟩ := r
    have h : (match M[k]? with
      | some (.lst ds) => some ds
      | _ => none) = some ds := h
    split at h
    · rename_i ds' hm
      cases h
      obtain ⟨_, vs, e2, hs⟩ := R.cell k _ p hm hp
      exact ⟨p, vs, e, .inl (SqL.of e2), hs⟩
    · cases h
  | _ => cases h
end

/-! ### truth -/
def truD : D → Md → (Bool → Prop) → Prop
  | .non, _, Q => Q false
  | .bl b, _, Q => Q b
  | .int i, _, Q => Q (i != 0)
  | .str s, _, Q => s.length ≤ sizeLine ∧ Q ((s.length : Int) != 0)
  | .tup ds, _, Q => Q (!ds.isEmpty)
  | .lst ds, _, Q => Q (!ds.isEmpty)
  | .scr ns, _, Q => Q (!ns.isEmpty)
  | .obj _ _ _, _, _ => False
  | .ref k, M, Q => match M[k]? with
    | some (.lst ds) => Q (!ds.isEmpty)
    | _ => False
theorem relDs_empty {P : Pm} {w : Wd} {ds : List D} {vs : List V} (r : RelDs P w ds vs) : vs.isEmpty = ds.isEmpty := by
  cases ds with
  | nil => have r : vs = [] := r; rw [r]; rfl
  | cons d ds => obtain ⟨v, r, e, _⟩ := r; rw [e]; rfl
theorem relKs_empty {κ : Type} {P : Pm} {w : Wd} {ds : List (κ × D)} {vs : List (κ × V)} (r : RelKs P w ds vs) : vs.isEmpty = ds.isEmpty := by
  cases ds with
  | nil => have r : vs = [] := r; rw [r]; rfl
  | cons d ds => obtain ⟨v, r, e, _⟩ := r; rw [e]; rfl
theorem truD_at {P : Pm} {w : Wd} {M : Md} {H : Hp} (R : RepM P w M H) {d : D} {v : V} {Q : Bool → Prop} (r : RelD P w d v) (h : truD d M Q) : ∃ k, TruV P.K v H k ∧ Q k := by
  cases d with
  | non => have r : v = .non := r; subst r; exact ⟨_, rfl, h⟩
  | bl b => have r : v = .bl b := r; subst r; exact ⟨_, rfl, h⟩
  | int b => have r : v = .int b := r; subst r; exact ⟨_, rfl, h⟩
  | str b => have r : v = .str b := r; subst r; exact ⟨_, ⟨h.1, rfl⟩, h.2⟩
  | tup ds =>
    obtain ⟨p, vs, e, hp, hs⟩ := r
    subst e
    exact ⟨!vs.isEmpty, .inr (.inl ⟨vs, sqT_mono R.sub hp, rfl⟩), by rw [relDs_empty hs]; exact h⟩
  | lst ds =>
    obtain ⟨p, vs, e, hp, hs⟩ := r
    subst e
    exact ⟨!vs.isEmpty, .inl ⟨vs, SqL.of (R.sub _ _ hp), rfl⟩, by rw [relDs_empty hs]; exact h⟩
  | scr ns =>
    obtain ⟨p, e, hp⟩ := r
    subst e
    exact ⟨!(ns.map V.int).isEmpty, .inl ⟨_, sqL_mono R.sub hp, rfl⟩, by rw [List.isEmpty_map]; exact h⟩
  | obj c ns ds => exact h.elim
  | ref k =>
    obtain ⟨p, e, hp⟩ := r
    subst e
    have h : (match M[k]? with
      | some (.lst ds) => Q (!ds.isEmpty)
        | _ => False) := h
    split at h
    · rename_i ds hm
      obtain ⟨_, vs, e2, hs⟩ := R.cell k _ p hm hp
      exact ⟨!vs.isEmpty, .inl ⟨vs, SqL.of e2, rfl⟩, by rw [relDs_empty hs]; exact h⟩
    · exact h.elim

/-! ### lifted operations -/
def liO2 (P : Pm) (o : O2) : R2 := fun x y H Q => ∃ w M dx dy Qd, RepM P w M H ∧ RelD P w dx x ∧ RelD P w dy y ∧ Lk P w H Qd Q ∧ o dx dy M Qd
def liO1 (P : Pm) (o : O1) : V → Hp → VK → Prop := fun x H Q => ∃ w M dx Qd, RepM P w M H ∧ RelD P w dx x ∧ Lk P w H Qd Q ∧ o dx M Qd
def liOA (P : Pm) (o : OA) : List V → Hp → VK → Prop := fun xs H Q => ∃ w M ds Qd, RepM P w M H ∧ RelDs P w ds xs ∧ Lk P w H Qd Q ∧ o ds M Qd

/-- what is to be shown of an operation -/
def S2 (P : Pm) (o : O2) (r : R2) : Prop := ∀ {w : Wd} {M : Md} {H : Hp} {dx dy : D} {x y : V} {Qd : QE} {Q : VK}, RepM P w M H → RelD P w dx x → RelD P w dy y → Lk P w H Qd Q → o dx dy M Qd → r x y H Q
theorem S2.op {X : Cx} {P : Pm} {o : O2} {r : R2} {f : Value → Value → Sem Value} (h : OpR X f r) (s : S2 P o r) : OpR X f (liO2 P o) := by
  intro pins st σ H x y v u Q I rx ry q
  obtain ⟨w, M, dx, dy, Qd, R, hx, hy, l, q⟩ := q
  exact h pins st σ H x y v u Q I rx ry (s R hx hy l q)
def SA (P : Pm) (o : OA) (r : List V → Hp → VK → Prop) : Prop := ∀ {w : Wd} {M : Md} {H : Hp} {ds : List D} {xs : List V} {Qd : QE} {Q : VK}, RepM P w M H → RelDs P w ds xs → Lk P w H Qd Q → o ds M Qd → r xs H Q
theorem SA.op {X : Cx} {P : Pm} {o : OA} {r : List V → Hp → VK → Prop} {f : Value} (h : CallR X f r) (s : SA P o r) : CallR X f (liOA P o) := by
  intro pins st σ H xs us Q I rv q
  obtain ⟨w, M, ds, Qd, R, hx, l, q⟩ := q
  exact h pins st σ H xs us Q I rv (s R hx l q)

/-! ### two-place operators -/
inductive Op where
  | add | cat | sub | mul | fdiv | mod | pow | band
def opO : Op → Operator
  | .add => .Add | .cat => .Add | .sub => .Sub | .mul => .Mult | .fdiv => .FloorDiv | .mod => .Mod | .pow => .Pow | .band => .BitAnd
def repS (s : Str) (n : Nat) : Str := ⟨(List.replicate n s.cps).foldl (· ++ ·) #[]⟩
theorem op_mul_str {X : Cx} : OpR X (binaryOp .Mult) (fun x y H Q => ∃ i j, x = .str i ∧ y = .int j ∧ 2 ≤ j ∧ 1 ≤ i.length ∧ i.length * j.toNat ≤ sizeLine ∧ Q (.str (repS i j.toNat)) H) := by
  intro pins s σ H x y v u Q I rx ry h
  obtain ⟨i, j, rfl, rfl, hj, hi, hz, q⟩ := h
  obtain ⟨t, rfl⟩ := rx
  obtain ⟨t', rfl⟩ := ry
  have hjn : j.toNat ≤ sizeLine := Nat.le_trans (Nat.le_mul_of_pos_left _ hi) hz
  have hil : i.length ≤ sizeLine := Nat.le_trans (Nat.le_mul_of_pos_right _ (by omega)) hz
  have hzl : sizeLine = 16777216 := rfl
  have htl : Builtin.Str.tooLong (i.length * j.toNat) = false := by
    unfold Builtin.Str.tooLong
    exact decide_eq_false (by omega)
  refine P.mul_str ?_ (fun _ _ => ?_) (fun _ _ => htl) ?_
  · rw [decide_eq_false (by omega), decide_eq_false (by omega)]; rfl
  · have h1 : j.toNat * i.length ≤ 16777216 := by rw [Nat.mul_comm]; exact hz
    have h2 : (i.length : Int) * j ≤ 16777216 := by
      have e : j = (j.toNat : Int) := by omega
      rw [e, Int.mul_comm]
      have h4 : ((j.toNat * i.length : Nat) : Int) ≤ ((16777216 : Nat) : Int) := Int.ofNat_le.mpr h1
      rw [Int.natCast_mul] at h4
      exact h4
    have h3 : (i.length : Int) ≤ (2 ^ 63 - 1) / j := by
      refine (Int.le_ediv_iff_mul_le (by omega)).mpr ?_
      omega
    omega
  · rw [if_neg (by omega), if_neg (by
      simp only [Bool.or_eq_true, beq_iff_eq]
      omega)]
    exact ⟨PySem.fits_reps htl, .str (repS i j.toNat), H, I.tok _, ⟨_, rfl⟩, q⟩
/-- add: a list comes out settled; cat: it may be changed later -/
def opD : Op → O2
  | .add, .int i, .int j, M, Q => Q (.int (i + j)) M
  | .add, .str s, .str t, M, Q => s.length + t.length ≤ sizeLine ∧ Q (.str (s ++ t)) M
  | .add, .tup a, .tup b, M, Q => a.length + b.length ≤ sizeLine ∧ Q (.tup (a ++ b)) M
  | .add, x, y, M, Q => match lstOf x M, lstOf y M with
    | some a, some b => a.length + b.length ≤ sizeLine ∧ Q (.lst (a ++ b)) M
    | _, _ => False
  | .cat, x, y, M, Q => match lstOf x M, lstOf y M with
    | some a, some b => a.length + b.length ≤ sizeLine ∧ Q (.ref M.length) (M ++ [.lst (a ++ b)])
    | _, _ => False
  | .sub, .int i, .int j, M, Q => Q (.int (i - j)) M
  | .mul, .int i, .int j, M, Q => CMul i j ∧ Q (.int (i * j)) M
  | .mul, .str s, .int j, M, Q => 2 ≤ j ∧ 1 ≤ s.length ∧ s.length * j.toNat ≤ sizeLine ∧ Q (.str (repS s j.toNat)) M
  | .fdiv, .int i, .int j, M, Q => CDiv i j ∧ Q (.int (i / j)) M
  | .mod, .int i, .int j, M, Q => 0 < j ∧ Q (.int (i % j)) M
  | .pow, .int i, .int j, M, Q => CPow i j ∧ Q (.int (i ^ j.toNat)) M
  | .band, .int i, .int j, M, Q => Q (.int (Builtin.bitAnd i j)) M
  | _, _, _, _, _ => False

theorem op_sound {X : Cx} {P : Pm} (hK : P.K = X.K) (o : Op) : OpR X (binaryOp (opO o)) (liO2 P (opD o)) := by
  intro pins st σ H x y v u Q I rx ry q
  obtain ⟨w, M, dx, dy, Qd, R, hx, hy, l, q⟩ := q
  have lists : ∀ {k : List D → Prop}, (match lstOf dx M, lstOf dy M with
      | some a, some b => a.length + b.length ≤ sizeLine ∧ k (a ++ b)
      | _, _ => False) → (∀ {p : Addr} {ds : List D} {vs : List V}, k ds → RelDs P w ds vs → H p = none → Q (.ref p) (upd H p (.lst vs))) →
      wpAny (model X.prog X.w) X.A (binaryOp .Add v u) (EP X pins σ Q) X.xe st := fun {k} h f => by
    split at h
    · rename_i a b ha hb
      obtain ⟨p1, v1, e1, h1, r1⟩ := lstOf_at R hx ha
      obtain ⟨p2, v2, e2, h2, r2⟩ := lstOf_at R hy hb
      subst e1; subst e2
      exact op_cat pins st σ H _ _ v u Q I rx ry ⟨p1, p2, v1, v2, rfl, rfl, h1, h2, by rw [r1.length, r2.length]; exact h.1, fun p hp => f h.2 (r1.append r2) hp⟩
    · exact h.elim
  have i2 : ∀ {i j : Int} {g : Int}, dx = .int i → dy = .int j → Qd (.int g) M → x = .int i ∧ y = .int j ∧ Q (.int g) H := fun {i j g} e1 e2 q2 => by
    subst e1; subst e2
    exact ⟨hx, hy, l.same R (d := .int g) (v := .int g) rfl q2⟩
  cases o with
  | add =>
    cases dx with
    | int i =>
      cases dy with
      | int j => obtain ⟨a, b, c⟩ := i2 rfl rfl q; exact op_add pins st σ H x y v u Q I rx ry ⟨i, j, a, b, c⟩
      | _ => exact lists (k := fun ds => Qd (.lst ds) M) q fun k r h => l.lst R r h k
    | str i =>
      cases dy with
      | str j =>
        have hx : x = .str i := hx
        have hy : y = .str j := hy
        subst hx; subst hy
        exact op_add_str pins st σ H _ _ v u Q I rx ry ⟨i, j, rfl, rfl, q.1, l.same R (d := .str _) rfl q.2⟩
      | _ => exact lists (k := fun ds => Qd (.lst ds) M) q fun k r h => l.lst R r h k
    | tup i =>
      cases dy with
      | tup j =>
        obtain ⟨p1, v1, e1, h1, r1⟩ := hx
        obtain ⟨p2, v2, e2, h2, r2⟩ := hy
        subst e1; subst e2
        rw [hK] at h1 h2
        have hh : ∀ p, RelD P w (.tup (i ++ j)) (.ref p) → Q (.ref p) H := fun p r => l.same R r q.2
        refine op_catA pins st σ H _ _ v u Q I rx ry ⟨p1, p2, v1, v2, rfl, rfl, sqT_mono R.sub h1, sqT_mono R.sub h2, by rw [r1.length, r2.length]; exact q.1, fun e => ?_, fun _ e => ?_, fun _ _ p hp => ?_⟩
        · have e' : i = [] := by have := r1.length; rw [e] at this; exact List.length_eq_zero_iff.mp this.symm
          refine hh p2 ⟨p2, v2, rfl, by rw [hK]; exact h2, by rw [e']; exact r2⟩
        · have e' : j = [] := by have := r2.length; rw [e] at this; exact List.length_eq_zero_iff.mp this.symm
          refine hh p1 ⟨p1, v1, rfl, by rw [hK]; exact h1, by rw [e', List.append_nil]; exact r1⟩
        · exact l.tup R (r1.append r2) hp q.2
      | _ => exact lists (k := fun ds => Qd (.lst ds) M) q fun k r h => l.lst R r h k
    | _ => cases dy <;> exact lists (k := fun ds => Qd (.lst ds) M) q fun k r h => l.lst R r h k
  | cat => exact lists (k := fun ds => Qd (.ref M.length) (M ++ [.lst ds])) (by cases dx <;> exact q) fun k r h => l.cell R r h k
  | sub =>
    cases dx <;> cases dy <;> first | exact False.elim q | skip
    obtain ⟨a, b, c⟩ := i2 rfl rfl q
    exact op_sub pins st σ H x y v u Q I rx ry ⟨_, _, a, b, c⟩
  | mul =>
    cases dx <;> cases dy <;> first | exact False.elim q | skip
    · obtain ⟨a, b, c⟩ := i2 rfl rfl q.2
      exact op_mul pins st σ H x y v u Q I rx ry ⟨_, _, a, b, q.1, c⟩
    · rename_i s j
      have hx : x = .str s := hx
      have hy : y = .int j := hy
      subst hx; subst hy
      exact op_mul_str pins st σ H _ _ v u Q I rx ry ⟨s, j, rfl, rfl, q.1, q.2.1, q.2.2.1, l.same R (d := .str _) rfl q.2.2.2⟩
  | fdiv =>
    cases dx <;> cases dy <;> first | exact False.elim q | skip
    obtain ⟨a, b, c⟩ := i2 rfl rfl q.2
    exact op_fdiv pins st σ H x y v u Q I rx ry ⟨_, _, a, b, q.1, c⟩
  | mod =>
    cases dx <;> cases dy <;> first | exact False.elim q | skip
    obtain ⟨a, b, c⟩ := i2 rfl rfl q.2
    exact op_mod pins st σ H x y v u Q I rx ry ⟨_, _, a, b, q.1, c⟩
  | pow =>
    cases dx <;> cases dy <;> first | exact False.elim q | skip
    obtain ⟨a, b, c⟩ := i2 rfl rfl q.2
    exact op_pow pins st σ H x y v u Q I rx ry ⟨_, _, a, b, q.1, c⟩
  | band =>
    cases dx <;> cases dy <;> first | exact False.elim q | skip
    obtain ⟨a, b, c⟩ := i2 rfl rfl q
    exact op_and pins st σ H x y v u Q I rx ry ⟨_, _, a, b, c⟩
end DL

/-! DL: comparisons, places, slices -/
namespace DL
open PySem L2

/-! ### as the library's data -/
mutual
def pyD : D → Option PyData
  | .non => some .none
  | .bl b => some (.bool b)
  | .int i => some (.int i)
  | .str s => some (.str s)
  | .tup ds => (pyDs ds).map .tuple
  | .lst ds => (pyDs ds).map .list
  | .scr ns => some (.list (ns.map .int))
  | .ref _ => none
  | .obj _ _ _ => none
def pyDs : List D → Option (List PyData)
  | [] => some []
  | d :: ds => match pyD d, pyDs ds with
    | some x, some xs => some (x :: xs)
    | _, _ => none
end
section
variable {P : Pm} {w : Wd} {M : Md} {H : Hp}
mutual
theorem pyD_at (R : RepM P w M H) : ∀ {d : D} {v : V} {y : PyData}, RelD P w d v → pyD d = some y → Dp P.K H v y
  | .non, v, y, r, e => by
    have r : v = .non := r
    cases e; subst r; exact .non
  | .bl b, v, y, r, e => by
    have r : v = .bl b := r
    cases e; subst r; exact .bl b
  | .int b, v, y, r, e => by
    have r : v = .int b := r
    cases e; subst r; exact .int b
  | .str b, v, y, r, e => by
    have r : v = .str b := r
    cases e; subst r; exact .str b
  | .tup ds, v, y, ⟨p, vs, ev, hp, hs⟩, e => by
    have e : (pyDs ds).map PyData.tuple = some y := e
    obtain ⟨ys, h1, h2⟩ := Option.map_eq_some_iff.mp e
    subst h2; subst ev
    exact .tup (sqT_mono R.sub hp) (pyDs_at R hs h1)
  | .lst ds, v, y, ⟨p, vs, ev, hp, hs⟩, e => by
    have e : (pyDs ds).map PyData.list = some y := e
    obtain ⟨ys, h1, h2⟩ := Option.map_eq_some_iff.mp e
    subst h2; subst ev
    exact .lst (SqL.of (R.sub _ _ hp)) (pyDs_at R hs h1)
  | .scr ns, v, y, ⟨p, ev, hp⟩, e => by
    cases e; subst ev
    refine .lst (sqL_mono R.sub hp) ?_
    clear hp
    induction ns with
    | nil => exact .nil
    | cons n ns ih => exact .cons (.int n) ih
  | .ref _, _, _, _, e => by cases e
  | .obj _ _ _, _, _, _, e => by cases e
theorem pyDs_at (R : RepM P w M H) : ∀ {ds : List D} {vs : List V} {ys : List PyData}, RelDs P w ds vs → pyDs ds = some ys → DpAll P.K H vs ys
  | [], vs, ys, r, e => by
    have r : vs = [] := r
    cases e; subst r; exact .nil
  | d :: ds, vs, ys, ⟨v, us, ev, h1, h2⟩, e => by
    have e : (match pyD d, pyDs ds with
      | some x, some xs => some (x :: xs)
      | _, _ => none) = some ys := e
    split at e
    · rename_i x xs hx hxs
      cases e; subst ev
      exact .cons (pyD_at R h1 hx) (pyDs_at R h2 hxs)
    · cases e
end
end
/-- a changing list as what it holds -/
def rsD (d : D) (M : Md) : D := match d with
  | .ref k => match M[k]? with
    | some (.lst ds) => .lst ds
    | _ => .ref k
  | d => d
theorem rsD_at {P : Pm} {w : Wd} {M : Md} {H : Hp} (R : RepM P w M H) {d : D} {v : V} {y : PyData} (r : RelD P w d v) (e : pyD (rsD d M) = some y) : Dp P.K H v y := by
  cases d with
  | ref k =>
    obtain ⟨p, ev, hp⟩ := r
    have e : pyD (match M[k]? with
      | some (.lst ds) => .lst ds
      | _ => .ref k) = some y := e
    split at e
    · rename_i ds hm
      obtain ⟨_, vs, e2, hs⟩ := R.cell k _ p hm hp
      have e : (pyDs ds).map PyData.list = some y := e
      obtain ⟨ys, h1, h2⟩ := Option.map_eq_some_iff.mp e
      subst h2; subst ev
      exact .lst (SqL.of e2) (pyDs_at R hs h1)
    · cases e
  | non => exact pyD_at R r e
  | bl _ => exact pyD_at R r e
  | int _ => exact pyD_at R r e
  | str _ => exact pyD_at R r e
  | tup _ => exact pyD_at R r e
  | lst _ => exact pyD_at R r e
  | scr _ => exact pyD_at R r e
  | obj _ _ _ => exact pyD_at R r e

/-! ### comparisons -/
/-- of scalars -/
def eqS : D → D → Option Bool
  | .non, .non => some true
  | .non, .int _ => some false
  | .int _, .non => some false
  | .non, .bl _ => some false
  | .bl _, .non => some false
  | .non, .str _ => some false
  | .str _, .non => some false
  | .int i, .int j => some (decide (i = j))
  | .bl i, .bl j => some (decide (i = j))
  | .str i, .str j => some (decide (i = j))
  | .int _, .str _ => some false
  | .str _, .int _ => some false
  | .bl _, .str _ => some false
  | .str _, .bl _ => some false
  | _, _ => none
def flatD : D → Bool
  | .non => true | .bl _ => true | .int _ => true | .str _ => true | _ => false
def eqF : D → D → Bool
  | .non, .non => true
  | .bl a, .bl b => a == b
  | .bl a, .int b => (if a then 1 else 0) == b
  | .int a, .bl b => a == (if b then 1 else 0)
  | .int a, .int b => a == b
  | .str a, .str b => a == b
  | _, _ => false
inductive Cp where
  | eq | ne | lt | le | gt | ge | isN | notN | isB | notB | inn | nin
  deriving DecidableEq
def cpO : Cp → CmpOp
  | .eq => .Eq | .ne => .NotEq | .lt => .Lt | .le => .LtE | .gt => .Gt | .ge => .GtE | .isN => .Is | .notN => .IsNot | .isB => .Is | .notB => .IsNot | .inn => .In | .nin => .NotIn
/-- keys -/
def keyD : D → Option (Option Key)
  | .non => some none
  | .int i => some (some (.inl i))
  | .str s => some (some (.inr s))
  | _ => none
def tKey (d : D) : Option NestedKey := match d with
  | .tup ds => match keyN (.tup ds) with
    | some k => if k.depth ≤ 8 then some k else none
    | none => none
  | _ => none
def dctVal {κ : Type} [DecidableEq κ] (kvs : List (κ × D)) (k : κ) : Option D := (kvs.find? fun kv => decide (kv.1 = k)).map (·.2)
def dctPut {κ : Type} [DecidableEq κ] (kvs : List (κ × D)) (k : κ) (v : D) : List (κ × D) :=
  if (kvs.any fun kv => decide (kv.1 = k)) = true then kvs.map (fun kv => if kv.1 = k then (kv.1, v) else kv) else kvs ++ [(k, v)]
def dctValT (kvs : List (D × D)) (k : NestedKey) : Option D := (kvs.find? fun kv => decide (keyN kv.1 = some k)).map (·.2)
def dctPutT (kvs : List (D × D)) (kd : D) (k : NestedKey) (v : D) : List (D × D) :=
  if (kvs.any fun kv => decide (keyN kv.1 = some k)) = true then kvs.map (fun kv => if keyN kv.1 = some k then (kv.1, v) else kv) else kvs ++ [(kd, v)]
/-- what the dict d holds at k (none: no dict, or no key of its kind) -/
def dGet (d k : D) (M : Md) : Option (Option D) := match d with
  | .ref i => match M[i]? with
    | some (.dct kvs) => (keyD k).map (dctVal kvs)
    | some (.dctT kvs) => (tKey k).map (dctValT kvs)
    | _ => none
  | _ => none
def inD (x y : D) (M : Md) (Q : Bool → Prop) : Prop := match x, y with
  | .str s, .str t => Q (!(Builtin.Str.occurrences t s 0 t.length 1).isEmpty)
  | x, y => match dGet y x M with
    | some r => Q r.isSome
    | none => match seqOf y M with
      | some ds => if flatD x && ds.all flatD then Q (ds.any fun d => eqF d x) else
          match pyD x, pyDs ds with
          | some px, some ps => SeqAt.shaped px = true ∧ SeqAt.shaped (.list ps) = true ∧ Q (ps.any fun z => PyData.eqv z px)
          | _, _ => False
      | none => False
def eqQ (x y : D) (M : Md) (Q : Bool → Prop) : Prop := match eqS x y with
  | some b => Q b
  | none => match pyD (rsD x M), pyD (rsD y M) with
    | some a, some b => SeqAt.shaped a = true ∧ SeqAt.shaped b = true ∧ Q (PyData.eqv a b)
    | _, _ => False
def cpI (f : Int → Int → Bool) (x y : D) (Q : Bool → Prop) : Prop := match x, y with
  | .int i, .int j => Q (f i j)
  | _, _ => False
def isNon : D → Bool
  | .non => true
  | _ => false
/-- of two truth values -/
def isB2 (x y : D) (Q : Bool → Prop) : Prop := match x, y with
  | .bl a, .bl b => Q (decide (a = b))
  | _, _ => False
def cpD (c : Cp) (x y : D) (M : Md) (Q : Bool → Prop) : Prop := match c with
  | .eq => eqQ x y M Q
  | .ne => eqQ x y M fun b => Q (!b)
  | .lt => cpI (fun i j => decide (i < j)) x y Q
  | .le => cpI (fun i j => decide (i ≤ j)) x y Q
  | .gt => cpI (fun i j => decide (j < i)) x y Q
  | .ge => cpI (fun i j => decide (j ≤ i)) x y Q
  | .isN => isNon y = true ∧ Q (isNon x)
  | .notN => isNon y = true ∧ Q (!isNon x)
  | .isB => isB2 x y Q
  | .notB => isB2 x y fun b => Q (!b)
  | .inn => inD x y M Q
  | .nin => inD x y M fun b => Q (!b)
abbrev cpR (c : Cp) : O2 := fun x y M Q => cpD c x y M fun b => Q (.bl b) M

section
variable {P : Pm} {w : Wd} {M : Md} {H : Hp}
theorem op_inDT {X : Cx} (hu : X.A.units + 65 < cLine) : OpR X (compareOp .In) (fun x y H Q => ∃ d ds, Dp X.K H x d ∧ (Dp X.K H y (.list ds) ∨ Dp X.K H y (.tuple ds)) ∧ SeqAt.shaped d = true ∧ SeqAt.shaped (.list ds) = true ∧ Q (.bl (ds.any fun z => PyData.eqv z d)) H) := by
  intro pins s σ H x y v u Q I rx ry h
  obtain ⟨d, ds, hd, he, sd, se, q⟩ := h
  rcases he with he | he
  · exact op_inD hu pins s σ H x y v u Q I rx ry ⟨d, ds, hd, he, sd, se, q⟩
  · obtain ⟨as, r1⟩ := Dp.reads I d x v hd rx
    obtain ⟨bs, r2⟩ := Dp.reads I (.tuple ds) y u he ry
    exact SeqAt.in_tuple_reads r2 r1 (SeqAt.canLay_of_shaped se) (SeqAt.canLay_of_shaped sd) (PyProof.Rows.room_in_shaped sd hu) ⟨.bl _, H, I, rfl, q⟩
theorem op_notInDT {X : Cx} (hu : X.A.units + 65 < cLine) : OpR X (compareOp .NotIn) (fun x y H Q => ∃ d ds, Dp X.K H x d ∧ (Dp X.K H y (.list ds) ∨ Dp X.K H y (.tuple ds)) ∧ SeqAt.shaped d = true ∧ SeqAt.shaped (.list ds) = true ∧ Q (.bl (!ds.any fun z => PyData.eqv z d)) H) := by
  intro pins s σ H x y v u Q I rx ry h
  obtain ⟨d, ds, hd, he, sd, se, q⟩ := h
  rcases he with he | he
  · exact op_notInD hu pins s σ H x y v u Q I rx ry ⟨d, ds, hd, he, sd, se, q⟩
  · obtain ⟨as, r1⟩ := Dp.reads I d x v hd rx
    obtain ⟨bs, r2⟩ := Dp.reads I (.tuple ds) y u he ry
    exact SeqAt.notIn_tuple_reads r2 r1 (SeqAt.canLay_of_shaped se) (SeqAt.canLay_of_shaped sd) (PyProof.Rows.room_in_shaped sd hu) ⟨.bl _, H, I, rfl, q⟩
theorem op_isB {X : Cx} : OpR X (compareOp .Is) (fun x y H Q => ∃ a b, x = .bl a ∧ y = .bl b ∧ Q (.bl (decide (a = b))) H) := by
  intro pins s σ H x y v u Q I rx ry h
  obtain ⟨a, b, rfl, rfl, q⟩ := h
  cases rx; cases ry
  show wpAny _ _ ((isSame (Value.bool a) (Value.bool b)) >>= fun z => pure (Value.bool z)) _ _ s
  refine wpAny_bind (wpAny_isSame_plain rfl (wpAny_pure (fin_bl I q ?_)))
  cases a <;> cases b <;> rfl
theorem op_notB {X : Cx} : OpR X (compareOp .IsNot) (fun x y H Q => ∃ a b, x = .bl a ∧ y = .bl b ∧ Q (.bl (!decide (a = b))) H) := by
  intro pins s σ H x y v u Q I rx ry h
  obtain ⟨a, b, rfl, rfl, q⟩ := h
  cases rx; cases ry
  show wpAny _ _ ((isSame (Value.bool a) (Value.bool b)) >>= fun z => pure (Value.bool (!z))) _ _ s
  refine wpAny_bind (wpAny_isSame_plain rfl (wpAny_pure (fin_bl I q ?_)))
  cases a <;> cases b <;> rfl
theorem relD_non {d : D} {v : V} (r : RelD P w d v) : decide (v = .non) = isNon d := by
  cases d with
  | non => have r : v = .non := r; subst r; rfl
  | bl b => have r : v = .bl b := r; subst r; rfl
  | int b => have r : v = .int b := r; subst r; rfl
  | str b => have r : v = .str b := r; subst r; rfl
  | tup ds => obtain ⟨p, vs, e, _⟩ := r; subst e; rfl
  | lst ds => obtain ⟨p, vs, e, _⟩ := r; subst e; rfl
  | scr ds => obtain ⟨p, e, _⟩ := r; subst e; rfl
  | ref ds => obtain ⟨p, e, _⟩ := r; subst e; rfl
  | obj _ _ _ => obtain ⟨p, dx, vs, e, _⟩ := r; subst e; rfl
theorem eqS_at {x y : D} {u v : V} {b : Bool} (r1 : RelD P w x u) (r2 : RelD P w y v) (e : eqS x y = some b) : scal u v = true ∧ decide (u = v) = b := by
  cases x <;> cases y <;> first
    | (exfalso; simp [eqS] at e; done)
    | (have r1 : u = _ := r1
       have r2 : v = _ := r2
       subst r1; subst r2
       cases e
       exact ⟨rfl, by simp⟩)
theorem flat_at {x : D} {u : V} (r : RelD P w x u) (h : flatD x = true) : flatV u = true := by
  cases x <;> first
    | (exfalso; simp [flatD] at h; done)
    | (have r : u = _ := r
       subst r
       rfl)
theorem eqF_at {x y : D} {u v : V} (r1 : RelD P w x u) (r2 : RelD P w y v) (h1 : flatD x = true) (h2 : flatD y = true) : eqV u v = eqF x y := by
  cases x <;> cases y <;> first
    | (exfalso; simp [flatD] at h1; done)
    | (exfalso; simp [flatD] at h2; done)
    | (have r1 : u = _ := r1
       have r2 : v = _ := r2
       subst r1; subst r2
       rfl)
theorem flats_at : ∀ {ds : List D} {vs : List V}, RelDs P w ds vs → ds.all flatD = true → vs.all flatV = true
  | [], vs, r, _ => by
    have r : vs = [] := r
    subst r; rfl
  | d :: ds, _, ⟨v, us, e, h1, h2⟩, h => by
    subst e
    rw [List.all_cons, Bool.and_eq_true] at h ⊢
    exact ⟨flat_at h1 h.1, flats_at h2 h.2⟩
theorem any_at {x : D} {u : V} (r : RelD P w x u) (hx : flatD x = true) : ∀ {ds : List D} {vs : List V}, RelDs P w ds vs → ds.all flatD = true → inV u vs = ds.any fun d => eqF d x
  | [], vs, r, _ => by
    have r : vs = [] := r
    subst r; rfl
  | d :: ds, _, ⟨v, us, e, h1, h2⟩, h => by
    subst e
    rw [List.all_cons, Bool.and_eq_true] at h
    show (eqV v u || inV u us) = _
    rw [List.any_cons, eqF_at h1 r h.1 hx, any_at r hx h2 h.2]
theorem keyD_at {d : D} {v : V} {k : Option Key} (r : RelD P w d v) (e : keyD d = some k) : v = kVo k := by
  cases d <;> first
    | (exfalso; simp [keyD] at e; done)
    | (have r : v = _ := r
       subst r
       cases e
       rfl)
theorem tKey_at {d : D} {k : NestedKey} (e : tKey d = some k) : (∃ ds, d = .tup ds) ∧ keyN d = some k ∧ k.depth ≤ 8 := by
  unfold tKey at e
  split at e
  · split at e
    · next h =>
      split at e
      · next h2 => cases e; exact ⟨⟨_, rfl⟩, h, h2⟩
      · cases e
    · cases e
  · cases e
theorem relKs_val {κ : Type} [DecidableEq κ] {k : κ} : ∀ {kvs : List (κ × D)} {us : List (κ × V)}, RelKs P w kvs us → (dctVal kvs k = none ∧ valV us k = none) ∨ ∃ d v, dctVal kvs k = some d ∧ valV us k = some v ∧ RelD P w d v
  | [], us, r => by
    have r : us = [] := r
    subst r; exact .inl ⟨rfl, rfl⟩
  | (j, d) :: kvs, us, ⟨v, us', e, h1, h2⟩ => by
    subst e
    by_cases h : j = k
    · exact .inr ⟨d, v, by simp [dctVal, h], by simp [valV, h], h1⟩
    · have := relKs_val (k := k) h2
      simpa [dctVal, valV, h] using this
theorem relTs_val {k : NestedKey} : ∀ {kvs : List (D × D)} {es : List (NestedKey × Addr × V)}, RelTs P w kvs es → (dctValT kvs k = none ∧ tVal es k = none) ∨ ∃ d v, dctValT kvs k = some d ∧ tVal es k = some v ∧ RelD P w d v
  | [], es, r => by
    have r : es = [] := r
    subst r; exact .inl ⟨rfl, rfl⟩
  | (kd, d) :: kvs, es, ⟨j, b, v, es', e, h1, h2, h3, h4, h5⟩ => by
    subst e
    by_cases h : j = k
    · exact .inr ⟨d, v, by simp [dctValT, h1, h], by simp [tVal, h], h4⟩
    · have := relTs_val (k := k) h5
      have h' : ¬ keyN kd = some k := by rw [h1]; intro z; exact h (Option.some.inj z)
      simpa [dctValT, tVal, h, h'] using this
section
variable {X : Cx} {pins : List (Addr × Obj)} {σ : L2.St} {s : Shared}
mutual
theorem nest_of (hK : P.K = X.K) (I : Inv X pins σ H s) (R : RepM P w M H) : ∀ {d : D} {v : V} {u : Value} {k : NestedKey}, RelD P w d v → RelV v u → keyN d = some k → NestedIs s.heap k u
  | .non, v, u, k, r, rv, e => by
    have r : v = .non := r
    subst r
    have rv : u = Value.none := rv
    subst rv
    cases e; exact .none
  | .bl b, v, u, k, r, rv, e => by
    have r : v = .bl b := r
    subst r
    have rv : u = Value.bool b := rv
    subst rv
    cases e; exact .bool rfl
  | .int i, v, u, k, r, rv, e => by
    have r : v = .int i := r
    subst r
    obtain ⟨t, rv⟩ : ∃ t, u = Value.int i t := rv
    subst rv
    cases e; exact .int i t
  | .str x, v, u, k, r, rv, e => by
    have r : v = .str x := r
    subst r
    obtain ⟨t, rv⟩ : ∃ t, u = Value.str x t := rv
    subst rv
    cases e; exact .text x t
  | .tup ds, v, u, k, ⟨p, vs, ev, hp, hs⟩, rv, e => by
    have e : (keyNs ds).map NestedKey.tup = some k := e
    obtain ⟨ks, h1, h2⟩ := Option.map_eq_some_iff.mp e
    subst h2; subst ev
    have rv : u = Value.ref p := rv
    subst rv
    obtain ⟨its, r, ⟨o, g, c, n, dt⟩, _⟩ := I.tuple (hK ▸ sqT_mono R.sub hp)
    exact .tup g c dt (nests_of hK I R hs r h1)
  | .lst _, _, _, _, _, _, e => by cases e
  | .scr _, _, _, _, _, _, e => by cases e
  | .ref _, _, _, _, _, _, e => by cases e
  | .obj _ _ _, _, _, _, _, _, e => by cases e
theorem nests_of (hK : P.K = X.K) (I : Inv X pins σ H s) (R : RepM P w M H) : ∀ {ds : List D} {vs : List V} {us : List Value} {ks : List NestedKey}, RelDs P w ds vs → Vals vs us → keyNs ds = some ks → NestedAll s.heap ks us
  | [], vs, us, ks, r, rv, e => by
    have r : vs = [] := r
    subst r
    cases rv; cases e; exact .nil
  | d :: ds, vs, us, ks, ⟨v, r, ev, h1, h2⟩, rv, e => by
    have e : (match keyN d, keyNs ds with
      | some k, some ks => some (k :: ks)
      | _, _ => none) = some ks := e
    subst ev
    cases rv with
    | cons a b =>
      split at e
      · next x xs hx hxs =>
        cases e
        exact .cons (nest_of hK I R h1 a hx) (nests_of hK I R h2 b hxs)
      · cases e
end
theorem keysAt_of (hK : P.K = X.K) (I : Inv X pins σ H s) (R : RepM P w M H) : ∀ {kvs : List (D × D)} {es : List (NestedKey × Addr × V)}, RelTs P w kvs es → KeysAt X.prog X.w s.heap es
  | [], es, r => by
    have r : es = [] := r
    subst r; intro x hx; cases hx
  | (kd, d) :: kvs, es, ⟨j, b, v, es', e, h1, h2, h3, h4, h5⟩ => by
    subst e
    intro x hx
    rcases List.mem_cons.mp hx with z | z
    · subst z
      exact ⟨nest_of hK I R h3 (show RelV (.ref b) (Value.ref b) from rfl) h1, h2⟩
    · exact keysAt_of hK I R h5 x z
/-- what a dict holds, below -/
theorem dGet_at (hK : P.K = X.K) (hp : P.pg = X.prog) (hw : P.wl = X.w) (I : Inv X pins σ H s) (R : RepM P w M H) {d k : D} {u v : V} {r : Option D} {vk : Value} (r1 : RelD P w d u) (r2 : RelD P w k v) (rk : RelV v vk) (e : dGet d k M = some r) :
    ∃ a, u = .ref a ∧ s.TypeIs (.ref a) "dict" ∧
      (∀ {A : Around} {E : Value → Shared → Prop} {Q : Value → Shared → Prop}, A.units + 10 < cLine → (∀ s', Inv X pins σ H s' → Q (.bool r.isSome) s') → wpAny (model X.prog X.w) A (compareOp .In vk (.ref a)) Q E s) ∧
      (∀ {A : Around} {E : Value → Shared → Prop} {Q : Value → Shared → Prop}, A.units + 10 < cLine → (∀ s', Inv X pins σ H s' → Q (.bool (!r.isSome)) s') → wpAny (model X.prog X.w) A (compareOp .NotIn vk (.ref a)) Q E s) ∧
      (∀ {A : Around} {E : Value → Shared → Prop} {Q : Value → Shared → Prop} {x : D}, r = some x → A.units + 10 < cLine → (∀ y w' s', Inv X pins σ H s' → RelD P w x y → RelV y w' → Q w' s') → wpAny (model X.prog X.w) A (getItem (.ref a) vk) Q E s) := by
  cases d with
  | ref i =>
    obtain ⟨p, eu, hpp⟩ := r1
    have e : (match M[i]? with
      | some (.dct kvs) => (keyD k).map (dctVal kvs)
      | some (.dctT kvs) => (tKey k).map (dctValT kvs)
      | _ => none) = some r := e
    split at e
    · rename_i kvs hm
      obtain ⟨_, us, e2, hs⟩ := R.cell i _ p hm hpp
      rw [hp, hw] at e2
      obtain ⟨ky, hk, er⟩ := Option.map_eq_some_iff.mp e
      have hv := keyD_at r2 hk
      subst hv; subst eu
      obtain ⟨_, _, vs, _, dd⟩ := fd_of I e2
      have hsome : (valV us ky).isSome = r.isSome := by
        rcases relKs_val (k := ky) hs with ⟨q1, q2⟩ | ⟨x, y, q1, q2, _⟩ <;> rw [← er, q1, q2] <;> rfl
      refine ⟨p, rfl, dd.typeIs, fun _ h => fd_in I e2 rk fun s' I' => by rw [hsome]; exact h s' I', fun _ h => fd_notIn I e2 rk fun s' I' => by rw [hsome]; exact h s' I', fun {A E Q x} hr _ h => ?_⟩
      rcases relKs_val (k := ky) hs with ⟨q1, q2⟩ | ⟨x', y, q1, q2, q3⟩
      · rw [← er, q1] at hr; cases hr
      · rw [← er, q1] at hr; cases hr
        exact fd_getItem I e2 q2 rk fun w' s' I' rw' => h y w' s' I' q3 rw'
    · rename_i kvs hm
      obtain ⟨_, es, e2, hs⟩ := R.cell i _ p hm hpp
      rw [hp, hw] at e2
      obtain ⟨ky, hk, er⟩ := Option.map_eq_some_iff.mp e
      obtain ⟨⟨ds, hd⟩, k1, k2⟩ := tKey_at hk
      subst hd; subst eu
      have hn := nest_of hK I R r2 rk k1
      obtain ⟨b, vs, ev, _, _⟩ := id r2
      subst ev
      have rk : vk = Value.ref b := rk
      subst rk
      have ka := keysAt_of hK I R hs
      have kb : (nestedKind X.prog X.w).is s.heap ky b := ⟨hn, k2⟩
      obtain ⟨_, _, vs, _, dd⟩ := td_of I e2 ka
      have hsome : (tVal es ky).isSome = r.isSome := by
        rcases relTs_val (k := ky) hs with ⟨q1, q2⟩ | ⟨x, y, q1, q2, _⟩ <;> rw [← er, q1, q2] <;> rfl
      refine ⟨p, rfl, dd.typeIs, fun hu h => td_in hu I e2 ka kb fun s' I' => by rw [hsome]; exact h s' I', fun hu h => td_notIn hu I e2 ka kb fun s' I' => by rw [hsome]; exact h s' I', fun {A E Q x} hr hu h => ?_⟩
      rcases relTs_val (k := ky) hs with ⟨q1, q2⟩ | ⟨x', y, q1, q2, q3⟩
      · rw [← er, q1] at hr; cases hr
      · rw [← er, q1] at hr; cases hr
        exact td_getItem hu I e2 ka kb q2 fun w' s' I' rw' => h y w' s' I' q3 rw'
    · cases e
  | _ => cases e
end
end

theorem cp_sound {X : Cx} {P : Pm} (hK : P.K = X.K) (hp : P.pg = X.prog) (hw : P.wl = X.w) (hu : X.A.units + 65 < cLine) (c : Cp) : OpR X (compareOp (cpO c)) (liO2 P (cpR c)) := by
  intro pins st σ H x y v u Q I rx ry q
  obtain ⟨w, M, dx, dy, Qd, R, hx, hy, l, q⟩ := q
  have bl : ∀ {b : Bool}, Qd (.bl b) M → Q (.bl b) H := fun {b} q => l.same R (d := .bl b) rfl q
  have intsH : ∀ {f : Int → Int → Bool}, cpI f dx dy (fun b => Qd (.bl b) M) → ∃ i j, x = .int i ∧ y = .int j ∧ Q (.bl (f i j)) H := fun {f} q => by
    cases dx <;> cases dy <;> first | exact False.elim q | skip
    exact ⟨_, _, hx, hy, bl q⟩
  have eqsH : ∀ {k : Bool → Bool}, eqQ dx dy M (fun b => Qd (.bl (k b)) M) → (scal x y = true ∧ Q (.bl (k (decide (x = y)))) H) ∨ ∃ a b, Dp X.K H x a ∧ Dp X.K H y b ∧ SeqAt.shaped a = true ∧ SeqAt.shaped b = true ∧ Q (.bl (k (PyData.eqv a b))) H := fun {k} q => by
    unfold eqQ at q
    split at q
    · rename_i b e
      obtain ⟨a1, a2⟩ := eqS_at hx hy e
      exact .inl ⟨a1, by rw [a2]; exact bl q⟩
    · split at q
      · rename_i a b ea eb
        exact .inr ⟨a, b, hK ▸ rsD_at R hx ea, hK ▸ rsD_at R hy eb, q.1, q.2.1, bl q.2.2⟩
      · exact q.elim
  have insH : ∀ {k : Bool → Bool}, inD dx dy M (fun b => Qd (.bl (k b)) M) →
      (∃ i j, x = .str i ∧ y = .str j ∧ Q (.bl (k (!(Builtin.Str.occurrences j i 0 j.length 1).isEmpty))) H) ∨
      (∃ r, dGet dy dx M = some r ∧ Q (.bl (k r.isSome)) H) ∨
      (∃ p xs, y = .ref p ∧ (SqL X.K H p xs ∨ SqT X.K H p xs) ∧ flatV x = true ∧ xs.all flatV = true ∧ Q (.bl (k (inV x xs))) H) ∨
      (∃ d ds, Dp X.K H x d ∧ (Dp X.K H y (.list ds) ∨ Dp X.K H y (.tuple ds)) ∧ SeqAt.shaped d = true ∧ SeqAt.shaped (.list ds) = true ∧ Q (.bl (k (ds.any fun z => PyData.eqv z d))) H) := fun {k} q => by
    unfold inD at q
    split at q
    · rename_i s t
      exact .inl ⟨_, _, hx, hy, bl q⟩
    · split at q
      · rename_i r er
        exact .inr (.inl ⟨r, er, bl q⟩)
      · split at q
        · rename_i ds hs
          split at q
          · rename_i hf
            rw [Bool.and_eq_true] at hf
            obtain ⟨p, vs, e1, e2, e3⟩ := seqOf_at R hy hs
            refine .inr (.inr (.inl ⟨p, vs, e1, hK ▸ e2, flat_at hx hf.1, flats_at e3 hf.2, ?_⟩))
            rw [any_at hx hf.1 e3 hf.2]; exact bl q
          · split at q
            · rename_i px ps ex es
              obtain ⟨q2, q3, q4⟩ := q
              refine .inr (.inr (.inr ⟨px, ps, hK ▸ pyD_at R hx ex, ?_, q2, q3, bl q4⟩))
              by_cases ht : ∃ fs, dy = .tup fs
              · obtain ⟨fs, rfl⟩ := ht
                cases hs
                exact .inr (hK ▸ rsD_at R hy (by show (pyDs ds).map _ = _; rw [es]; rfl))
              refine .inl (hK ▸ rsD_at R hy ?_)
              cases dy with
              | tup fs => exact absurd ⟨fs, rfl⟩ ht
              | lst fs => cases hs; show (pyDs ds).map _ = _; rw [es]; rfl
              | scr ns =>
                cases hs
                show some (PyData.list (ns.map .int)) = _
                have : ∀ ms : List Int, pyDs (ms.map D.int) = some (ms.map .int) := fun ms => by
                  induction ms with
                  | nil => rfl
                  | cons m ms ih => show (match pyD (.int m), pyDs (ms.map D.int) with
                      | some x, some xs => some (x :: xs)
                      | _, _ => none) = _
                                    rw [ih]; rfl
                rw [this] at es
                cases es; rfl
              | ref i =>
                have hs' : (match M[i]? with
                  | some (.lst ds) => some ds
                  | _ => none) = some ds := hs
                show pyD (match M[i]? with
                  | some (.lst ds) => .lst ds
                  | _ => .ref i) = _
                split at hs'
                · cases hs'; show (pyDs ds).map _ = _; rw [es]; rfl
                · cases hs'
              | _ => cases hs
            · exact q.elim
        · exact q.elim
  cases c with
  | eq =>
    rcases eqsH (k := id) q with ⟨a, b⟩ | ⟨d, e, h⟩
    · exact op_eq pins st σ H x y v u Q I rx ry ⟨a, b⟩
    · exact op_eqD (by omega) pins st σ H x y v u Q I rx ry ⟨d, e, h⟩
  | ne =>
    rcases eqsH (k := not) q with ⟨a, b⟩ | ⟨d, e, h⟩
    · exact op_ne pins st σ H x y v u Q I rx ry ⟨a, b⟩
    · exact op_neD (by omega) pins st σ H x y v u Q I rx ry ⟨d, e, h⟩
  | lt => exact op_lt pins st σ H x y v u Q I rx ry (intsH q)
  | le => exact op_le pins st σ H x y v u Q I rx ry (intsH q)
  | gt => exact op_gt pins st σ H x y v u Q I rx ry (intsH q)
  | ge => exact op_ge pins st σ H x y v u Q I rx ry (intsH q)
  | isN =>
    have hy' : y = .non := by
      cases dy <;> first | exact hy | exact absurd q.1 (by simp [isNon])
    exact op_isN pins st σ H x y v u Q I rx ry ⟨hy', by rw [relD_non hx]; exact bl q.2⟩
  | notN =>
    have hy' : y = .non := by
      cases dy <;> first | exact hy | exact absurd q.1 (by simp [isNon])
    exact op_notN pins st σ H x y v u Q I rx ry ⟨hy', by rw [relD_non hx]; exact bl q.2⟩
  | isB =>
    cases dx <;> cases dy <;> first | exact q.elim | exact op_isB pins st σ H x y v u Q I rx ry ⟨_, _, hx, hy, bl q⟩
  | notB =>
    cases dx <;> cases dy <;> first | exact q.elim | exact op_notB pins st σ H x y v u Q I rx ry ⟨_, _, hx, hy, bl q⟩
  | inn =>
    rcases insH (k := id) q with h | ⟨r, er, q⟩ | ⟨p, xs, e, h, f1, f2, q⟩ | h
    · exact op_in_str pins st σ H x y v u Q I rx ry h
    · obtain ⟨a, e, _, f, _, _⟩ := dGet_at hK hp hw I R hy hx rx er
      subst e
      cases ry
      exact f (by omega) fun s' I' => ⟨.bl r.isSome, H, I', rfl, q⟩
    · exact op_in_seq pins st σ H x y v u Q I rx ry ⟨p, xs, e, h, f1, f2, q⟩
    · exact op_inDT (by omega) pins st σ H x y v u Q I rx ry h
  | nin =>
    rcases insH (k := not) q with h | ⟨r, er, q⟩ | ⟨p, xs, e, h, f1, f2, q⟩ | h
    · exact op_notin_str pins st σ H x y v u Q I rx ry h
    · obtain ⟨a, e, _, _, f, _⟩ := dGet_at hK hp hw I R hy hx rx er
      subst e
      cases ry
      exact f (by omega) fun s' I' => ⟨.bl (!r.isSome), H, I', rfl, q⟩
    · exact op_notIn_seq pins st σ H x y v u Q I rx ry ⟨p, xs, e, h, f1, f2, q⟩
    · exact op_notInDT (by omega) pins st σ H x y v u Q I rx ry h
end DL

/-! DL: places, slices, built-ins, methods -/
namespace DL
open PySem L2

/-! ### places -/
def ixD : O2 := fun x y M Q => match x, y with
  | .str s, .int i => s.length ≤ sizeLine ∧ match atI s.cps.toList i with
    | some c => Q (.str ⟨#[c]⟩) M
    | none => False
  | x, y => match dGet x y M with
    | some (some d) => Q d M
    | some none => False
    | none => match seqOf x M, y with
      | some ds, .int i => match atI ds i with
        | some d => Q d M
        | none => False
      | _, _ => False
theorem relDs_atI {P : Pm} {w : Wd} {ds : List D} {vs : List V} {i : Int} {d : D} (r : RelDs P w ds vs) (h : atI ds i = some d) : ∃ v, atI vs i = some v ∧ RelD P w d v := by
  unfold atI at h ⊢
  rw [r.length]
  cases e : ixN ds.length i with
  | none => rw [e] at h; cases h
  | some j =>
    rw [e] at h
    exact r.get h
theorem ix_sound {X : Cx} {P : Pm} (hK : P.K = X.K) (hp : P.pg = X.prog) (hw : P.wl = X.w) (hu : X.A.units + 65 < cLine) : IxR X (liO2 P ixD) := by
  intro value slice pins st σ H x y v u Q I rx ry q hs
  obtain ⟨w, M, dx, dy, Qd, R, hx, hy, l, q⟩ := q
  unfold ixD at q
  split at q
  · rename_i s i
    obtain ⟨hz, q⟩ := q
    split at q
    · rename_i c hc
      exact ix_str value slice pins st σ H x y v u Q I rx ry ⟨_, _, c, hx, hy, hz, hc, l.same R (d := .str _) rfl q⟩ hs
    · exact q.elim
  · split at q
    · rename_i d e
      obtain ⟨a, e1, ty, _, _, f⟩ := dGet_at hK hp hw I R hx hy ry e
      subst e1
      cases rx
      exact PyProof.Rows.tail_any ty PySem.F.slot_dict_getitem.lookup (f rfl (by omega) fun y' w' s' I' z3 rw' => ⟨y', H, I', rw', l.same R z3 q⟩) hs
    · exact q.elim
    · split at q
      · rename_i ds i hds
        split at q
        · rename_i d hd
          obtain ⟨p, vs, e1, e2, e3⟩ := seqOf_at R hx (by assumption)
          obtain ⟨z, hz, rz⟩ := relDs_atI e3 hd
          rcases e2 with e2 | e2
          · exact ix_list value slice pins st σ H x y v u Q I rx ry ⟨p, vs, _, z, e1, hy, hK ▸ e2, hz, l.same R rz q⟩ hs
          · exact ix_tup value slice pins st σ H x y v u Q I rx ry ⟨p, vs, _, z, e1, hy, hK ▸ e2, hz, l.same R rz q⟩ hs
        · exact q.elim
      · exact q.elim

/-! ### slices -/
def cutD {α : Type} (xs : List α) (lo hi : Option Int) : List α := (xs.drop (HT.sIx xs.length 0 lo)).take (HT.sIx xs.length xs.length hi - HT.sIx xs.length 0 lo)
/-- m: the new list may be changed -/
def slD (m : Bool) (x : D) (lo hi : Option Int) (M : Md) (Q : QE) : Prop := match x with
  | .str s => s.length ≤ sizeLine ∧ Q (.str ⟨(cutD s.cps.toList lo hi).toArray⟩) M
  | .tup ds => Q (.tup (cutD ds lo hi)) M
  | x => match seqOf x M with
    | some ds => if m then Q (.ref M.length) (M ++ [.lst (cutD ds lo hi)]) else Q (.lst (cutD ds lo hi)) M
    | none => False
def liSl (P : Pm) (m : Bool) : V → Option Int → Option Int → Hp → VK → Prop := fun x lo hi H Q => ∃ w M dx Qd, RepM P w M H ∧ RelD P w dx x ∧ Lk P w H Qd Q ∧ slD m dx lo hi M Qd
theorem relDs_cut {P : Pm} {w : Wd} {ds : List D} {vs : List V} (r : RelDs P w ds vs) (lo hi : Option Int) : RelDs P w (cutD ds lo hi) (cutV vs lo hi) := by
  unfold cutD cutV
  rw [r.length]
  exact (r.drop _).take _
theorem cut_whole {α : Type} (xs : List α) {lo hi : Option Int} (h : HT.sIx xs.length 0 lo = 0 ∧ HT.sIx xs.length xs.length hi = xs.length) : cutD xs lo hi = xs := by
  unfold cutD
  rw [h.1, h.2]
  simp
/-- a list that is read -/
theorem seqL_at {P : Pm} {w : Wd} {M : Md} {H : Hp} (R : RepM P w M H) {d : D} {v : V} {ds : List D} (r : RelD P w d v) (h : seqOf d M = some ds) (hn : ∀ es, d ≠ .tup es) : ∃ p vs, v = .ref p ∧ SqL P.K H p vs ∧ RelDs P w ds vs := by
  cases d with
  | tup es => exact absurd rfl (hn es)
  | lst es =>
    cases h
    obtain ⟨p, vs, e, hp, hs⟩ := r
    exact ⟨p, vs, e, SqL.of (R.sub _ _ hp), hs⟩
  | scr ns =>
    cases h
    obtain ⟨p, e, hp⟩ := r
    exact ⟨p, _, e, sqL_mono R.sub hp, relDs_ints ns⟩
  | ref k =>
    obtain ⟨p, e, hp⟩ := r
    have h : (match M[k]? with
      | some (.lst ds) => some ds
      | _ => none) = some ds := h
    split at h
    · rename_i ds' hm
      cases h
      obtain ⟨_, vs, e2, hs⟩ := R.cell k _ p hm hp
      exact ⟨p, vs, e, SqL.of e2, hs⟩
    · cases h
  | _ => cases h
theorem sl_sound {X : Cx} {P : Pm} (hK : P.K = X.K) (m : Bool) : SlR X (liSl P m) := by
  intro pins st σ H x v vl vu lo hi sl Q I rx hs pl pu q
  obtain ⟨w, M, dx, Qd, R, hx, l, q⟩ := q
  unfold slD at q
  split at q
  · rename_i s
    have e : cutS s lo hi = ⟨(cutD s.cps.toList lo hi).toArray⟩ := rfl
    exact sl_str pins st σ H x v vl vu lo hi sl Q I rx hs pl pu ⟨s, hx, q.1, by rw [e]; exact l.same R (d := .str _) rfl q.2⟩
  · rename_i ds
    obtain ⟨p, vs, e1, h1, r1⟩ := id hx
    refine sl_tupA pins st σ H x v vl vu lo hi sl Q I rx hs pl pu ⟨p, vs, e1, hK ▸ sqT_mono R.sub h1, fun hw => ?_, fun _ p' hp' => l.tup R (relDs_cut r1 lo hi) hp' q⟩
    rw [r1.length] at hw
    rw [cut_whole ds hw] at q
    exact e1 ▸ l.same R hx q
  · rename_i hn1 hn2
    split at q
    · rename_i ds hds
      obtain ⟨p, vs, e1, e2, e3⟩ := seqL_at R hx hds fun es e => hn2 es e
      refine sl_list pins st σ H x v vl vu lo hi sl Q I rx hs pl pu ⟨p, vs, e1, hK ▸ e2, fun p' hp => ?_⟩
      cases m with
      | true => exact l.cell R (relDs_cut e3 lo hi) hp q
      | false => exact l.lst R (relDs_cut e3 lo hi) hp q
    · exact q.elim

/-! ### built-ins -/
inductive Bt where
  | len | list | listM | tuple | max2 | min2 | int | sorted | sortedM | sum | ord | str | any | all | isi (T : String)
def tyOf : D → Md → Option String
  | .non, _ => some "NoneType"
  | .bl _, _ => some "bool"
  | .int _, _ => some "int"
  | .str _, _ => some "str"
  | .tup _, _ => some "tuple"
  | .lst _, _ => some "list"
  | .scr _, _ => some "list"
  | .obj _ _ _, _ => none
  | .ref k, M => match M[k]? with
    | some (.lst _) => some "list"
    | _ => none
def intsOf : List D → Option (List Int)
  | [] => some []
  | .int i :: ds => (intsOf ds).map (i :: ·)
  | _ :: _ => none
def blsOf : List D → Option (List Bool)
  | [] => some []
  | .bl i :: ds => (blsOf ds).map (i :: ·)
  | _ :: _ => none
def strsOf : List D → Option (List Str)
  | [] => some []
  | .str i :: ds => (strsOf ds).map (i :: ·)
  | _ :: _ => none
def pyG (d : D) : PyData := (pyD d).getD .none
/-- what may be sorted -/
structure SortOk (ds : List D) : Prop where
  py : ∀ d ∈ ds, (pyD d).isSome = true
  al : PySem.W.AllAlike (ds.map pyG)
  so : PySem.W.Sortable (ds.map pyG)
  dp : ∀ d ∈ ds, (pyG d).depth ≤ 50
def sortD (ds : List D) : List D := ds.mergeSort (PySem.W.dataLe false pyG)
def btD : Bt → OA
  | .len, [.str s], M, Q => s.length ≤ sizeLine ∧ Q (.int s.length) M
  | .len, [d], M, Q => match seqOf d M with
    | some ds => Q (.int ds.length) M
    | none => False
  | .list, [d], M, Q => match seqOf d M with
    | some ds => Q (.lst ds) M
    | none => False
  | .listM, [d], M, Q => match seqOf d M with
    | some ds => Q (.ref M.length) (M ++ [.lst ds])
    | none => False
  | .tuple, [d], M, Q => match seqOf d M with
    | some ds => Q (.tup ds) M
    | none => False
  | .max2, [.int i, .int j], M, Q => Q (.int (if j > i then j else i)) M
  | .min2, [.int i, .int j], M, Q => Q (.int (if j < i then j else i)) M
  | .int, [.int i], M, Q => Q (.int i) M
  | .int, [.bl b], M, Q => Q (.int (if b then 1 else 0)) M
  | .sorted, [d], M, Q => (∀ es, d ≠ .tup es) ∧ match seqOf d M with
    | some ds => SortOk ds ∧ Q (.lst (sortD ds)) M
    | none => False
  | .sortedM, [d], M, Q => (∀ es, d ≠ .tup es) ∧ match seqOf d M with
    | some ds => SortOk ds ∧ Q (.ref M.length) (M ++ [.lst (sortD ds)])
    | none => False
  | .sum, [d], M, Q => (∀ es, d ≠ .tup es) ∧ match (seqOf d M).bind intsOf with
    | some ns => Q (.int ns.sum) M
    | none => False
  | .ord, [.str s], M, Q => s.length = 1 ∧ Q (.int (s.cps.getD 0 0 : Nat)) M
  | .str, [.int i], M, Q => i.natAbs.log2 < 1920 ∧ Q (.str (toString i)) M
  | .any, [d], M, Q => (∀ es, d ≠ .tup es) ∧ match (seqOf d M).bind blsOf with
    | some bs => Q (.bl (bs.any id)) M
    | none => False
  | .all, [d], M, Q => (∀ es, d ≠ .tup es) ∧ match (seqOf d M).bind blsOf with
    | some bs => Q (.bl (bs.all id)) M
    | none => False
  | .isi T, [d], M, Q => match tyOf d M with
    | some t => match kitB t T with
      | some b => Q (.bl b) M
      | none => False
    | none => False
  | _, _, _, _ => False
end DL

/-! DL: built-ins -/
namespace DL
open PySem L2
section
variable {P : Pm} {w : Wd} {M : Md} {H : Hp}
theorem rel1 {d : D} {xs : List V} (r : RelDs P w [d] xs) : ∃ x, xs = [x] ∧ RelD P w d x := by
  obtain ⟨v, us, e, h, t⟩ := r
  have t : us = [] := t
  exact ⟨v, by rw [e, t], h⟩
theorem rel2 {d e : D} {xs : List V} (r : RelDs P w [d, e] xs) : ∃ x y, xs = [x, y] ∧ RelD P w d x ∧ RelD P w e y := by
  obtain ⟨v, us, e, h, t⟩ := r
  obtain ⟨y, e2, h2⟩ := rel1 t
  exact ⟨v, y, by rw [e, e2], h, h2⟩
theorem intsOf_at : ∀ {ds : List D} {vs : List V} {ns : List Int}, RelDs P w ds vs → intsOf ds = some ns → vs = ns.map V.int
  | [], vs, ns, r, e => by
    have r : vs = [] := r
    cases e; subst r; rfl
  | d :: ds, vs, ns, ⟨v, us, ev, h1, h2⟩, e => by
    cases d with
    | int i =>
      have e : (intsOf ds).map (i :: ·) = some ns := e
      obtain ⟨ms, hm, en⟩ := Option.map_eq_some_iff.mp e
      have h1 : v = .int i := h1
      subst ev; subst h1; subst en
      rw [intsOf_at h2 hm]; rfl
    | _ => cases e
theorem blsOf_at : ∀ {ds : List D} {vs : List V} {ns : List Bool}, RelDs P w ds vs → blsOf ds = some ns → vs = ns.map V.bl
  | [], vs, ns, r, e => by
    have r : vs = [] := r
    cases e; subst r; rfl
  | d :: ds, vs, ns, ⟨v, us, ev, h1, h2⟩, e => by
    cases d with
    | bl i =>
      have e : (blsOf ds).map (i :: ·) = some ns := e
      obtain ⟨ms, hm, en⟩ := Option.map_eq_some_iff.mp e
      have h1 : v = .bl i := h1
      subst ev; subst h1; subst en
      rw [blsOf_at h2 hm]; rfl
    | _ => cases e
theorem strsOf_at : ∀ {ds : List D} {vs : List V} {ns : List Str}, RelDs P w ds vs → strsOf ds = some ns → vs = ns.map V.str
  | [], vs, ns, r, e => by
    have r : vs = [] := r
    cases e; subst r; rfl
  | d :: ds, vs, ns, ⟨v, us, ev, h1, h2⟩, e => by
    cases d with
    | str i =>
      have e : (strsOf ds).map (i :: ·) = some ns := e
      obtain ⟨ms, hm, en⟩ := Option.map_eq_some_iff.mp e
      have h1 : v = .str i := h1
      subst ev; subst h1; subst en
      rw [strsOf_at h2 hm]; rfl
    | _ => cases e
theorem tyOf_at (R : RepM P w M H) {d : D} {v : V} {t : String} (r : RelD P w d v) (e : tyOf d M = some t) : TyX P.K H v (.type t) := by
  cases d with
  | non => have r : v = .non := r; subst r; cases e; exact .base .non
  | bl b => have r : v = .bl b := r; subst r; cases e; exact .base (.bl b)
  | int b => have r : v = .int b := r; subst r; cases e; exact .base (.int b)
  | str b => have r : v = .str b := r; subst r; cases e; exact .base (.str b)
  | tup ds =>
    obtain ⟨p, vs, ev, hp, _⟩ := r
    subst ev
    cases e
    rcases sqT_mono R.sub hp with (h | ⟨o, h⟩) | ⟨o, its, n, hk, hc, _⟩
    · exact .base (.tup h)
    · exact .fTuple h
    · exact .kTuple hk hc
  | lst ds =>
    obtain ⟨p, vs, ev, hp, _⟩ := r
    subst ev
    cases e
    exact .base (.lst (R.sub _ _ hp))
  | scr ns =>
    obtain ⟨p, ev, hp⟩ := r
    subst ev
    cases e
    rcases sqL_mono R.sub hp with (h | ⟨o, h⟩) | ⟨o, its, n, hk, hc, _⟩
    · exact .base (.lst h)
    · exact .base (.frz h)
    · exact .kList hk hc
  | obj _ _ _ => cases e
  | ref k =>
    obtain ⟨p, ev, hp⟩ := r
    subst ev
    have e : (match M[k]? with
      | some (.lst _) => some "list"
      | _ => none) = some t := e
    split at e
    · rename_i ds hm
      cases e
      obtain ⟨_, vs, e2, _⟩ := R.cell k _ p hm hp
      exact .base (.lst e2)
    · cases e
end

section
variable {X : Cx} {P : Pm}
theorem bt_len (hK : P.K = X.K) : CallR X (.builtin "len") (liOA P (btD .len)) := by
  intro pins st σ H xs us Q I rv q
  obtain ⟨w, M, ds, Qd, R, hx, l, q⟩ := q
  match ds, q with
  | [], q => exact q.elim
  | _ :: _ :: _, q => exact absurd q (by simp [btD])
  | [d], q =>
    obtain ⟨x, e, r⟩ := rel1 hx
    subst e
    have h : (∃ s, d = .str s ∧ s.length ≤ sizeLine ∧ Qd (.int s.length) M) ∨ (match seqOf d M with
        | some ds => Qd (.int ds.length) M
        | none => False) := by
      cases d <;> first | exact .inl ⟨_, rfl, q⟩ | exact .inr q
    rcases h with ⟨s, e, q1, q2⟩ | q
    · subst e
      have r : x = .str s := r
      subst r
      exact call_len pins st σ H _ us Q I rv ⟨_, _, rfl, ⟨q1, rfl⟩, l.same R (d := .int _) rfl q2⟩
    · split at q
      · rename_i ds hds
        obtain ⟨p, vs, e1, e2, e3⟩ := seqOf_at R r hds
        exact call_len_seq pins st σ H _ us Q I rv ⟨p, vs, by rw [e1], hK ▸ e2, by rw [e3.length]; exact l.same R (d := .int _) rfl q⟩
      · exact q.elim
theorem bt_list (hK : P.K = X.K) (m : Bool) : CallR X (.type "list") (liOA P (btD (if m then .listM else .list))) := by
  intro pins st σ H xs us Q I rv q
  obtain ⟨w, M, ds, Qd, R, hx, l, q⟩ := q
  match ds, q with
  | [], q => cases m <;> exact q.elim
  | _ :: _ :: _, q => cases m <;> exact absurd q (by simp [btD])
  | [d], q =>
    obtain ⟨x, e, r⟩ := rel1 hx
    subst e
    cases m with
    | true =>
      have q : (match seqOf d M with
        | some ds => Qd (.ref M.length) (M ++ [.lst ds])
        | none => False) := q
      split at q
      · rename_i ds hds
        obtain ⟨p, vs, e1, e2, e3⟩ := seqOf_at R r hds
        exact call_list_of pins st σ H _ us Q I rv ⟨p, vs, by rw [e1], hK ▸ e2, fun p' hp => l.cell R e3 hp q⟩
      · exact q.elim
    | false =>
      have q : (match seqOf d M with
        | some ds => Qd (.lst ds) M
        | none => False) := q
      split at q
      · rename_i ds hds
        obtain ⟨p, vs, e1, e2, e3⟩ := seqOf_at R r hds
        exact call_list_of pins st σ H _ us Q I rv ⟨p, vs, by rw [e1], hK ▸ e2, fun p' hp => l.lst R e3 hp q⟩
      · exact q.elim
theorem bt_tuple (hK : P.K = X.K) : CallR X (.type "tuple") (liOA P (btD .tuple)) := by
  intro pins st σ H xs us Q I rv q
  obtain ⟨w, M, ds, Qd, R, hx, l, q⟩ := q
  match ds, q with
  | [], q => exact q.elim
  | _ :: _ :: _, q => exact absurd q (by simp [btD])
  | [d], q =>
    obtain ⟨x, e, r⟩ := rel1 hx
    subst e
    have q : (match seqOf d M with
      | some ds => Qd (.tup ds) M
      | none => False) := q
    split at q
    · rename_i ds hds
      by_cases ht : ∃ es, d = .tup es
      · obtain ⟨es, et⟩ := ht
        subst et
        cases hds
        obtain ⟨p, vs, e1, h1, r1⟩ := id r
        exact call_tuple_of pins st σ H _ us Q I rv ⟨p, vs, by rw [e1], .inr ⟨hK ▸ sqT_mono R.sub h1, e1 ▸ l.same R r q⟩⟩
      · obtain ⟨p, vs, e1, e2, e3⟩ := seqL_at R r hds fun es e => ht ⟨es, e⟩
        exact call_tuple_of pins st σ H _ us Q I rv ⟨p, vs, by rw [e1], .inl ⟨hK ▸ e2, fun p' hp => l.tup R e3 hp q⟩⟩
    · exact q.elim
theorem bt_int : CallR X (.type "int") (liOA P (btD .int)) := by
  intro pins st σ H xs us Q I rv q
  obtain ⟨w, M, ds, Qd, R, hx, l, q⟩ := q
  match ds, q with
  | [], q => exact q.elim
  | _ :: _ :: _, q => exact absurd q (by simp [btD])
  | [d], q =>
    obtain ⟨x, e, r⟩ := rel1 hx
    subst e
    cases d with
    | int i =>
      have r : x = .int i := r
      subst r
      exact call_int1 pins st σ H _ us Q I rv (.inl ⟨i, rfl, l.same R (d := .int _) rfl q⟩)
    | bl i =>
      have r : x = .bl i := r
      subst r
      exact call_int1 pins st σ H _ us Q I rv (.inr ⟨i, rfl, l.same R (d := .int _) rfl q⟩)
    | _ => exact q.elim
theorem bt_ord : CallR X (.builtin "ord") (liOA P (btD .ord)) := by
  intro pins st σ H xs us Q I rv q
  obtain ⟨w, M, ds, Qd, R, hx, l, q⟩ := q
  match ds, q with
  | [], q => exact q.elim
  | _ :: _ :: _, q => exact absurd q (by simp [btD])
  | [d], q =>
    obtain ⟨x, e, r⟩ := rel1 hx
    subst e
    cases d with
    | str i =>
      have r : x = .str i := r
      subst r
      exact call_ord pins st σ H _ us Q I rv ⟨i, rfl, q.1, l.same R (d := .int _) rfl q.2⟩
    | _ => exact q.elim
theorem bt_str : CallR X (.type "str") (liOA P (btD .str)) := by
  intro pins st σ H xs us Q I rv q
  obtain ⟨w, M, ds, Qd, R, hx, l, q⟩ := q
  match ds, q with
  | [], q => exact q.elim
  | _ :: _ :: _, q => exact absurd q (by simp [btD])
  | [d], q =>
    obtain ⟨x, e, r⟩ := rel1 hx
    subst e
    cases d with
    | int i =>
      have r : x = .int i := r
      subst r
      exact call_str_int pins st σ H _ us Q I rv ⟨i, rfl, q.1, l.same R (d := .str _) rfl q.2⟩
    | _ => exact q.elim
theorem bt_mm (hc : X.calm = true) (m : Bool) : CallR X (.builtin (if m then "max" else "min")) (liOA P (btD (if m then .max2 else .min2))) := by
  intro pins st σ H xs us Q I rv q
  obtain ⟨w, M, ds, Qd, R, hx, l, q⟩ := q
  match ds, q with
  | [], q => cases m <;> exact q.elim
  | [_], q => cases m <;> exact absurd q (by simp [btD])
  | _ :: _ :: _ :: _, q => cases m <;> exact absurd q (by simp [btD])
  | [d, e], q =>
    obtain ⟨x, y, e, r1, r2⟩ := rel2 hx
    subst e
    have h : ∃ i j, d = .int i ∧ e = .int j ∧ if m then Qd (.int (if j > i then j else i)) M else Qd (.int (if j < i then j else i)) M := by
      cases m <;> cases d <;> first | exact q.elim | skip
      all_goals (cases e <;> first | exact q.elim | exact ⟨_, _, rfl, rfl, q⟩)
    obtain ⟨i, j, e1, e2, q⟩ := h
    subst e1; subst e2
    have r1 : x = .int i := r1
    have r2 : y = .int j := r2
    subst r1; subst r2
    cases m with
    | true => exact call_max2 hc pins st σ H _ us Q I rv ⟨i, j, rfl, l.same R (d := .int _) rfl q⟩
    | false => exact call_min2 hc pins st σ H _ us Q I rv ⟨i, j, rfl, l.same R (d := .int _) rfl q⟩
theorem bt_sum (hK : P.K = X.K) (hc : X.calm = true) : CallR X (.builtin "sum") (liOA P (btD .sum)) := by
  intro pins st σ H xs us Q I rv q
  obtain ⟨w, M, ds, Qd, R, hx, l, q⟩ := q
  match ds, q with
  | [], q => exact q.elim
  | _ :: _ :: _, q => exact absurd q (by simp [btD])
  | [d], q =>
    obtain ⟨x, e, r⟩ := rel1 hx
    subst e
    obtain ⟨hn, q⟩ := q
    split at q
    · rename_i ns hns
      obtain ⟨ds, hds, hi⟩ := Option.bind_eq_some_iff.mp hns
      obtain ⟨p, vs, e1, e2, e3⟩ := seqL_at R r hds hn
      rw [intsOf_at e3 hi] at e2
      exact cr_sum hc pins st σ H _ us Q I rv ⟨p, ns, by rw [e1], hK ▸ e2, l.same R (d := .int _) rfl q⟩
    · exact q.elim
theorem bt_any (hK : P.K = X.K) (hc : X.calm = true) : CallR X (.builtin "any") (liOA P (btD .any)) := by
  intro pins st σ H xs us Q I rv q
  obtain ⟨w, M, ds, Qd, R, hx, l, q⟩ := q
  match ds, q with
  | [], q => exact q.elim
  | _ :: _ :: _, q => exact absurd q (by simp [btD])
  | [d], q =>
    obtain ⟨x, e, r⟩ := rel1 hx
    subst e
    obtain ⟨hn, q⟩ := q
    split at q
    · rename_i ns hns
      obtain ⟨ds, hds, hi⟩ := Option.bind_eq_some_iff.mp hns
      obtain ⟨p, vs, e1, e2, e3⟩ := seqL_at R r hds hn
      rw [blsOf_at e3 hi] at e2
      exact cr_any hc pins st σ H _ us Q I rv ⟨p, ns, by rw [e1], hK ▸ e2, l.same R (d := .bl _) rfl q⟩
    · exact q.elim
theorem bt_all (hK : P.K = X.K) (hc : X.calm = true) : CallR X (.builtin "all") (liOA P (btD .all)) := by
  intro pins st σ H xs us Q I rv q
  obtain ⟨w, M, ds, Qd, R, hx, l, q⟩ := q
  match ds, q with
  | [], q => exact q.elim
  | _ :: _ :: _, q => exact absurd q (by simp [btD])
  | [d], q =>
    obtain ⟨x, e, r⟩ := rel1 hx
    subst e
    obtain ⟨hn, q⟩ := q
    split at q
    · rename_i ns hns
      obtain ⟨ds, hds, hi⟩ := Option.bind_eq_some_iff.mp hns
      obtain ⟨p, vs, e1, e2, e3⟩ := seqL_at R r hds hn
      rw [blsOf_at e3 hi] at e2
      exact cr_all hc pins st σ H _ us Q I rv ⟨p, ns, by rw [e1], hK ▸ e2, l.same R (d := .bl _) rfl q⟩
    · exact q.elim
/-- isinstance(x, T): the second place the class itself -/
theorem bt_isi (hK : P.K = X.K) {T : String} : CallR X (.builtin "isinstance") (fun xs H Q => ∃ x, xs = [x, .ty T] ∧ liOA P (btD (.isi T)) [x] H Q) := by
  intro pins st σ H xs us Q I rv q
  obtain ⟨x, e, w, M, ds, Qd, R, hx, l, q⟩ := q
  subst e
  match ds, q with
  | [], q => exact q.elim
  | _ :: _ :: _, q => exact absurd q (by simp [btD])
  | [d], q =>
    obtain ⟨x', e, r⟩ := rel1 hx
    cases e
    have q : (match tyOf d M with
      | some t => match kitB t T with
        | some b => Qd (.bl b) M
        | none => False
      | none => False) := q
    split at q
    · rename_i t ht
      split at q
      · rename_i b hb
        exact call_isi pins st σ H _ us Q I rv ⟨_, _, _, _, b, rfl, ClsV.ty T, hK ▸ tyOf_at R r ht, kit_ty hb, l.same R (d := .bl _) rfl q⟩
      · exact q.elim
    · exact q.elim
/-- the items as data -/
theorem each_of {pins : List (Addr × Obj)} {st : Shared} {σ : L2.St} {H : Hp} {w : Wd} {M : Md} (hK : P.K = X.K) (I : Inv X pins σ H st) (R : RepM P w M H) : ∀ {ds : List D} {vs : List V} {us : List Value}, RelDs P w ds vs → Vals vs us → (∀ d ∈ ds, (pyD d).isSome = true) →
    PySem.W.EachIs (fun u d => ∃ x, RelV x u ∧ RelD P w d x) us ds ∧ PySem.W.EachIs (fun u d => ∃ as, Reads st.heap u (pyG d) as) us ds
  | [], vs, us, r, v, _ => by
    have r : vs = [] := r
    subst r; cases v; exact ⟨.nil, .nil⟩
  | d :: ds, _, us, ⟨x, xs, e, h1, h2⟩, v, hp => by
    subst e
    cases v with
    | cons v1 v2 =>
      obtain ⟨a, b⟩ := each_of hK I R h2 v2 fun d hd => hp d (List.mem_cons_of_mem _ hd)
      obtain ⟨y, hy⟩ := Option.isSome_iff_exists.mp (hp d List.mem_cons_self)
      refine ⟨.cons ⟨x, v1, h1⟩ a, .cons ?_ b⟩
      have : pyG d = y := by unfold pyG; rw [hy]; rfl
      rw [this]
      exact Dp.reads I y x _ (hK ▸ pyD_at R h1 hy) v1
theorem each_back {w : Wd} : ∀ {ds : List D} {us : List Value}, PySem.W.EachIs (fun u d => ∃ x, RelV x u ∧ RelD P w d x) us ds → ∃ vs, Vals vs us ∧ RelDs P w ds vs
  | [], _, h => by cases h; exact ⟨[], .nil, rfl⟩
  | d :: ds, _, h => by
    cases h with
    | cons h1 h2 =>
      obtain ⟨x, a, b⟩ := h1
      obtain ⟨vs, c, e⟩ := each_back h2
      exact ⟨x :: vs, .cons a c, .cons b e⟩
theorem bt_sorted (hK : P.K = X.K) (hu : X.A.units + 65 < cLine) (m : Bool) : CallR X (.builtin "sorted") (liOA P (btD (if m then .sortedM else .sorted))) := by
  intro pins st σ H xs us Q I rv q
  obtain ⟨w, M, ds, Qd, R, hx, l, q⟩ := q
  match ds, q with
  | [], q => cases m <;> exact q.elim
  | _ :: _ :: _, q => cases m <;> exact absurd q (by simp [btD])
  | [d], q =>
    obtain ⟨x, e, r⟩ := rel1 hx
    subst e
    have q : (∀ es, d ≠ .tup es) ∧ match seqOf d M with
      | some ds => SortOk ds ∧ (if m then Qd (.ref M.length) (M ++ [.lst (sortD ds)]) else Qd (.lst (sortD ds)) M)
      | none => False := by cases m <;> exact q
    obtain ⟨hn, q⟩ := q
    split at q
    · rename_i ds hds
      obtain ⟨ok, q⟩ := q
      obtain ⟨p, vs, e1, e2, e3⟩ := seqL_at R r hds hn
      subst e1
      obtain ⟨u, rfl, ru⟩ := vals1 rv
      obtain rfl : u = Value.ref p := ru
      obtain ⟨its, r1, pl, hz⟩ := I.list (hK ▸ e2)
      obtain ⟨ea, er⟩ := each_of hK I R e3 r1 ok.py
      refine PySem.W.sorted_data (enc := pyG) pl.isList ea er ok.al ok.so (by rw [← e3.length]; exact hz) (fun b hb => by have := ok.dp b hb; omega) fun out ho eo => ?_
      obtain ⟨ws, r2, r3⟩ := each_back eo
      have hf : H (st.heap.objs.size + 1) = none := I.hok.fresh (Nat.le_succ _)
      obtain ⟨c, hc⟩ := PyProof.Rows.sortedAll_at st.heap its (List.toArray out)
      have J : Inv X pins σ (upd H (st.heap.objs.size + 1) (.lst ws)) { st with heap := PyProof.Rows.sortedAll st.heap its (List.toArray out) } := by
        refine I.laid (t' := st.toks) (fun b o e => PyProof.Rows.sortedAll_old e) (Nat.le_succ _) ⟨?_, out, c, r2, hc⟩
        rw [r3.length, List.length_mergeSort, ← e3.length]; exact hz
      refine ⟨.ref (st.heap.objs.size + 1), _, J, rfl, ?_⟩
      cases m with
      | true => exact l.cell R r3 hf q
      | false => exact l.lst R r3 hf q
    · exact q.elim
end
end DL

/-! DL: methods of built-in types -/
namespace DL
open PySem L2
inductive Mt where
  | append | extend | pop | popAt | insert | clear | reverse | join | find | lower | upper | split | index
  deriving DecidableEq
def mtT : Mt → String
  | .append | .extend | .pop | .popAt | .insert | .clear | .reverse | .index => "list"
  | _ => "str"
def mtN : Mt → Str
  | .append => "append" | .extend => "extend" | .pop => "pop" | .popAt => "pop" | .insert => "insert" | .clear => "clear" | .reverse => "reverse"
  | .join => "join" | .find => "find" | .lower => "lower" | .upper => "upper" | .split => "split" | .index => "index"
def mtI : Mt → String
  | .append => "list.append" | .extend => "list.extend" | .pop => "list.pop" | .popAt => "list.pop" | .insert => "list.insert" | .clear => "list.clear" | .reverse => "list.reverse"
  | .join => "str.join" | .find => "str.find" | .lower => "str.lower" | .upper => "str.upper" | .split => "str.split" | .index => "list.index"
/-- how many arguments -/
def mtA : Mt → Nat
  | .pop | .clear | .reverse | .lower | .upper => 0
  | .insert => 2
  | _ => 1
/-- the receiver's kind -/
def mtK (m : Mt) (d : D) (M : Md) : Prop := if mtT m = "list" then (seqOf d M).isSome = true ∧ ∀ es, d ≠ .tup es else ∃ s, d = .str s
/-- a list that may be changed -/
def mutOf (d : D) (M : Md) : Option (Nat × List D) := match d with
  | .ref k => match M[k]? with
    | some (.lst ds) => some (k, ds)
    | _ => none
  | _ => none
/-- the first place of y -/
def idxF (y : D) : List D → Option Nat
  | [] => none
  | d :: ds => if eqF d y = true then some 0 else (idxF y ds).map (· + 1)
theorem idxF_get {y : D} : ∀ {ds : List D} {j : Nat}, idxF y ds = some j → (∃ z, ds[j]? = some z ∧ eqF z y = true) ∧ ∀ m z, m < j → ds[m]? = some z → eqF z y = false
  | [], j, h => by cases h
  | d :: ds, j, h => by
    unfold idxF at h
    split at h
    · next e => cases h; exact ⟨⟨d, rfl, e⟩, fun m z hm => absurd hm (Nat.not_lt_zero m)⟩
    · next e =>
      obtain ⟨i, hi, e2⟩ := Option.map_eq_some_iff.mp h
      subst e2
      obtain ⟨⟨z, hz, e3⟩, h2⟩ := idxF_get hi
      refine ⟨⟨z, by simpa using hz, e3⟩, fun m z hm hz => ?_⟩
      cases m with
      | zero =>
        have hz : d = z := by simpa using hz
        subst hz
        simpa using e
      | succ m => exact h2 m z (by omega) (by simpa using hz)
def mtD (m : Mt) (x : D) (args : List D) (M : Md) (Q : QE) : Prop := match m with
  | .append => match mutOf x M, args with
    | some (k, ds), [d] => ds.length < sizeLine ∧ Q .non (M.set k (.lst (ds ++ [d])))
    | _, _ => False
  | .extend => match mutOf x M, args with
    | some (k, ds), [d] => match lstOf d M with
      | some es => ds.length + es.length ≤ sizeLine ∧ Q .non (M.set k (.lst (ds ++ es)))
      | none => False
    | _, _ => False
  | .pop => match mutOf x M, args with
    | some (k, ds), [] => match ds.getLast? with
      | some d => Q d (M.set k (.lst ds.dropLast))
      | none => False
    | _, _ => False
  | .popAt => match mutOf x M, args with
    | some (k, ds), [.int i] => -(2 ^ 63) ≤ i ∧ i < 2 ^ 63 ∧ match ixN ds.length i with
      | some j => match ds[j]? with
        | some d => Q d (M.set k (.lst (ds.eraseIdx j)))
        | none => False
      | none => False
    | _, _ => False
  | .insert => match mutOf x M, args with
    | some (k, ds), [.int i, d] => ds.length < sizeLine ∧ 0 ≤ i ∧ i < 2 ^ 63 ∧ Q .non (M.set k (.lst (ds.take i.toNat ++ [d] ++ ds.drop i.toNat)))
    | _, _ => False
  | .clear => match mutOf x M, args with
    | some (k, ds), [] => Q .non (M.set k (.lst []))
    | _, _ => False
  | .reverse => match mutOf x M, args with
    | some (k, ds), [] => Q .non (M.set k (.lst ds.reverse))
    | _, _ => False
  | .join => match x, args with
    | .str s, [d] => match (seqOf d M).bind strsOf with
      | some ys => (ys.map (·.length)).sum + ys.length * s.length ≤ 16777216 ∧ Q (.str (Txt.join s ys)) M
      | none => False
    | _, _ => False
  | .find => match x, args with
    | .str s, [.str t] => Q (.int (Txt.find s t)) M
    | _, _ => False
  | .lower => match x, args with
    | .str s, [] => s.length ≤ 5592405 ∧ Q (.str (Txt.lower s)) M
    | _, _ => False
  | .upper => match x, args with
    | .str s, [] => s.length ≤ 5592405 ∧ Q (.str (Txt.upper s)) M
    | _, _ => False
  | .split => match x, args with
    | .str s, [.str t] => (t.length == 0) = false ∧ s.length + 2 ≤ sizeLine ∧ Q (.lst ((Txt.split s t).map D.str)) M
    | _, _ => False
  | .index => match lstOf x M, args with
    | some ds, [y] => flatD y = true ∧ ds.all flatD = true ∧ match idxF y ds with
      | some j => Q (.int j) M
      | none => False
    | _, _ => False
def liM (P : Pm) (m : Mt) : V → List V → Hp → VK → Prop := fun x xs H Q => ∃ w M dx ds Qd, RepM P w M H ∧ RelD P w dx x ∧ RelDs P w ds xs ∧ Lk P w H Qd Q ∧ mtD m dx ds M Qd
theorem mutOf_at {P : Pm} {w : Wd} {M : Md} {H : Hp} (R : RepM P w M H) {d : D} {v : V} {k : Nat} {ds : List D} (r : RelD P w d v) (h : mutOf d M = some (k, ds)) :
    ∃ p vs, v = .ref p ∧ H p = some (.lst vs) ∧ RelDs P w ds vs ∧ w.r[k]? = some p ∧ M[k]? = some (.lst ds) ∧ w.F p = none := by
  cases d with
  | ref j =>
    obtain ⟨p, e, hp⟩ := r
    have h : (match M[j]? with
      | some (.lst ds) => some (j, ds)
      | _ => none) = some (k, ds) := h
    split at h
    · rename_i ds' hm
      cases h
      obtain ⟨hF, vs, e2, hs⟩ := R.cell _ _ p hm hp
      exact ⟨p, vs, e, e2, hs, hp, hm, hF⟩
    · cases h
  | _ => cases h
theorem Lk.put {P : Pm} {w : Wd} {M : Md} {H : Hp} {Qd : QE} {Q : VK} (l : Lk P w H Qd Q) (R : RepM P w M H) {k : Nat} {p : Addr} {ds ds' : List D} {vs' : List V} (hm : M[k]? = some (.lst ds)) (hp : w.r[k]? = some p) (hF : w.F p = none)
    (r' : RelDs P w ds' vs') {d : D} {v : V} (r : RelD P w d v) (q : Qd d (M.set k (.lst ds'))) : Q v (upd H p (.lst vs')) := by
  obtain ⟨R', s⟩ := R.write (o := .lst vs') (m' := .lst ds') hm hF hp .lst ⟨hF, vs', upd_same, r'⟩
  exact l _ _ _ _ _ s R' r q
theorem relDs_strs {P : Pm} {w : Wd} : ∀ ys : List Str, RelDs P w (ys.map D.str) (ys.map V.str)
  | [] => rfl
  | n :: ns => ⟨.str n, _, rfl, rfl, relDs_strs ns⟩
theorem relDs_eraseIdx {P : Pm} {w : Wd} : ∀ {ds : List D} {vs : List V} (i : Nat), RelDs P w ds vs → RelDs P w (ds.eraseIdx i) (vs.eraseIdx i)
  | [], _, _, h => by
    have h : _ = [] := h
    rw [h]; rfl
  | d :: ds, _, 0, ⟨v, r, e, h1, h2⟩ => by rw [e]; exact h2
  | d :: ds, _, i + 1, ⟨v, r, e, h1, h2⟩ => by rw [e]; exact ⟨v, _, rfl, h1, relDs_eraseIdx i h2⟩
theorem ixN_seqIndex {n : Nat} {i : Int} {j : Nat} (h : ixN n i = some j) : seqIndex? i n = some j := (ixN_seq h).1
section
variable {X : Cx} {P : Pm}
theorem mt_sound (hK : P.K = X.K) (m : Mt) : MtR X (mtI m) (liM P m) := by
  intro pins st σ H x xs v us Q I rx rs q
  obtain ⟨w, M, dx, ds, Qd, R, hx, hs, l, q⟩ := q
  cases m with
  | append =>
    simp only [mtD] at q
    split at q
    · rename_i k es d hm
      obtain ⟨p, vs, e1, e2, e3, e4, e5, e6⟩ := mutOf_at R hx hm
      obtain ⟨y, ey, ry⟩ := rel1 hs
      exact mt_append pins st σ H x xs v us Q I rx rs ⟨p, vs, y, e1, ey, e2, by rw [e3.length]; exact q.1, l.put R e5 e4 e6 (e3.append (.cons ry .nil)) (d := .non) rfl q.2⟩
    · exact q.elim
  | extend =>
    simp only [mtD] at q
    split at q
    · rename_i k es d hm
      split at q
      · rename_i fs hl
        obtain ⟨p, vs, e1, e2, e3, e4, e5, e6⟩ := mutOf_at R hx hm
        obtain ⟨y, ey, ry⟩ := rel1 hs
        obtain ⟨p2, vs2, f1, f2, f3⟩ := lstOf_at R ry hl
        exact mt_extend pins st σ H x xs v us Q I rx rs ⟨p, p2, vs, vs2, e1, by rw [ey, f1], e2, f2, by rw [e3.length, f3.length]; exact q.1, l.put R e5 e4 e6 (e3.append f3) (d := .non) rfl q.2⟩
      · exact q.elim
    · exact q.elim
  | pop =>
    simp only [mtD] at q
    split at q
    · rename_i k es hm
      split at q
      · rename_i d hd
        obtain ⟨p, vs, e1, e2, e3, e4, e5, e6⟩ := mutOf_at R hx hm
        have hs : xs = [] := hs
        rw [List.getLast?_eq_getElem?] at hd
        obtain ⟨y, hy, ry⟩ := e3.get hd
        refine mt_pop pins st σ H x xs v us Q I rx rs ⟨p, vs, y, e1, hs, e2, by rw [e3.length]; exact hy, l.put R e5 e4 e6 ?_ ry q⟩
        rw [List.dropLast_eq_take, List.dropLast_eq_take, e3.length]
        exact e3.take _
      · exact q.elim
    · exact q.elim
  | popAt =>
    simp only [mtD] at q
    split at q
    · rename_i k es i hm
      obtain ⟨q1, q2, q⟩ := q
      split at q
      · rename_i j hj
        split at q
        · rename_i d hd
          obtain ⟨p, vs, e1, e2, e3, e4, e5, e6⟩ := mutOf_at R hx hm
          obtain ⟨z, ez, rz⟩ := rel1 hs
          have rz : z = .int i := rz
          obtain ⟨y, hy, ry⟩ := e3.get hd
          exact mt_popAt pins st σ H x xs v us Q I rx rs ⟨p, vs, i, j, y, e1, by rw [ez, rz], e2, q1, q2, by rw [e3.length]; exact ixN_seqIndex hj, hy, l.put R e5 e4 e6 (relDs_eraseIdx j e3) ry q⟩
        · exact q.elim
      · exact q.elim
    · exact q.elim
  | insert =>
    simp only [mtD] at q
    split at q
    · rename_i k es i d hm
      obtain ⟨q1, q2, q3, q⟩ := q
      obtain ⟨p, vs, e1, e2, e3, e4, e5, e6⟩ := mutOf_at R hx hm
      obtain ⟨z, y, ez, rz, ry⟩ := rel2 hs
      have rz : z = .int i := rz
      exact mt_insert pins st σ H x xs v us Q I rx rs ⟨p, vs, i, y, e1, by rw [ez, rz], e2, by rw [e3.length]; exact q1, q2, q3, l.put R e5 e4 e6 (((e3.take _).append (.cons ry .nil)).append (e3.drop _)) (d := .non) rfl q⟩
    · exact q.elim
  | clear =>
    simp only [mtD] at q
    split at q
    · rename_i k es hm
      obtain ⟨p, vs, e1, e2, e3, e4, e5, e6⟩ := mutOf_at R hx hm
      have hs : xs = [] := hs
      exact mt_clear pins st σ H x xs v us Q I rx rs ⟨p, vs, e1, hs, e2, l.put R e5 e4 e6 .nil (d := .non) rfl q⟩
    · exact q.elim
  | reverse =>
    simp only [mtD] at q
    split at q
    · rename_i k es hm
      obtain ⟨p, vs, e1, e2, e3, e4, e5, e6⟩ := mutOf_at R hx hm
      have hs : xs = [] := hs
      exact mt_reverse pins st σ H x xs v us Q I rx rs ⟨p, vs, e1, hs, e2, l.put R e5 e4 e6 e3.reverse (d := .non) rfl q⟩
    · exact q.elim
  | join =>
    simp only [mtD] at q
    split at q
    · rename_i s d
      split at q
      · rename_i ys hys
        obtain ⟨es, hes, hst⟩ := Option.bind_eq_some_iff.mp hys
        obtain ⟨y, ey, ry⟩ := rel1 hs
        obtain ⟨p, vs, e1, e2, e3⟩ := seqOf_at R ry hes
        rw [strsOf_at e3 hst] at e2
        exact mt_join pins st σ H x xs v us Q I rx rs ⟨s, p, ys, hx, by rw [ey, e1], hK ▸ e2, q.1, l.same R (d := .str _) rfl q.2⟩
      · exact q.elim
    · exact q.elim
  | find =>
    simp only [mtD] at q
    split at q
    · rename_i s t
      obtain ⟨y, ey, ry⟩ := rel1 hs
      have ry : y = .str t := ry
      exact mt_find pins st σ H x xs v us Q I rx rs ⟨s, t, hx, by rw [ey, ry], l.same R (d := .int _) rfl q⟩
    · exact q.elim
  | lower =>
    simp only [mtD] at q
    split at q
    · rename_i s
      have hs : xs = [] := hs
      exact mt_lower pins st σ H x xs v us Q I rx rs ⟨s, hx, hs, q.1, l.same R (d := .str _) rfl q.2⟩
    · exact q.elim
  | upper =>
    simp only [mtD] at q
    split at q
    · rename_i s
      have hs : xs = [] := hs
      exact mt_upper pins st σ H x xs v us Q I rx rs ⟨s, hx, hs, q.1, l.same R (d := .str _) rfl q.2⟩
    · exact q.elim
  | split =>
    simp only [mtD] at q
    split at q
    · rename_i s t
      obtain ⟨y, ey, ry⟩ := rel1 hs
      have ry : y = .str t := ry
      exact mt_split pins st σ H x xs v us Q I rx rs ⟨s, t, hx, by rw [ey, ry], q.1, q.2.1, fun p hp => l.lst R (relDs_strs _) hp q.2.2⟩
    · exact q.elim
  | index =>
    simp only [mtD] at q
    split at q
    · rename_i ds y hl
      obtain ⟨q1, q2, q⟩ := q
      split at q
      · rename_i j hj
        obtain ⟨p, vs, e1, e2, e3⟩ := lstOf_at R hx hl
        obtain ⟨y', ey, ry⟩ := rel1 hs
        obtain ⟨⟨z, hz, e4⟩, h5⟩ := idxF_get hj
        have fl : ∀ {m : Nat} {d : D}, ds[m]? = some d → flatD d = true := fun h => List.all_eq_true.mp q2 _ (List.mem_of_getElem? h)
        obtain ⟨v', hv, rv⟩ := e3.get hz
        refine mt_index pins st σ H x xs v us Q I rx rs ⟨p, vs, y', j, v', e1, ey, SqL.of e2, flat_at ry q1, flats_at e3 q2, hv, by rw [eqF_at rv ry (fl hz) q1]; exact e4, fun m z' hm hz' => ?_, l.same R (d := .int _) rfl q⟩
        have hm2 : m < ds.length := by
          have := (List.getElem?_eq_some_iff.mp hz').1
          rw [e3.length] at this; exact this
        obtain ⟨v2, hv2, rv2⟩ := e3.get (List.getElem?_eq_getElem hm2)
        rw [hz'] at hv2; cases hv2
        rw [eqF_at rv2 ry (fl (List.getElem?_eq_getElem hm2)) q1]
        exact h5 m _ hm (List.getElem?_eq_getElem hm2)
      · exact q.elim
    · exact q.elim
theorem mt_pa (m : Mt) : PlainAttrs (mtT m) := by cases m <;> first | exact PySem.F.plainAttrs_list | exact PySem.F.plainAttrs_str
theorem mt_slot (m : Mt) : Slot (mtT m) (mtN m) (mtI m) := by
  cases m
  · exact PySem.F.slot_list_append
  · exact PySem.F.slot_list_extend
  · exact PySem.F.slot_list_pop
  · exact PySem.F.slot_list_pop
  · exact PySem.F.slot_list_insert
  · exact PySem.F.slot_list_clear
  · exact PySem.F.slot_list_reverse
  · exact PySem.F.slot_str_join
  · exact PySem.F.slot_str_find
  · exact PySem.F.slot_str_lower
  · exact PySem.F.slot_str_upper
  · exact PySem.F.slot_str_split
  · exact PySem.F.slot_list_index
theorem mt_type (m : Mt) : typeOf (.builtin (mtI m)) = pure (.type "method_descriptor") := by
  cases m
  · exact PySem.F.type_list_append
  · exact PySem.F.type_list_extend
  · exact PySem.F.type_list_pop
  · exact PySem.F.type_list_pop
  · exact PySem.F.type_list_insert
  · exact PySem.F.type_list_clear
  · exact PySem.F.type_list_reverse
  · exact PySem.F.type_str_join
  · exact PySem.F.type_str_find
  · exact PySem.F.type_str_lower
  · exact PySem.F.type_str_upper
  · exact PySem.F.type_str_split
  · exact PySem.F.type_list_index
theorem mtK_at (hK : P.K = X.K) {w : Wd} {M : Md} {H : Hp} (R : RepM P w M H) {m : Mt} {d : D} {v : V} (r : RelD P w d v) (h : mtK m d M) : tyV X.K (mtT m) v H := by
  unfold mtK at h
  split at h
  · rename_i e
    rw [e]
    obtain ⟨h1, h2⟩ := h
    obtain ⟨ds, hds⟩ := Option.isSome_iff_exists.mp h1
    obtain ⟨p, vs, e1, e2, _⟩ := seqL_at R r hds h2
    subst e1
    exact .inl ⟨rfl, vs, hK ▸ e2⟩
  · rename_i e
    obtain ⟨s, e1⟩ := h
    subst e1
    have r : v = .str s := r
    subst r
    show mtT m = "str"
    cases m <;> first | rfl | exact absurd rfl e
end
end DL

/-! DL: code with its reading, its check against the text, the soundness of both -/
namespace DL
open PySem L2

/-- values of defaults -/
inductive Sc where | non | bl (b : Bool) | int (i : Int) | str (s : Str)
  deriving DecidableEq
def Sc.d : Sc → D
  | .non => .non | .bl b => .bl b | .int i => .int i | .str s => .str s
def Sc.v : Sc → V
  | .non => .non | .bl b => .bl b | .int i => .int i | .str s => .str s
inductive Tg where
  | nm (i : Nat) | tp (is : List Nat)
mutual
inductive CE where
  | var (i : Nat) | int (i : Int) | str (s : Str) | bl (b : Bool) | non
  | glob (g : Nat)
  | bin (o : Op) (a b : CE)
  | neg (a : CE) | not (a : CE)
  | and (a b : CE) | or (a b : CE)
  | cmp (c : Cp) (a b : CE)
  | chain (c1 c2 : Cp) (a b d : CE)
  | ife (c a b : CE)
  | tup (es : CEs) | lst (m : Bool) (es : CEs)
  | idx (a b : CE)
  | slc (m : Bool) (a : CE) (lo hi : CO)
  | call (f : Nat) (es : CEs)
  | blt (b : Bt) (es : CEs)
  | mth (m : Mt) (o : CE) (es : CEs)
  | comp (m : Bool) (elt : CE) (t : Tg) (it : CI) (ifs : CO) (own : List Nat)
  | dnew | dnewT
  | dlit (ks : List Str) (es : CEs)
  | dget (o k x : CE)
  | listRg (m : Bool) (a : CE)
  | fld (c : Str) (a : CE) (f : Str)
  | make (m : Bool) (n : Nat) (c : Str) (es : CEs)
  | meth (c m : Str) (n : Nat) (o : CE) (es : CEs)
  | rev (m : Bool) (a : CE)
  | calln (i n : Nat) (js : List Nat) (es : CEs)
  | callK (f j : Nat) (es : CEs) (ks : List Str) (zs : CEs) (df : List Sc)
  | makeK (m : Bool) (n : Nat) (c : Str) (j : Nat) (es : CEs) (ks : List Str) (zs : CEs) (df : List Sc)
  | methK (c m : Str) (n : Nat) (o : CE) (j : Nat) (es : CEs) (ks : List Str) (zs : CEs) (df : List Sc)
inductive CEs where
  | nil | cons (e : CE) (es : CEs)
inductive CO where
  | none | some (e : CE)
inductive CI where
  | seq (e : CE) | rng1 (a : CE) | rng2 (a b : CE) | chars (e : CE)
end
mutual
inductive CS where
  | setFld (c : Str) (o : CE) (f : Str) (v : CE)
  | set (i : Nat) (e : CE) | setT (is : List Nat) (e : CE) | setIx (o i v : CE)
  | setP (is : List Nat) (es : CEs) | setTF (cf : List (Str × Str)) (os : CEs) (e : CE) | aug (i : Nat) (e : CE) | augF (c : Str) (o : CE) (f : Str) (e : CE)
  | expr (e : CE) | ret (e : CE) | retN | pass | brk | cont | never
  | ifs (c : CE) (a b : CSs) | fors (t : Tg) (it : CI) (body : CSs) | whil (c : CE) (body : CSs)
inductive CSs where
  | nil | cons (s : CS) (r : CSs)
end

/-- a field of an instance of class c -/
def fldD (c : Str) (f : Str) (d : D) (M : Md) (Q : QE) : Prop := match d with
  | .ref k => match M[k]? with
    | some (.ins c' fs) => c' = c ∧ match fs.lookup f with
      | some x => Q x M
      | none => False
    | _ => False
  | .obj c' ns ds => c' = c ∧ match (ns.zip ds).lookup f with
    | some x => Q x M
    | none => False
  | _ => False
/-- an instance of class c without a field m -/
def objD (c m : Str) (d : D) (M : Md) : Prop := match d with
  | .ref k => match M[k]? with
    | some (.ins c' fs) => c' = c ∧ (fs.map (·.1)).contains m = false
    | _ => False
  | .obj c' ns _ => c' = c ∧ ns.contains m = false
  | _ => False
def putFD (f : Str) (v : D) : List (Str × D) → List (Str × D)
  | [] => [(f, v)]
  | (g, x) :: r => if g = f then (g, v) :: r else (g, x) :: putFD f v r
def setFD (c : Str) (f : Str) (x d : D) (M : Md) (Q : Md → Prop) : Prop := match x with
  | .ref k => match M[k]? with
    | some (.ins c' fs) => c' = c ∧ fs.length < 1000 ∧ Q (M.set k (.ins c (putFD f d fs)))
    | _ => False
  | _ => False
/-! ### readings -/
abbrev RE := EX → Std → Md → QE → Prop
abbrev RT := EX → Std → Md → (Bool → Md → Prop) → Prop
abbrev RA := EX → Std → Md → (List D → Md → Prop) → Prop
abbrev RO := EX → Std → Md → (Option Int → Md → Prop) → Prop
/-- what is walked: its items; the changing list that must stay as it is -/
abbrev RI := EX → Std → Md → (List D → Option Nat → Md → Prop) → Prop
/-- a function made here stands at k: the nested def n -/
def isFn (M : Md) (k n : Nat) : Prop := match M[k]? with
  | some (.fn _ m _ _) => m = n
  | _ => False
/-- what the captured names hold -/
def capsD (σ : Std) : List Nat → Option (List D)
  | [] => some []
  | j :: js => match σ[j]?, capsD σ js with
    | some (some d), some ds => some (d :: ds)
    | _, _ => none
abbrev SpD := List D → Md → QE → EX → Prop
structure EndsD where
  nx : Std → Md → Prop
  rt : QE
  bk : Std → Md → Prop
  ct : Std → Md → Prop
abbrev EXS := XD → Std → Md → Prop
abbrev RS := EXS → EndsD → Std → Md → Prop

def lkOk (lk : Option Nat) (all : List D) (M : Md) : Prop := match lk with
  | none => True
  | some k => M[k]? = some (.lst all)
/-- the changing list that is walked -/
def lkOf : D → Option Nat
  | .ref k => some k
  | _ => none
def setAll : Std → List Nat → List D → Std
  | σ, i :: is, d :: ds => setAll (σ.set i (some d)) is ds
  | σ, _, _ => σ
def asgT (t : Tg) (d : D) (σ : Std) (M : Md) (Q : Std → Md → Prop) : Prop := match t with
  | .nm i => Q (σ.set i (some d)) M
  | .tp is => match d with
    | .tup ds => ds.length = is.length ∧ Q (setAll σ is ds) M
    | _ => False
def wipeD (σ : Std) : List Nat → Std
  | [] => σ
  | v :: vs => (wipeD σ vs).set v none
/-- a dict's value at a key, or another -/
def dgetD (d y z : D) (M : Md) (Q : QE) : Prop := match d with
  | .ref k => match M[k]? with
    | some (.dct kvs) => match keyD y with
      | some ky => Q ((dctVal kvs ky).getD z) M
      | none => False
    | _ => False
  | _ => False
def isDct (d : D) (M : Md) : Prop := ∃ k kvs, d = .ref k ∧ M[k]? = some (.dct kvs)
/-- texts as keys, one behind another -/
def dlitP : List Str → List D → List (Option Key × D) → List (Option Key × D)
  | k :: ks, d :: ds, acc => dlitP ks ds (dctPut acc (some (.inr k)) d)
  | _, _, acc => acc
def valT (v : RE) : RE × RT := (v, fun E σ M Q => v E σ M fun d M1 => truD d M1 fun k => Q k M1)
def tstT (t : RT) : RE × RT := (fun E σ M Q => t E σ M fun k M1 => Q (.bl k) M1, t)
/-- [elt for t in xs if ..] -/
def compD (lk : Option Nat) (all : List D) (asg : D → (Std → Md → Prop) → Md → Prop) (tst : Std → Md → (Bool → Md → Prop) → Prop) (elt : Std → Md → QE → Prop) (Q : List D → Md → Prop) : List D → List D → Md → Prop
  | [], acc, M => lkOk lk all M ∧ Q acc M
  | d :: ds, acc, M => lkOk lk all M ∧ asg d (fun σ1 M1 => tst σ1 M1 fun k M2 => if k = true then elt σ1 M2 fun y M3 => acc.length < sizeLine ∧ compD lk all asg tst elt Q ds (acc ++ [y]) M3 else compD lk all asg tst elt Q ds acc M2) M
/-- a text's characters, each a text -/
def charsD (s : Str) : List D := s.cps.toList.map fun c => D.str ⟨#[c]⟩
def rngD (a b : Int) : List D := (List.range (b - a).toNat).map fun i => D.int (a + (i : Nat))
section
variable (Φ : Nat → SpD) (κ : Nat → D)
mutual
def rd : CE → RE × RT
  | .var i => valT fun _ σ M Q => match σ[i]? with
    | some (some d) => Q d M
    | _ => False
  | .int i => valT fun _ _ M Q => Q (.int i) M
  | .str s => valT fun _ _ M Q => Q (.str s) M
  | .bl b => valT fun _ _ M Q => Q (.bl b) M
  | .non => valT fun _ _ M Q => Q .non M
  | .glob g => valT fun _ _ M Q => Q (κ g) M
  | .bin o a b => valT fun E σ M Q => (rd a).1 E σ M fun x M1 => (rd b).1 E σ M1 fun y M2 => opD o x y M2 Q
  | .neg a => valT fun E σ M Q => (rd a).1 E σ M fun x M1 => match x with
    | .int i => Q (.int (-i)) M1
    | _ => False
  | .not a => (fun E σ M Q => (rd a).1 E σ M fun x M1 => truD x M1 fun k => Q (.bl (!k)) M1, fun E σ M Q => (rd a).2 E σ M fun k M1 => Q (!k) M1)
  | .and a b => (fun E σ M Q => (rd a).1 E σ M fun x M1 => truD x M1 fun k => if k = true then (rd b).1 E σ M1 Q else Q x M1, fun E σ M Q => (rd a).2 E σ M fun k M1 => if k = true then (rd b).2 E σ M1 Q else Q false M1)
  | .or a b => (fun E σ M Q => (rd a).1 E σ M fun x M1 => truD x M1 fun k => if k = true then Q x M1 else (rd b).1 E σ M1 Q, fun E σ M Q => (rd a).2 E σ M fun k M1 => if k = true then Q true M1 else (rd b).2 E σ M1 Q)
  | .cmp c a b => tstT fun E σ M Q => (rd a).1 E σ M fun x M1 => (rd b).1 E σ M1 fun y M2 => cpD c x y M2 fun k => Q k M2
  | .chain c1 c2 a b d => tstT fun E σ M Q => (rd a).1 E σ M fun x M1 => (rd b).1 E σ M1 fun y M2 => cpD c1 x y M2 fun k => if k = true then (rd d).1 E σ M2 fun z M3 => cpD c2 y z M3 fun k => Q k M3 else Q false M2
  | .ife c a b => (fun E σ M Q => (rd c).2 E σ M fun k M1 => if k = true then (rd a).1 E σ M1 Q else (rd b).1 E σ M1 Q, fun _ _ _ _ => False)
  | .tup es => valT fun E σ M Q => rds es E σ M fun ds M1 => ds.length ≤ sizeLine ∧ Q (.tup ds) M1
  | .lst m es => valT fun E σ M Q => rds es E σ M fun ds M1 => ds.length ≤ sizeLine ∧ if m = true then Q (.ref M1.length) (M1 ++ [.lst ds]) else Q (.lst ds) M1
  | .idx a b => valT fun E σ M Q => (rd a).1 E σ M fun x M1 => (rd b).1 E σ M1 fun y M2 => ixD x y M2 Q
  | .slc m a lo hi => valT fun E σ M Q => (rd a).1 E σ M fun x M1 => rdo lo E σ M1 fun l M2 => rdo hi E σ M2 fun h M3 => slD m x l h M3 Q
  | .call f es => valT fun E σ M Q => rds es E σ M fun ds M1 => Φ f ds M1 Q E
  | .blt b es => valT fun E σ M Q => rds es E σ M fun ds M1 => btD b ds M1 Q
  | .mth m o es => valT fun E σ M Q => (rd o).1 E σ M fun x M1 => mtK m x M1 ∧ rds es E σ M1 fun ds M2 => mtD m x ds M2 Q
  | .comp m elt t it ifs own => valT fun E σ M Q => rdi it E σ M fun ds lk M1 =>
      compD lk ds (fun d k M => asgT t d (wipeD σ own) M k) (fun σ M Q => rdt ifs (fun _ _ => False) σ M Q) (fun σ M Q => (rd elt).1 (fun _ _ => False) σ M Q) (fun acc M => if m = true then Q (.ref M.length) (M ++ [.lst acc]) else Q (.lst acc) M) ds [] M1
  | .dnew => valT fun _ _ M Q => Q (.ref M.length) (M ++ [.dct []])
  | .dnewT => valT fun _ _ M Q => Q (.ref M.length) (M ++ [.dctT []])
  | .dget o k x => valT fun E σ M Q => (rd o).1 E σ M fun d M1 => isDct d M1 ∧ (rd k).1 E σ M1 fun y M2 => (rd x).1 E σ M2 fun z M3 => dgetD d y z M3 Q
  | .dlit ks es => valT fun E σ M Q => rds es E σ (M ++ [.dct []]) fun ds M1 => M1[M.length]? = some (.dct []) ∧ Q (.ref M.length) (M1.set M.length (.dct (dlitP ks ds [])))
  | .listRg m a => valT fun E σ M Q => (rd a).1 E σ M fun d M1 => match d with
    | .int j => -(2 ^ 62) ≤ j ∧ j ≤ 16777216 ∧ if m = true then Q (.ref M1.length) (M1 ++ [.lst (rngD 0 j)]) else Q (.lst (rngD 0 j)) M1
    | _ => False
  | .fld c a f => valT fun E σ M Q => (rd a).1 E σ M fun d M1 => fldD c f d M1 Q
  | .make m n c es => valT fun E σ M Q => rds es E σ M fun ds M1 => Φ n (.ref M1.length :: ds) (M1 ++ [.ins c []]) (fun d M2 => d = .non ∧ if m = true then Q (.ref M1.length) M2 else ∃ fs, M2 = M1 ++ [.ins c fs] ∧ RLtM M1.length (.ins c fs) ∧ Q (.obj c (fs.map (·.1)) (fs.map (·.2))) M1) E
  | .rev m a => valT fun E σ M Q => (rd a).1 E σ M fun x M1 => match lstOf x M1 with
    | some ds => if m = true then Q (.ref M1.length) (M1 ++ [.lst ds.reverse]) else Q (.lst ds.reverse) M1
    | none => False
  | .calln i n js es => valT fun E σ M Q => match σ[i]?, capsD σ js with
    | some (some (.ref k)), some cs => isFn M k n ∧ rds es E σ M fun ds M1 => isFn M1 k n ∧ Φ n (.ref k :: (cs ++ ds)) M1 Q E
    | _, _ => False
  | .meth c m n o es => valT fun E σ M Q => (rd o).1 E σ M fun x M1 => objD c m x M1 ∧ rds es E σ M1 fun ds M2 => Φ n (x :: ds) M2 Q E
  | .callK f j es ks zs df => valT fun E σ M Q => rds es E σ M fun ds M1 => ds.length = j ∧ rds zs E σ M1 fun us M2 => us.length = ks.length ∧ Φ f (ds ++ (us ++ df.map Sc.d)) M2 Q E
  | .makeK m n c j es ks zs df => valT fun E σ M Q => rds es E σ M fun ds M0 => ds.length = j ∧ rds zs E σ M0 fun us M1 => us.length = ks.length ∧ Φ n (.ref M1.length :: (ds ++ (us ++ df.map Sc.d))) (M1 ++ [.ins c []]) (fun d M2 => d = .non ∧ if m = true then Q (.ref M1.length) M2 else ∃ fs, M2 = M1 ++ [.ins c fs] ∧ RLtM M1.length (.ins c fs) ∧ Q (.obj c (fs.map (·.1)) (fs.map (·.2))) M1) E
  | .methK c m n o j es ks zs df => valT fun E σ M Q => (rd o).1 E σ M fun x M1 => objD c m x M1 ∧ rds es E σ M1 fun ds M2 => ds.length = j ∧ rds zs E σ M2 fun us M3 => us.length = ks.length ∧ Φ n (x :: (ds ++ (us ++ df.map Sc.d))) M3 Q E
def rds : CEs → RA
  | .nil => fun _ _ M Q => Q [] M
  | .cons e es => fun E σ M Q => (rd e).1 E σ M fun d M1 => rds es E σ M1 fun ds M2 => Q (d :: ds) M2
def rdo : CO → RO
  | .none => fun _ _ M Q => Q none M
  | .some e => fun E σ M Q => (rd e).1 E σ M fun d M1 => match d with
    | .int i => Q (some i) M1
    | _ => False
/-- a comprehension's test -/
def rdt : CO → RT
  | .none => fun _ _ M Q => Q true M
  | .some e => (rd e).2
def rdi : CI → RI
  | .seq e => fun E σ M Q => (rd e).1 E σ M fun d M1 => match seqOf d M1 with
    | some ds => Q ds (lkOf d) M1
    | none => False
  | .chars e => fun E σ M Q => (rd e).1 E σ M fun d M1 => match d with
    | .str s => Q (charsD s) none M1
    | _ => False
  | .rng1 a => fun E σ M Q => (rd a).1 E σ M fun d M1 => match d with
    | .int j => -(2 ^ 62) ≤ j ∧ j < 2 ^ 62 ∧ Q (rngD 0 j) none M1
    | _ => False
  | .rng2 a b => fun E σ M Q => (rd a).1 E σ M fun d M1 => (rd b).1 E σ M1 fun e M2 => match d, e with
    | .int i, .int j => -(2 ^ 62) ≤ i ∧ i < 2 ^ 62 ∧ -(2 ^ 62) ≤ j ∧ j < 2 ^ 62 ∧ Q (rngD i j) none M2
    | _, _ => False
end
abbrev rE (c : CE) : RE := (rd Φ κ c).1
abbrev rT (c : CE) : RT := (rd Φ κ c).2
/-- fields set one behind another -/
def setTFd (E : EX) (σ : Std) : List (Str × Str) → CEs → List D → Md → (Md → Prop) → Prop
  | [], .nil, [], M, Q => Q M
  | (c, f) :: r, .cons o os, d :: ds, M, Q => rE Φ κ o E σ M fun x M1 => setFD c f x d M1 fun M2 => setTFd E σ r os ds M2 Q
  | _, _, _, _, _ => False
def isRef : D → Prop
  | .ref _ => True
  | _ => False
def addI (x y : D) (Q : D → Prop) : Prop := match x, y with
  | .int a, .int b => Q (.int (a + b))
  | _, _ => False
/-- a for's turns -/
def loopD (lk : Option Nat) (all : List D) (asg : D → Std → Md → (Std → Md → Prop) → Prop) (body : EndsD → Std → Md → Prop) (K : EndsD) : List D → Std → Md → Prop
  | [], σ, M => lkOk lk all M ∧ K.nx σ M
  | d :: ds, σ, M => lkOk lk all M ∧ asg d σ M fun σ1 M1 => body { nx := loopD lk all asg body K ds, rt := K.rt, bk := K.nx, ct := loopD lk all asg body K ds } σ1 M1
/-- a while, n turns at most -/
def whilD (tst : Std → Md → (Bool → Md → Prop) → Prop) (body : EndsD → Std → Md → Prop) (K : EndsD) : Nat → Std → Md → Prop
  | 0, _, _ => False
  | n + 1, σ, M => tst σ M fun k M1 => if k = true then body { nx := whilD tst body K n, rt := K.rt, bk := K.nx, ct := whilD tst body K n } σ M1 else K.nx σ M1
mutual
def rS : CS → RS
  | .setFld c o f v => fun E K σ M => rE Φ κ v (fun x => E x σ) σ M fun d M1 => rE Φ κ o (fun x => E x σ) σ M1 fun x M2 => setFD c f x d M2 fun M' => K.nx σ M'
  | .set i e => fun E K σ M => rE Φ κ e (fun x => E x σ) σ M fun d M1 => K.nx (σ.set i (some d)) M1
  | .setT is e => fun E K σ M => rE Φ κ e (fun x => E x σ) σ M fun d M1 => asgT (.tp is) d σ M1 K.nx
  | .setP is es => fun E K σ M => rds Φ κ es (fun x => E x σ) σ M fun ds M1 => ds.length = is.length ∧ K.nx (setAll σ is ds) M1
  | .setTF cf os e => fun E K σ M => rE Φ κ e (fun x => E x σ) σ M fun d M1 => match d with
    | .tup ds => ds.length = cf.length ∧ setTFd Φ κ (fun x => E x σ) σ cf os ds M1 fun M2 => K.nx σ M2
    | _ => False
  | .aug i e => fun E K σ M => match σ[i]? with
    | some (some x) => rE Φ κ e (fun x => E x σ) σ M fun y M1 => addI x y fun z => K.nx (σ.set i (some z)) M1
    | _ => False
  | .augF c o f e => fun E K σ M => rE Φ κ o (fun x => E x σ) σ M fun x M1 => isRef x ∧ fldD c f x M1 fun v M2 => rE Φ κ e (fun x => E x σ) σ M2 fun y M3 => addI v y fun z => setFD c f x z M3 fun M' => K.nx σ M'
  | .setIx o i v => fun E K σ M => rE Φ κ v (fun x => E x σ) σ M fun d M1 => rE Φ κ o (fun x => E x σ) σ M1 fun x M2 => rE Φ κ i (fun x => E x σ) σ M2 fun y M3 => match x with
    | .ref k => match M3[k]?, y with
      | some (.lst ds), .int j => match ixN ds.length j with
        | some j => K.nx σ (M3.set k (.lst (ds.set j d)))
        | none => False
      | some (.dct kvs), y => match keyD y with
        | some ky => kvs.length < sizeLine ∧ K.nx σ (M3.set k (.dct (dctPut kvs ky d)))
        | none => False
      | some (.dctT kvs), y => match tKey y with
        | some ky => kvs.length < sizeLine ∧ K.nx σ (M3.set k (.dctT (dctPutT kvs y ky d)))
        | none => False
      | _, _ => False
    | _ => False
  | .expr e => fun E K σ M => rE Φ κ e (fun x => E x σ) σ M fun _ M1 => K.nx σ M1
  | .ret e => fun E K σ M => rE Φ κ e (fun x => E x σ) σ M K.rt
  | .retN => fun _ K _ M => K.rt .non M
  | .pass => fun _ K σ M => K.nx σ M
  | .never => fun _ _ _ _ => False
  | .brk => fun _ K σ M => K.bk σ M
  | .cont => fun _ K σ M => K.ct σ M
  | .ifs c a b => fun E K σ M => rT Φ κ c (fun x => E x σ) σ M fun k M1 => if k = true then rSs a E K σ M1 else rSs b E K σ M1
  | .fors t it body => fun E K σ M => rdi Φ κ it (fun x => E x σ) σ M fun ds lk M1 => loopD lk ds (asgT t) (rSs body E) K ds σ M1
  | .whil c body => fun E K σ M => ∃ n, whilD (fun σ M Q => rT Φ κ c (fun x => E x σ) σ M Q) (rSs body E) K n σ M
def rSs : CSs → RS
  | .nil => fun _ K σ M => K.nx σ M
  | .cons s r => fun E K σ M => rS s E { K with nx := rSs r E K } σ M
end
end

def tgIdx : Tg → List Nat
  | .nm i => [i]
  | .tp is => is

/-! ### the check against the text -/
inductive GD where
  | fn (f : Nat) | cst (g : Nat)
structure Ctx where
  N : List Str
  sc : Scope
  fn : Str → Bool
  G : List (Str × GD)
  B : List Str
  FL : List (Str × Str) := []
  MK : List (Str × Nat × Str) := []
  MT : List (Str × Str × Nat) := []
  KF : List (Str × Nat × Nat × List Str × List Sc) := []
  KM : List (Str × (Nat × Str) × Nat × List Str × List Sc) := []
  KT : List ((Str × Str) × Nat × Nat × List Str × List Sc) := []
  NS : List (Nat × List Nat) := []
def Ctx.blk (C : Ctx) (scope : Scope) : Ctx := { C with NS := [], sc := relS scope C.sc, fn := fun x => scope.names.lookup x == some .cell }
def nodbg (x : Str) : Bool := !(x == ("__debug__" : Str)) && !(x == ("__classdict__" : Str))
def okVar (C : Ctx) (i : Nat) (x : Str) : Bool := (C.N[i]? == some x) && nodbg x && (match C.sc.names.lookup x with
  | some .local => true
  | some .cell => true
  | some .free => true
  | _ => false)
def okTgt (C : Ctx) (i : Nat) (x : Str) : Bool := (C.N[i]? == some x) && (match C.sc.names.lookup x with
  | some .local => true
  | some .cell => C.fn x
  | _ => false)
def okGlob (C : Ctx) (x : Str) : Bool := nodbg x && (C.sc.names.lookup x == some .globalImplicit)
def okBlt (C : Ctx) (n x : Str) : Bool := (x == n) && okGlob C x && C.B.contains x && !(x == ("__name__" : Str))
def okTg (C : Ctx) : Tg → Expr → Bool
  | .nm i, .Name x _ => okTgt C i x
  | .tp is, .Tuple es _ _ => go is es
  | _, _ => false
where go : List Nat → List Expr → Bool
  | [], [] => true
  | i :: is, .Name x _ :: es => okTgt C i x && go is es
  | _, _ => false
def btN : Bt → Str
  | .len => "len" | .list => "list" | .listM => "list" | .tuple => "tuple" | .max2 => "max" | .min2 => "min" | .int => "int" | .sorted => "sorted" | .sortedM => "sorted"
  | .sum => "sum" | .ord => "ord" | .str => "str" | .any => "any" | .all => "all" | .isi _ => "isinstance"
def noStar : Expr → Bool
  | .Starred .. => false
  | _ => true
def plainE : Expr → Bool
  | .Starred .. => false
  | .Slice .. => false
  | .Set .. => false
  | _ => true
def notComp : Expr → Bool
  | .ListComp .. => false
  | .SetComp .. => false
  | .DictComp .. => false
  | _ => true
def notTuple : Expr → Bool
  | .Tuple .. => false
  | _ => true
def notCallName : Expr → Bool
  | .Call (.Name _ _) [] [] _ => false
  | _ => true
mutual
def chkE (C : Ctx) : CE → Expr → Bool
  | .var i, e => match e with
    | .Name x _ => okVar C i x
    | _ => false
  | .int i, e => match e with
    | .Constant (.int j) _ _ => i == j
    | _ => false
  | .str s, e => match e with
    | .Constant (.str t) _ _ => s == t
    | _ => false
  | .bl b, e => match e with
    | .Constant (.bool c) _ _ => b == c
    | _ => false
  | .non, e => match e with
    | .Constant .none _ _ => true
    | _ => false
  | .glob g, e => match e with
    | .Name x _ => okGlob C x && (match C.G.lookup x with
      | some (.cst h) => g == h
      | _ => false)
    | _ => false
  | .bin o a b, e => match e with
    | .BinOp l p r _ => (p == opO o) && chkE C a l && chkE C b r
    | _ => false
  | .neg a, e => match e with
    | .UnaryOp .USub x _ => chkE C a x
    | _ => false
  | .not a, e => match e with
    | .UnaryOp .Not x _ => chkE C a x
    | _ => false
  | .and a b, e => match e with
    | .BoolOp .And (x :: y :: rest) pos => chkE C a x && (match rest with
      | [] => chkE C b y
      | z :: rest => chkE C b (.BoolOp .And (y :: z :: rest) pos))
    | _ => false
  | .or a b, e => match e with
    | .BoolOp .Or (x :: y :: rest) pos => chkE C a x && (match rest with
      | [] => chkE C b y
      | z :: rest => chkE C b (.BoolOp .Or (y :: z :: rest) pos))
    | _ => false
  | .cmp c a b, e => match e with
    | .Compare l [op] [r] _ => (op == cpO c) && plainE r && chkE C a l && chkE C b r
    | _ => false
  | .chain c1 c2 a b d, e => match e with
    | .Compare l [op, op2] [r, r2] _ => (op == cpO c1) && (op2 == cpO c2) && plainE r && plainE r2 && chkE C a l && chkE C b r && chkE C d r2
    | _ => false
  | .ife c a b, e => match e with
    | .IfExp x y z _ => chkE C c x && chkE C a y && chkE C b z
    | _ => false
  | .tup es, e => match e with
    | .Tuple xs _ _ => chkEs C es xs
    | _ => false
  | .lst _ es, e => match e with
    | .List xs _ => chkEs C es xs
    | _ => false
  | .idx a b, e => match e with
    | .Subscript x y _ => plainE y && chkE C a x && chkE C b y
    | _ => false
  | .slc _ a lo hi, e => match e with
    | .Subscript x (.Slice l h none _) _ => chkE C a x && chkO C lo l && chkO C hi h
    | _ => false
  | .call f es, e => match e with
    | .Call (.Name x _) ys [] _ => okGlob C x && (match C.G.lookup x with
      | some (.fn g) => f == g
      | _ => false) && chkEs C es ys
    | _ => false
  | .blt (.isi T) es, e => match e with
    | .Call (.Name x _) [y, .Name z _] [] _ => okBlt C "isinstance" x && okBlt C (Str.ofString T) z && (bootBuiltins z == some (.type T)) && (match es with
      | .cons e .nil => plainE y && chkE C e y
      | _ => false)
    | _ => false
  | .blt b es, e => match e with
    | .Call (.Name x _) (y :: ys) [] _ => okBlt C (btN b) x && chkEs C es (y :: ys)
    | _ => false
  | .mth m o es, e => match e with
    | .Call (.Attribute x n ap) ys [] p => (n == mtN m) && notCallName x && (ap.endLine == p.line) && (ys.length == mtA m) && chkE C o x && chkEs C es ys
    | _ => false
  | .comp _ elt t it ifs own, e => match e with
    | .ListComp x [⟨tg, iter, fs, 0⟩] scope _ => blkC C.N C.sc scope (own.filterMap fun i => (C.N[i]?).map fun n => (n, i)) && (own.all fun i => decide (i < C.N.length)) && (tgIdx t).all (fun i => own.contains i) && plainE iter && okTg (C.blk scope) t tg && chkI C it iter && chkE (C.blk scope) elt x && chkF (C.blk scope) ifs fs
    | _ => false
  | .dnew, e => match e with
    | .Dict [] [] _ => true
    | _ => false
  | .dnewT, e => match e with
    | .Dict [] [] _ => true
    | _ => false
  | .dget o k x, e => match e with
    | .Call (.Attribute y n ap) [a, b] [] p => (n == "get") && notCallName y && (ap.endLine == p.line) && plainE a && plainE b && chkE C o y && chkE C k a && chkE C x b
    | _ => false
  | .dlit ks es, e => match e with
    | .Dict keys vs _ => !ks.isEmpty && decide (ks.length ≤ 15) && chkDs C ks es keys vs
    | _ => false
  | .fld c a f, e => match e with
    | .Attribute x g _ => (f == g) && C.FL.contains (c, f) && notCallName x && chkE C a x
    | _ => false
  | .make _ n c es, e => match e with
    | .Call (.Name x _) ys [] _ => okGlob C x && C.MK.contains (x, n, c) && chkEs C es ys
    | _ => false
  | .rev _ a, e => match e with
    | .Subscript x (.Slice none none (some (.UnaryOp .USub (.Constant (.int 1) _ _) _)) _) _ => chkE C a x
    | _ => false
  | .meth c m n o es, e => match e with
    | .Call (.Attribute x g ap) ys [] p => (g == m) && notCallName x && (ap.endLine == p.line) && decide (ys.length < 30) && C.MT.contains (c, m, n) && chkE C o x && chkEs C es ys
    | _ => false
  | .callK f j es ks zs df, e => match e with
    | .Call (.Name x _) (y :: ys) kws _ => okGlob C x && (j == ys.length + 1) && C.KF.contains (x, f, j, ks, df) && chkEs C es (y :: ys) && chkKs C ks zs kws
    | _ => false
  | .makeK _ n c j es ks zs df, e => match e with
    | .Call (.Name x _) (y :: ys) kws _ => okGlob C x && (j == ys.length + 1) && C.KM.contains (x, (n, c), j, ks, df) && chkEs C es (y :: ys) && chkKs C ks zs kws
    | _ => false
  | .methK c m n o j es ks zs df, e => match e with
    | .Call (.Attribute x g ap) (y :: ys) kws p => (g == m) && notCallName x && (ap.endLine == p.line) && decide (ys.length + kws.length < 20) && (j == ys.length + 1) && C.KT.contains ((c, m), n, j, ks, df) && chkE C o x && chkEs C es (y :: ys) && chkKs C ks zs kws
    | _ => false
  | .calln i n js es, e => match e with
    | .Call (.Name x _) (y :: ys) [] _ => okVar C i x && C.NS.contains (n, js) && chkEs C es (y :: ys)
    | _ => false
  | .listRg _ a, e => match e with
    | .Call (.Name x _) [.Call (.Name y _) [z] [] _] [] _ => okBlt C "list" x && okBlt C "range" y && plainE z && chkE C a z
    | _ => false
def chkEs (C : Ctx) : CEs → List Expr → Bool
  | .nil, es => match es with
    | [] => true
    | _ => false
  | .cons c cs, es => match es with
    | e :: es => plainE e && chkE C c e && chkEs C cs es
    | _ => false
/-- keywords by name -/
def chkKs (C : Ctx) (ks : List Str) : CEs → List Keyword → Bool
  | .nil, kws => match ks, kws with
    | [], [] => true
    | _, _ => false
  | .cons z zs, kws => match ks, kws with
    | k :: ks, ⟨some k', e, _⟩ :: r => (k == k') && chkE C z e && chkKs C ks zs r
    | _, _ => false
/-- a display's pairs -/
def chkDs (C : Ctx) (ks : List Str) : CEs → List (Option Expr) → List Expr → Bool
  | .nil, keys, vs => match ks, keys, vs with
    | [], [], [] => true
    | _, _, _ => false
  | .cons z zs, keys, vs => match ks, keys, vs with
    | k :: ks, some (.Constant (.str t) _ _) :: keys, v :: vs => (k == t) && chkE C z v && chkDs C ks zs keys vs
    | _, _, _ => false
def chkO (C : Ctx) : CO → Option Expr → Bool
  | .none, e => match e with
    | none => true
    | _ => false
  | .some c, e => match e with
    | some e => chkE C c e
    | _ => false
def chkF (C : Ctx) : CO → List Expr → Bool
  | .none, e => match e with
    | [] => true
    | _ => false
  | .some c, e => match e with
    | [e] => chkE C c e
    | _ => false
def chkI (C : Ctx) : CI → Expr → Bool
  | .seq c, e => plainE e && chkE C c e
  | .chars c, e => plainE e && chkE C c e
  | .rng1 c, e => match e with
    | .Call (.Name x _) [a] [] _ => okBlt C "range" x && plainE a && chkE C c a
    | _ => false
  | .rng2 c d, e => match e with
    | .Call (.Name x _) [a, b] [] _ => okBlt C "range" x && plainE a && plainE b && chkE C c a && chkE C d b
    | _ => false
end
def okLoc (C : Ctx) (i : Nat) (x : Str) : Bool := (C.N[i]? == some x) && (C.sc.names.lookup x == some .local)
def parOk (vs : List Expr) : Bool := vs.all plainE && !(vs.all (foldedForSure 8)) && !(vs.all (constantsAlone 8))
def manyTuple : Expr → Bool
  | .Tuple es _ _ => decide (3 < es.length)
  | _ => true
/-- several fields -/
def chkTF (C : Ctx) : List (Str × Str) → CEs → List Expr → Bool
  | [], .nil, [] => true
  | (c, f) :: r, .cons o os, .Attribute a g _ :: es => (f == g) && C.FL.contains (c, f) && chkE C o a && chkTF C r os es
  | _, _, _ => false
/-- name = [..], stored by the comprehension's own end -/
def lcSwap (C : Ctx) (x : Str) (px : Pos) (e : Expr) : Bool := match e with
  | .ListComp _ _ scope pos => (C.sc.names.lookup x == some .local) && (px.line == pos.line) && !(scope.names.any fun (n, k) => n == x && (k == .local || k == .cell))
  | _ => false
mutual
def chkS (C : Ctx) : CS → Stmt → Bool
  | .setFld c o f v, s => match s with
    | .Assign [.Attribute a g _] e _ => (f == g) && C.FL.contains (c, f) && chkE C o a && chkE C v e
    | _ => false
  | .set i c, s => match s with
    | .Assign [.Name x px] e pos => okTgt C i x && chkE C c e && (notComp e || lcSwap C x px e || (C.sc.names.lookup x == some .cell))
    | _ => false
  | .setT is c, s => match s with
    | .Assign [tg] e _ => okTg C (.tp is) tg && chkE C c e && manyTuple e
    | _ => false
  | .setP is es, s => match s with
    | .Assign [.Tuple [.Name x px, .Name y py] _ _] (.Tuple [a, b] _ _) _ => (match is with
      | [i, j] => okLoc C i x && okLoc C j y && decide (i ≠ j) && !(x == y) && (py.line == px.line) && parOk [a, b] && chkEs C es [a, b]
      | _ => false)
    | .Assign [.Tuple [.Name x px, .Name y py, .Name z pz] _ _] (.Tuple [a, b, c] _ _) _ => (match is with
      | [i, j, k] => okLoc C i x && okLoc C j y && okLoc C k z && decide (i ≠ j) && decide (i ≠ k) && decide (j ≠ k) && !(x == y) && !(x == z) && !(y == z) && (py.line == px.line) && (pz.line == px.line) && parOk [a, b, c] && chkEs C es [a, b, c]
      | _ => false)
    | _ => false
  | .setTF cf os e, s => match s with
    | .Assign [.Tuple ts _ _] v _ => chkTF C cf os ts && chkE C e v && notTuple v
    | _ => false
  | .aug i e, s => match s with
    | .AugAssign (.Name x _) .Add v _ => okTgt C i x && chkE C e v
    | _ => false
  | .augF c o f e, s => match s with
    | .AugAssign (.Attribute a g _) .Add v _ => (f == g) && C.FL.contains (c, f) && chkE C o a && chkE C e v
    | _ => false
  | .setIx o i v, s => match s with
    | .Assign [.Subscript a b _] e _ => plainE b && chkE C o a && chkE C i b && chkE C v e
    | _ => false
  | .expr c, s => match s with
    | .Expr e _ => notComp e && chkE C c e
    | _ => false
  | .ret c, s => match s with
    | .Return (some e) _ => chkE C c e
    | _ => false
  | .retN, s => match s with
    | .Return none _ => true
    | _ => false
  | .pass, s => match s with
    | .Pass _ => true
    | _ => false
  | .never, s => match s with
    | .Raise .. => true
    | _ => false
  | .brk, s => match s with
    | .Break _ => true
    | _ => false
  | .cont, s => match s with
    | .Continue _ => true
    | _ => false
  | .ifs c a b, s => match s with
    | .If e x y _ => chkE C c e && chkSs C a x && chkSs C b y
    | _ => false
  | .fors t it body, s => match s with
    | .For tg iter x [] _ => okTg C t tg && plainE iter && chkI C it iter && chkSs C body x
    | _ => false
  | .whil c body, s => match s with
    | .While e x [] _ => chkE C c e && chkSs C body x
    | _ => false
def chkSs (C : Ctx) : CSs → List Stmt → Bool
  | .nil, s => match s with
    | [] => true
    | _ => false
  | .cons c cs, s => match s with
    | s :: ss => chkS C c s && chkSs C cs ss
    | _ => false
end
end DL

/-! DL: soundness, the parts -/
namespace DL
open PySem L2
abbrev Vals := L2.Vals

/-! ### judgements, weakened -/
section
variable {X : Cx}
theorem peI {e : Expr} {t t' : TE} (h : PE X e t) (i : ∀ σ H Q, t' σ H Q → t σ H Q) : PE X e t' := ⟨fun pins s σ H Q I q => h.run pins s σ H Q I (i σ H Q q)⟩
theorem ptI {e : Expr} {t t' : TT} (h : PT X e t) (i : ∀ σ H Q, t' σ H Q → t σ H Q) : PT X e t' := ⟨fun pins s σ H Q I q => h.run pins s σ H Q I (i σ H Q q)⟩
theorem pwI {e : Expr} {t t' : TT} (h : PW X e t) (i : ∀ σ H Q, t' σ H Q → t σ H Q) : PW X e t' := ⟨fun wh pins s σ H Q I q => h.run wh pins s σ H Q I (i σ H Q q)⟩
theorem paI {e : List Expr} {t t' : TA} (h : PA X e t) (i : ∀ σ H Q, t' σ H Q → t σ H Q) : PA X e t' := ⟨fun pos pins s σ H Q I q => h.run pos pins s σ H Q I (i σ H Q q)⟩
theorem psI {e : Stmt} {t t' : TS} (h : PS X e t) (i : ∀ K σ H, t' K σ H → t K σ H) : PS X e t' := ⟨fun pins s σ H K I q => h.run pins s σ H K I (i K σ H q)⟩
theorem pssI {e : List Stmt} {t t' : TS} (h : PSs X e t) (i : ∀ K σ H, t' K σ H → t K σ H) : PSs X e t' := ⟨fun pins s σ H K I q => h.run pins s σ H K I (i K σ H q)⟩
theorem pgI {e : Expr} {t t' : TG} (h : PG X e t) (i : ∀ v σ H Q, t' v σ H Q → t v σ H Q) : PG X e t' := ⟨fun pins s σ H v u Q I r q => h.run pins s σ H v u Q I r (i v σ H Q q)⟩
theorem piI {tg e : Expr} {t t' : TI} (h : PI X tg e t) (i : ∀ σ H Q, t' σ H Q → t σ H Q) : PI X tg e t' := ⟨fun pins s σ H Q I q => h.run pins s σ H Q I (i σ H Q q)⟩
theorem poI {e : Option Expr} {t t' : TO} (h : PO X e t) (i : ∀ σ H Q, t' σ H Q → t σ H Q) : PO X e t' := ⟨fun pins s σ H Q I q => h.run pins s σ H Q I (i σ H Q q)⟩
end

/-! ### lifted readings -/
def RelX (P : Pm) (w : Wd) (x : XD) (cls : Value) (dd : Option Addr) (H : Hp) : Prop :=
  cls = .ref (P.cls x.cls) ∧ ((x.fs = none ∧ dd = none) ∨ ∃ fs a us, x.fs = some fs ∧ dd = some a ∧ H a = some (.xd us) ∧ RelKs P w fs us)
def LkX (P : Pm) (w : Wd) (H : Hp) (Ed : EX) (E : XK) : Prop := ∀ w' M' H' x cls dd, Step w H w' H' → RepM P w' M' H' → RelX P w' x cls dd H' → Ed x M' → E cls dd H'
theorem LkX.on {P : Pm} {w w' : Wd} {H H' : Hp} {Ed : EX} {E : XK} (l : LkX P w H Ed E) (s : Step w H w' H') : LkX P w' H' Ed E := fun w2 M2 H2 x cls dd s2 R r q => l w2 M2 H2 x cls dd (s.trans s2) R r q
theorem Lk.on {P : Pm} {w w' : Wd} {H H' : Hp} {Qd : QE} {Q : VK} (l : Lk P w H Qd Q) (s : Step w H w' H') : Lk P w' H' Qd Q := fun w2 M2 H2 d v s2 R r q => l w2 M2 H2 d v (s.trans s2) R r q

def liE (P : Pm) (W : WX) (t : RE) : TE := fun σ H Q => ∃ w M sd Qd Ed, RepM P w M H ∧ RelSt P w sd σ ∧ Lk P w H Qd Q ∧ LkX P w H Ed (WE W σ) ∧ t Ed sd M Qd
def LkT (P : Pm) (w : Wd) (H : Hp) (Qd : Bool → Md → Prop) (Q : Bool → Hp → Prop) : Prop := ∀ w' M' H' b, Step w H w' H' → RepM P w' M' H' → Qd b M' → Q b H'
def liT (P : Pm) (W : WX) (t : RT) : TT := fun σ H Q => ∃ w M sd Qd Ed, RepM P w M H ∧ RelSt P w sd σ ∧ LkT P w H Qd Q ∧ LkX P w H Ed (WE W σ) ∧ t Ed sd M Qd
def LkA (P : Pm) (w : Wd) (H : Hp) (Qd : List D → Md → Prop) (Q : List V → Hp → Prop) : Prop := ∀ w' M' H' ds vs, Step w H w' H' → RepM P w' M' H' → RelDs P w' ds vs → Qd ds M' → Q vs H'
def liA (P : Pm) (W : WX) (t : RA) : TA := fun σ H Q => ∃ w M sd Qd Ed, RepM P w M H ∧ RelSt P w sd σ ∧ LkA P w H Qd Q ∧ LkX P w H Ed (WE W σ) ∧ t Ed sd M Qd
def LkO (P : Pm) (w : Wd) (H : Hp) (Qd : Option Int → Md → Prop) (Q : Option Int → Hp → Prop) : Prop := ∀ w' M' H' o, Step w H w' H' → RepM P w' M' H' → Qd o M' → Q o H'
def liO (P : Pm) (W : WX) (t : RO) : TO := fun σ H Q => ∃ w M sd Qd Ed, RepM P w M H ∧ RelSt P w sd σ ∧ LkO P w H Qd Q ∧ LkX P w H Ed (WE W σ) ∧ t Ed sd M Qd
def LkSt (P : Pm) (w : Wd) (H : Hp) (Qd : Std → Md → Prop) (Q : L2.St → Hp → Prop) : Prop := ∀ w' M' H' sd σ, Step w H w' H' → RepM P w' M' H' → RelSt P w' sd σ → Qd sd M' → Q σ H'
theorem LkSt.on {P : Pm} {w w' : Wd} {H H' : Hp} {Qd : Std → Md → Prop} {Q : L2.St → Hp → Prop} (l : LkSt P w H Qd Q) (s : Step w H w' H') : LkSt P w' H' Qd Q := fun w2 M2 H2 sd σ s2 R r q => l w2 M2 H2 sd σ (s.trans s2) R r q
def LkXS (P : Pm) (w : Wd) (H : Hp) (Ed : EXS) (W : WX) : Prop := ∀ w' M' H' sd σ x cls dd, Step w H w' H' → RepM P w' M' H' → RelSt P w' sd σ → RelX P w' x cls dd H' → Ed x sd M' → W cls dd σ H'
theorem LkXS.on {P : Pm} {w w' : Wd} {H H' : Hp} {Ed : EXS} {W : WX} (l : LkXS P w H Ed W) (s : Step w H w' H') : LkXS P w' H' Ed W := fun w2 M2 H2 sd σ x cls dd s2 R rs r q => l w2 M2 H2 sd σ x cls dd (s.trans s2) R rs r q
theorem LkXS.at {P : Pm} {w : Wd} {H : Hp} {Ed : EXS} {W : WX} (l : LkXS P w H Ed W) {sd : Std} {σ : L2.St} (rs : RelSt P w sd σ) : LkX P w H (fun x => Ed x sd) (WE W σ) := fun w2 M2 H2 x cls dd s2 R r q => l w2 M2 H2 sd σ x cls dd s2 R (rs.mono s2.le) r q
structure LkK (P : Pm) (w : Wd) (H : Hp) (Kd : EndsD) (K : Ends) : Prop where
  nx : LkSt P w H Kd.nx K.nx
  rt : Lk P w H Kd.rt K.rt
  bk : LkSt P w H Kd.bk K.bk
  ct : LkSt P w H Kd.ct K.ct
theorem LkK.on {P : Pm} {w w' : Wd} {H H' : Hp} {Kd : EndsD} {K : Ends} (l : LkK P w H Kd K) (s : Step w H w' H') : LkK P w' H' Kd K := ⟨l.nx.on s, l.rt.on s, l.bk.on s, l.ct.on s⟩
def liS (P : Pm) (W : WX) (t : RS) : TS := fun K σ H => ∃ w M sd Kd Ed, RepM P w M H ∧ RelSt P w sd σ ∧ LkK P w H Kd K ∧ LkXS P w H Ed W ∧ t Ed Kd sd M
def liG (P : Pm) (t : D → Std → Md → (Std → Md → Prop) → Prop) : TG := fun v σ H Q => ∃ w M sd d Qd, RepM P w M H ∧ RelSt P w sd σ ∧ RelD P w d v ∧ LkSt P w H Qd Q ∧ t d sd M Qd
/-- what is walked below: a list or a tuple, or a range -/
inductive ItOk (P : Pm) (K : PySem.W.Frag) (w : Wd) (H : Hp) (ds : List D) (lk : Option Nat) : It → Prop
  | lst {a : Addr} : (∀ w' M' H', Step w H w' H' → RepM P w' M' H' → lkOk lk ds M' → ∃ vs, SqL K H' a vs ∧ RelDs P w' ds vs) → ItOk P K w H ds lk (Itl K a)
  | tup {a : Addr} : (∀ w' M' H', Step w H w' H' → RepM P w' M' H' → lkOk lk ds M' → ∃ vs, SqT K H' a vs ∧ RelDs P w' ds vs) → ItOk P K w H ds lk (Itt K a)
  | chr {s : Str} : ds = charsD s → ItOk P K w H ds lk (Its s)
  | rng {i j : Int} : ds = rngD i j → ItOk P K w H ds lk (Itr i (j - i).toNat)
def LkI (P : Pm) (K : PySem.W.Frag) (w : Wd) (H : Hp) (Qd : List D → Option Nat → Md → Prop) (Q : It → Hp → Prop) : Prop := ∀ w' M' H' ds lk J, Step w H w' H' → RepM P w' M' H' → ItOk P K w' H' ds lk J → Qd ds lk M' → Q J H'
def liI (P : Pm) (K : PySem.W.Frag) (W : WX) (t : RI) : TI := fun σ H Q => ∃ w M sd Qd Ed, RepM P w M H ∧ RelSt P w sd σ ∧ LkI P K w H Qd Q ∧ LkX P w H Ed (WE W σ) ∧ t Ed sd M Qd
/-- a def's promise below -/
def liSp (P : Pm) (s : SpD) : Sp := fun vs H Q E => ∃ w M ds Qd Ed, RepM P w M H ∧ RelDs P w ds vs ∧ Lk P w H Qd Q ∧ LkX P w H Ed E ∧ s ds M Qd Ed

structure EnvOk (X : Cx) (P : Pm) (C : Ctx) (Φ : Nat → SpD) (κ : Nat → D) : Prop where
  K : P.K = X.K
  pg : P.pg = X.prog
  wl : P.wl = X.w
  calm : X.calm = true
  N : X.N = C.N
  nd : C.N.Nodup
  sc : X.env.scope = C.sc
  fn : ∀ x, C.fn x = true → X.fn x = true
  hu : X.A.units + 65 < cLine
  fun_ : ∀ x f, C.G.lookup x = some (.fn f) → ∃ k a fd ps, X.mg x = some (.ref a) ∧ PySem.W.keepIn X.K (.ref a) = true ∧ FnOk X.prog X.w X.K X.mg X.base (L2.CX X.prog X.w) k a fd ps (liSp P (Φ f)) ∧ Room k X.A ∧ Binds X.K fd ps []
  cst : ∀ x g, C.G.lookup x = some (.cst g) → ∃ u v, X.mg x = some u ∧ RelV v u ∧ ∀ w, RelD P w (κ g) v
  blt : ∀ x ∈ C.B, X.mg x = none
  fl : ∀ q ∈ C.FL, Cls X.K (P.cls q.1) ∧ NoAttr X.K (P.cls q.1) q.2
  mkr : ∀ q ∈ C.MK, ∃ k f fd ps, X.mg q.1 = some (.ref (P.cls q.2.2)) ∧ Mk X.K (P.cls q.2.2) f ∧ FnOk X.prog X.w X.K X.mg X.base (L2.CX X.prog X.w) k f fd ps (liSp P (Φ q.2.1)) ∧ Room (k + 1) X.A ∧ Binds X.K fd ps []
  mt : ∀ q ∈ C.MT, ∃ k f fd ps, Cls X.K (P.cls q.1) ∧ Meth X.K (P.cls q.1) q.2.1 f ∧ FnOk X.prog X.w X.K X.mg X.base (L2.CX X.prog X.w) k f fd ps (liSp P (Φ q.2.2)) ∧ Room k X.A ∧ Binds X.K fd ps []
  kf : ∀ q ∈ C.KF, ∃ k a fd ps g, X.mg q.1 = some (.ref a) ∧ PySem.W.keepIn X.K (.ref a) = true ∧ FnOk X.prog X.w X.K X.mg X.base (L2.CX X.prog X.w) k a fd ps (liSp P (Φ q.2.1)) ∧ Room k X.A ∧ KBn X.K fd ps q.2.2.1 q.2.2.2.1 g (fun vs zs => vs ++ (zs ++ q.2.2.2.2.map Sc.v))
  km : ∀ q ∈ C.KM, ∃ k f fd ps g, X.mg q.1 = some (.ref (P.cls q.2.1.2)) ∧ Mk X.K (P.cls q.2.1.2) f ∧ FnOk X.prog X.w X.K X.mg X.base (L2.CX X.prog X.w) k f fd ps (liSp P (Φ q.2.1.1)) ∧ Room (k + 1) X.A ∧ KBn X.K fd ps (q.2.2.1 + 1) q.2.2.2.1 g (fun vs zs => vs ++ (zs ++ q.2.2.2.2.map Sc.v))
  kt : ∀ q ∈ C.KT, ∃ k f fd ps g, Cls X.K (P.cls q.1.1) ∧ Meth X.K (P.cls q.1.1) q.1.2 f ∧ FnOk X.prog X.w X.K X.mg X.base (L2.CX X.prog X.w) k f fd ps (liSp P (Φ q.2.1)) ∧ Room k X.A ∧ KBn X.K fd ps (q.2.2.1 + 1) q.2.2.2.1 g (fun vs zs => vs ++ (zs ++ q.2.2.2.2.map Sc.v))
  nst : ∀ n ∈ C.NS, ∀ (cvs : List V) (E : XK) (pins : List (Addr × Obj)) (σ : L2.St) (H : Hp) (s : Shared) (us : List Value) (vs : List V) (p : Addr) (Q : VK), PassesAt (L2.CX X.prog X.w) X σ E → Inv X pins σ H s → L2.Vals vs us → n.2.map (NdefX.slotAt σ) = cvs.map some → liSp P (Φ n.1) (.ref p :: (cvs ++ vs)) H Q E → wpAny (model X.prog X.w) X.A (call (.ref p) us) (EP X pins σ Q) X.xe s

section
variable {X : Cx} {P : Pm} {C : Ctx} {Φ : Nat → SpD} {κ : Nat → D} {W : WX}
/-- an expression's value as a test -/
theorem pt_of {e : Expr} {t : RE} (O : EnvOk X P C Φ κ) (h : PE X e (liE P W t)) (he : ∀ whole, isTrue e X.env whole = (do let v ← whole; standAt e.pos; holding [v] (truthy v))) : PT X e (liT P W (valT t).2) := by
  refine ptI (pt_truth h he) fun σ H Q q => ?_
  obtain ⟨w, M, sd, Qd, Ed, R, rs, l, lx, q⟩ := q
  refine ⟨w, M, sd, _, Ed, R, rs, fun w' M' H' d v s R' r q => ?_, lx, q⟩
  obtain ⟨k, h1, h2⟩ := truD_at R' r q
  exact ⟨k, O.K ▸ h1, l w' M' H' k s R' h2⟩
/-- a test whose value is its bool -/
theorem pe_one' {e : Expr} {t : RT} (h : PE X e (liE P W fun E σ M Q => t E σ M fun k M1 => Q (.bl k) M1)) : PE X e (liE P W (tstT t).1) := h
theorem liE_bind {a : RE} {f : D → Md → QE → Prop} {r : V → Hp → VK → Prop} (hf : ∀ {w M H d v Qd Q}, RepM P w M H → RelD P w d v → Lk P w H Qd Q → f d M Qd → r v H Q) :
    ∀ σ H Q, liE P W (fun E σ M Q => a E σ M fun d M1 => f d M1 Q) σ H Q → liE P W a σ H fun x H1 => r x H1 Q := fun σ H Q q => by
  obtain ⟨w, M, sd, Qd, Ed, R, rs, l, lx, q⟩ := q
  exact ⟨w, M, sd, _, Ed, R, rs, fun w' M' H' d v s R' r q => hf R' r (l.on s) q, lx, q⟩
/-- two expressions, then an operation -/
theorem liE_op {a b : RE} {o : O2} : ∀ σ H Q, liE P W (fun E σ M Q => a E σ M fun x M1 => b E σ M1 fun y M2 => o x y M2 Q) σ H Q → tOp (liO2 P o) (liE P W a) (liE P W b) σ H Q := fun σ H Q q => by
  obtain ⟨w, M, sd, Qd, Ed, R, rs, l, lx, q⟩ := q
  refine ⟨w, M, sd, _, Ed, R, rs, fun w1 M1 H1 d v s R1 r q => ?_, lx, q⟩
  refine ⟨w1, M1, sd, _, Ed, R1, rs.mono s.le, fun w2 M2 H2 d2 v2 s2 R2 r2 q => ?_, lx.on s, q⟩
  exact ⟨w2, M2, d, d2, Qd, R2, r.mono s2.le, r2, (l.on s).on s2, q⟩
theorem liT_op {a b : RE} {c : Cp} : ∀ σ H Q, liT P W (fun E σ M Q => a E σ M fun x M1 => b E σ M1 fun y M2 => cpD c x y M2 fun k => Q k M2) σ H Q → tTest (tOp (liO2 P (cpR c)) (liE P W a) (liE P W b)) σ H Q := fun σ H Q q => by
  obtain ⟨w, M, sd, Qd, Ed, R, rs, l, lx, q⟩ := q
  refine ⟨w, M, sd, _, Ed, R, rs, fun w1 M1 H1 d v s R1 r q => ?_, lx, q⟩
  refine ⟨w1, M1, sd, _, Ed, R1, rs.mono s.le, fun w2 M2 H2 d2 v2 s2 R2 r2 q => ?_, lx.on s, q⟩
  refine ⟨w2, M2, d, d2, fun x M => ∃ k, x = .bl k ∧ Qd k M, R2, r.mono s2.le, r2, fun w3 M3 H3 d3 v3 s3 R3 r3 q => ?_, ?_⟩
  · obtain ⟨k, e, q⟩ := q
    subst e
    have r3 : v3 = .bl k := r3
    exact ⟨k, r3, l w3 M3 H3 k ((s.trans s2).trans s3) R3 q⟩
  · show cpD c d d2 M2 fun b => ∃ k, D.bl b = .bl k ∧ Qd k M2
    have e : (fun b => ∃ k, D.bl b = .bl k ∧ Qd k M2) = fun k => Qd k M2 := by
      funext b
      refine propext ⟨fun ⟨k, e, q⟩ => ?_, fun q => ⟨b, rfl, q⟩⟩
      cases e
      exact q
    rw [e]; exact q
theorem vis_of {i : Nat} {x : Str} (O : EnvOk X P C Φ κ) (h : okVar C i x = true) : X.N[i]? = some x ∧ Vis X.env.scope x ∧ (x == ("__debug__" : Str)) = false ∧ (x == ("__classdict__" : Str)) = false := by
  unfold okVar nodbg at h
  simp only [Bool.and_eq_true, Bool.not_eq_true', beq_iff_eq] at h
  obtain ⟨⟨h1, h2, h3⟩, h4⟩ := h
  refine ⟨by rw [O.N]; exact h1, ?_, h2, h3⟩
  unfold Vis
  rw [O.sc]
  split at h4
  · rename_i e; exact .inl e
  · rename_i e; exact .inr (.inl e)
  · rename_i e; exact .inr (.inr e)
  · cases h4
theorem glob_of {x : Str} (O : EnvOk X P C Φ κ) (h : okGlob C x = true) : Gl X x ∧ (x == ("__debug__" : Str)) = false := by
  unfold okGlob nodbg at h
  simp only [Bool.and_eq_true, Bool.not_eq_true', beq_iff_eq] at h
  refine ⟨?_, h.1.1⟩
  show X.env.scope.names.lookup x = _
  rw [O.sc]
  exact h.2
theorem blt_of {n x : Str} (O : EnvOk X P C Φ κ) (h : okBlt C n x = true) : x = n ∧ Gl X x ∧ (x == ("__debug__" : Str)) = false ∧ X.mg x = none ∧ x ≠ "__name__" := by
  unfold okBlt at h
  simp only [Bool.and_eq_true, beq_iff_eq, Bool.not_eq_true'] at h
  obtain ⟨⟨⟨h1, h2⟩, h3⟩, h4⟩ := h
  obtain ⟨g1, g2⟩ := glob_of O h2
  exact ⟨h1, g1, g2, O.blt x (List.elem_iff.mp h3), fun z => by rw [beq_eq_false_iff_ne] at h4; exact h4 z⟩
theorem star_of {e : Expr} {es : List Expr} {env : Env} (h : plainE e = true) : starEach (e :: es) env = (false, eval e env) :: starEach es env := by
  cases e <;> first | rfl | (exfalso; simp [plainE] at h; done)
theorem mark_of {e : Expr} {op : CmpOp} (h : plainE e = true) : behindInMarks op e = false := by
  cases e <;> first | rfl | (exfalso; simp [plainE] at h; done)
theorem plain_ix {e : Expr} (h : plainE e = true) : PlainIx e := by
  cases e <;> first | (intro o i; rfl) | (exfalso; simp [plainE] at h; done)
theorem swaps_of {e : Expr} {t : Option Expr} {l : Nat} {env : Env} (h : notComp e = true) : swapsWith e t l env = pure false := by
  cases e <;> first | rfl | (exfalso; simp [notComp] at h; done)
theorem base_of {e : Expr} {n : Str} {env : Env} (h : notCallName e = true) : attributeBase e n env (eval e env) = eval e env := by
  cases e with
  | Call f args kws pos =>
    cases f <;> first
      | rfl
      | (cases args <;> first
          | (cases kws <;> first
              | (exfalso; simp [notCallName] at h; done)
              | rfl)
          | rfl)
  | _ => rfl
theorem folded_of {e : Expr} {env : Env} (h : plainE e = true) : ∀ x, foldedSetIterable e env x = pure x := by
  intro x
  cases e <;> first | rfl | (exfalso; simp [plainE] at h; done)
theorem tgt_of {i : Nat} {x : Str} (O : EnvOk X P C Φ κ) (h : okTgt C i x = true) : X.N[i]? = some x ∧ L2.Loc X.env.scope x ∧ (X.fn x = true ∨ X.env.scope.names.lookup x = some .local) := by
  unfold okTgt at h
  simp only [Bool.and_eq_true, beq_iff_eq] at h
  obtain ⟨h1, h2⟩ := h
  refine ⟨by rw [O.N]; exact h1, ?_⟩
  unfold L2.Loc
  rw [O.sc]
  split at h2
  · rename_i e; exact ⟨.inl e, .inr e⟩
  · rename_i e; exact ⟨.inr e, .inl (O.fn x h2)⟩
  · cases h2
theorem relSt_set {w : Wd} {sd : Std} {σ : L2.St} {d : D} {v : V} (r : RelSt P w sd σ) (i : Nat) (h : RelD P w d v) : RelSt P w (sd.set i (some d)) (σ.set i (some v)) := by
  refine ⟨by simp [r.1], fun j e he => ?_⟩
  by_cases hj : j = i
  · subst hj
    by_cases hl : j < sd.length
    · rw [List.getElem?_set_self hl] at he
      cases he
      exact ⟨v, List.getElem?_set_self (by rw [← r.1]; exact hl), h⟩
    · rw [List.getElem?_eq_none (by simpa using hl)] at he
      cases he
  · rw [List.getElem?_set_ne (Ne.symm hj)] at he ⊢
    exact r.2 j e he
theorem pg_nm {i : Nat} {x : Str} {pos : Pos} (O : EnvOk X P C Φ κ) (h : okTgt C i x = true) : PG X (.Name x pos) (liG P (asgT (.nm i))) := by
  obtain ⟨h1, h2, h3⟩ := tgt_of O h
  refine pgI (pg_name (by rw [O.N]; exact O.nd) h1 h2 h3) fun v σ H Q q => ?_
  obtain ⟨w, M, sd, d, Qd, R, rs, r, l, q⟩ := q
  exact l w M H _ _ (.refl _ _) R (relSt_set rs i r) q
theorem assignEach_cons {x : Str} {p : Pos} {es : List Expr} {env : Env} : assignEach (.Name x p :: es) env = (false, assign (.Name x p) env) :: assignEach es env := rfl
/-- several names, one after another -/
theorem pgs_of (O : EnvOk X P C Φ κ) : ∀ {is : List Nat} {es : List Expr}, okTg.go C is es = true → ∃ t, PGs X es t ∧ (assignEach es X.env).length = is.length ∧ (assignEach es X.env).findIdx? (·.1) = none ∧
    ∀ {w M H sd σ ds vs} {Qd : Std → Md → Prop} {Q : L2.St → Hp → Prop}, RepM P w M H → RelSt P w sd σ → RelDs P w ds vs → ds.length = is.length → LkSt P w H Qd Q → Qd (setAll sd is ds) M → t vs σ H Q
  | [], [], _ => ⟨_, pgs_nil, rfl, rfl, fun {w M H sd σ ds vs Qd Q} R rs r hl l q => by
    have e : ds = [] := List.length_eq_zero_iff.mp hl
    subst e
    have r : vs = [] := r
    exact ⟨r, l w M H sd σ (.refl _ _) R rs (show Qd sd M from q)⟩⟩
  | [], _ :: _, h => by simp [okTg.go] at h
  | _ :: _, [], h => by simp [okTg.go] at h
  | i :: is, e :: es, h => by
    cases e with
    | Name x pos =>
      have h : (okTgt C i x && okTg.go C is es) = true := h
      rw [Bool.and_eq_true] at h
      obtain ⟨t, h1, h2, h3, h4⟩ := pgs_of O h.2
      refine ⟨_, pgs_cons (pg_nm O h.1) h1, by rw [assignEach_cons, List.length_cons, List.length_cons, h2], by rw [assignEach_cons, List.findIdx?_cons, h3]; rfl, fun {w M H sd σ ds vs Qd Q} R rs r hl l q => ?_⟩
      cases ds with
      | nil => cases hl
      | cons d ds =>
        obtain ⟨v, us, e, r1, r2⟩ := r
        refine ⟨v, us, e, w, M, sd, d, fun sd' M' => sd' = sd.set i (some d) ∧ M' = M, R, rs, r1, fun w' M' H' sd' σ' s' R' rs' q' => ?_, rfl, rfl⟩
        obtain ⟨q1, q2⟩ := q'
        subst q1; subst q2
        exact h4 R' rs' (r2.mono s'.le) (by simpa using hl) (l.on s') q
    | _ => exact absurd h (by simp [okTg.go])
theorem pg_of {t : Tg} {e : Expr} (O : EnvOk X P C Φ κ) (h : okTg C t e = true) : PG X e (liG P (asgT t)) := by
  cases t with
  | nm i =>
    cases e with
    | Name x pos => exact pg_nm O h
    | _ => exact absurd h (by simp [okTg])
  | tp is =>
    cases e with
    | Tuple es k pos =>
      have h : okTg.go C is es = true := h
      obtain ⟨t, h1, h2, h3, h4⟩ := pgs_of O h
      refine pgI (pg_tup O.calm h1 h2 h3) fun v σ H Q q => ?_
      obtain ⟨w, M, sd, d, Qd, R, rs, r, l, q⟩ := q
      cases d with
      | tup ds =>
        obtain ⟨p, vs, e, hp, hs⟩ := r
        exact ⟨p, vs, e, O.K ▸ sqT_mono R.sub hp, by rw [hs.length]; exact q.1, h4 R rs hs q.1 l q.2⟩
      | _ => exact q.elim
    | _ => exact absurd h (by simp [okTg])
end
end DL

/-! DL: loops and comprehensions below -/
namespace DL
open PySem L2
section
variable {P : Pm} {w : Wd} {M : Md} {H : Hp} {p : Addr}
/-- an object that stands and is not tracked here becomes settled -/
theorem RepM.adoptF (R : RepM P w M H) {o : HO} (h : H p = some o) (hnt : ∀ ps, o ≠ .tbl ps) (hF : w.F p = none) (hr : p ∉ w.r) : RepM P { w with F := upd w.F p o } M H ∧ Le w { w with F := upd w.F p o } := by
  have le : Le w { w with F := upd w.F p o } := ⟨fun a u e => by show upd w.F p o a = _; rw [upd_ne (fun z => by rw [z, hF] at e; cases e)]; exact e, fun _ _ e => e⟩
  refine ⟨⟨fun a u e => ?_, R.len, R.nd, R.inH, fun k m q hm hq => ?_, R.tab.on (fun _ _ h1 h2 => ⟨h1, h2⟩) (fun a ps h1 h2 h3 => ⟨h1, ?_, h3⟩) (fun a ps z => ?_) R.tab.nc⟩, le⟩
  · have e' : upd w.F p o a = some u := e
    by_cases ha : a = p
    · subst ha; rw [upd_same] at e'; rw [← e']; exact h
    · rw [upd_ne ha] at e'; exact R.sub _ _ e'
  · have nq : q ≠ p := fun z => hr (z ▸ List.mem_of_getElem? hq)
    exact (R.cell k m q hm hq).mono le (fun z => by show upd w.F p o q = none; rw [upd_ne nq]; exact z) rfl fun _ _ h1 h2 => ⟨h1, h2⟩
  · show upd w.F p o a = none
    rw [upd_ne (fun z => by rw [z, h] at h3; exact hnt ps (Option.some.inj h3))]; exact h2
  · have z : upd w.F p o a = some (.tbl ps) := z
    by_cases ha : a = p
    · subst ha; rw [upd_same] at z; exact absurd (Option.some.inj z) (hnt ps)
    · rw [upd_ne ha] at z; exact z
theorem RepM.adoptC (R : RepM P w M H) {vs : List V} {ds : List D} (h : H p = some (.lst vs)) (hF : w.F p = none) (hr : p ∉ w.r) (hs : RelDs P w ds vs) : RepM P { w with r := w.r ++ [p] } (M ++ [.lst ds]) H ∧ Le w { w with r := w.r ++ [p] } := by
  have le : Le w { w with r := w.r ++ [p] } := ⟨fun _ _ e => e, fun k q e => by
    show (w.r ++ [p])[k]? = some q
    rw [List.getElem?_append_left (List.getElem?_eq_some_iff.mp e).1]; exact e⟩
  have hC : KpC w H { w with r := w.r ++ [p] } H := fun b q h1 h2 => ⟨fun z => by
    rcases List.mem_append.mp z with z | z
    · exact h1 z
    · simp at z; rw [z, h] at h2; exact codeO_lst (Option.some.inj h2).symm, h2⟩
  refine ⟨⟨R.sub, by simp [R.len], ?_, fun q hq => ?_, fun k m' q hm hq => ?_, R.tab.on hC (fun a ps h1 h2 h3 => ⟨fun z => ?_, h2, h3⟩) (fun a ps z => z) fun b hb o' e => ?_⟩, le⟩
  · exact List.nodup_append.mpr ⟨R.nd, by simp, fun a ha b hb => by simp at hb; subst hb; exact fun z => hr (z ▸ ha)⟩
  · rcases List.mem_append.mp hq with z | z
    · exact R.inH q z
    · simp at z; rw [z, h]; simp
  · by_cases hk : k < M.length
    · rw [List.getElem?_append_left hk] at hm
      have hq2 : w.r[k]? = some q := by
        have : (w.r ++ [p])[k]? = some q := hq
        rwa [List.getElem?_append_left (by rw [← R.len]; exact hk)] at this
      exact (R.cell k m' q hm hq2).mono le (fun z => z) rfl hC
    · have hk2 : k = M.length := by
        have := (List.getElem?_eq_some_iff.mp hm).1
        simp at this; omega
      subst hk2
      have e1 : m' = .lst ds := by simpa using hm.symm
      have e2 : q = p := by
        have : (w.r ++ [p])[M.length]? = some q := hq
        rw [R.len] at this
        simpa using this.symm
      subst e1; subst e2
      exact ⟨hF, vs, h, hs.mono le⟩
  · rcases List.mem_append.mp z with z | z
    · exact h1 z
    · simp at z; rw [z, h] at h3; cases h3
  · rcases List.mem_append.mp hb with z | z
    · exact R.tab.nc b z o' e
    · simp at z; rw [z, h] at e; cases e; exact .lst
end

theorem nlt {vs : List V} (ps : Array Value) : HO.lst vs ≠ .tbl ps := fun z => by cases z
/-! ### slots forgotten -/
theorem wipe_at {σ : L2.St} {j : Nat} : ∀ vs : List Nat, (wipe σ vs)[j]? = if j ∈ vs then (if j < σ.length then some none else none) else σ[j]?
  | [] => by simp [wipe]
  | v :: vs => by
    have ih := wipe_at (σ := σ) (j := j) vs
    unfold wipe
    by_cases h : j = v
    · subst h
      rw [if_pos List.mem_cons_self]
      by_cases hl : j < σ.length
      · rw [List.getElem?_set_self (by rw [wipe_length]; exact hl), if_pos hl]
      · rw [List.getElem?_eq_none (by rw [List.length_set, wipe_length]; omega), if_neg hl]
    · rw [List.getElem?_set_ne (Ne.symm h), ih]
      simp [h]
theorem wipe_back {σ σ' : L2.St} {vs idx : List Nat} (hs : ∀ j ∈ idx, j ∈ vs) (hl : σ'.length = σ.length) (h : ∀ j, j ∉ idx → σ'[j]? = (wipe σ vs)[j]?) : wipe σ' vs = wipe σ vs := by
  apply List.ext_getElem?
  intro j
  rw [wipe_at, wipe_at]
  by_cases hj : j ∈ vs
  · rw [if_pos hj, if_pos hj, hl]
  · rw [if_neg hj, if_neg hj, h j (fun z => hj (hs j z)), wipe_at, if_neg hj]
theorem wipeD_at {σ : Std} {j : Nat} : ∀ vs : List Nat, (wipeD σ vs)[j]? = if j ∈ vs then (if j < σ.length then some none else none) else σ[j]?
  | [] => by simp [wipeD]
  | v :: vs => by
    have ih := wipeD_at (σ := σ) (j := j) vs
    have hlen : ∀ vs : List Nat, (wipeD σ vs).length = σ.length := fun vs => by
      induction vs with
      | nil => rfl
      | cons v vs ih => unfold wipeD; rw [List.length_set, ih]
    unfold wipeD
    by_cases h : j = v
    · subst h
      rw [if_pos List.mem_cons_self]
      by_cases hl : j < σ.length
      · rw [List.getElem?_set_self (by rw [hlen]; exact hl), if_pos hl]
      · rw [List.getElem?_eq_none (by rw [List.length_set, hlen]; omega), if_neg hl]
    · rw [List.getElem?_set_ne (Ne.symm h), ih]
      simp [h]
theorem wipeD_length {σ : Std} : ∀ vs : List Nat, (wipeD σ vs).length = σ.length
  | [] => rfl
  | v :: vs => by unfold wipeD; rw [List.length_set, wipeD_length vs]
theorem relSt_wipe {P : Pm} {w : Wd} {sd : Std} {σ : L2.St} (r : RelSt P w sd σ) (vs : List Nat) : RelSt P w (wipeD sd vs) (wipe σ vs) := by
  refine ⟨by rw [wipeD_length, wipe_length]; exact r.1, fun j d h => ?_⟩
  rw [wipeD_at] at h
  rw [wipe_at]
  by_cases hj : j ∈ vs
  · rw [if_pos hj] at h
    split at h <;> cases h
  · rw [if_neg hj] at h ⊢
    exact r.2 j d h

/-! ### targets of a comprehension: which slots they write -/
def liGC (P : Pm) (t : D → Std → Md → (Std → Md → Prop) → Prop) (idx : List Nat) : TG := fun v σ H Q => ∃ w M sd d Qd, RepM P w M H ∧ RelSt P w sd σ ∧ RelD P w d v ∧
  (∀ w' M' H' sd' σ', Step w H w' H' → RepM P w' M' H' → RelSt P w' sd' σ' → σ'.length = σ.length → (∀ j, j ∉ idx → σ'[j]? = σ[j]?) → Qd sd' M' → Q σ' H') ∧ t d sd M Qd
section
variable {X : Cx} {P : Pm} {C : Ctx} {Φ : Nat → SpD} {κ : Nat → D} {W : WX}
theorem pgc_nm {i : Nat} {x : Str} {pos : Pos} (O : EnvOk X P C Φ κ) (h : okTgt C i x = true) : PG X (.Name x pos) (liGC P (asgT (.nm i)) [i]) := by
  obtain ⟨h1, h2, h3⟩ := tgt_of O h
  refine pgI (pg_name (by rw [O.N]; exact O.nd) h1 h2 h3) fun v σ H Q q => ?_
  obtain ⟨w, M, sd, d, Qd, R, rs, r, l, q⟩ := q
  exact l w M H _ _ (.refl _ _) R (relSt_set rs i r) (by simp) (fun j hj => List.getElem?_set_ne (fun z => hj (by simp [z]))) q
theorem pgcs_of (O : EnvOk X P C Φ κ) : ∀ {is : List Nat} {es : List Expr}, okTg.go C is es = true → ∃ t, PGs X es t ∧ (assignEach es X.env).length = is.length ∧ (assignEach es X.env).findIdx? (·.1) = none ∧
    ∀ {w M H sd σ ds vs} {Qd : Std → Md → Prop} {Q : L2.St → Hp → Prop}, RepM P w M H → RelSt P w sd σ → RelDs P w ds vs → ds.length = is.length →
      (∀ w' M' H' sd' σ', Step w H w' H' → RepM P w' M' H' → RelSt P w' sd' σ' → σ'.length = σ.length → (∀ j, j ∉ is → σ'[j]? = σ[j]?) → Qd sd' M' → Q σ' H') → Qd (setAll sd is ds) M → t vs σ H Q
  | [], [], _ => ⟨_, pgs_nil, rfl, rfl, fun {w M H sd σ ds vs Qd Q} R rs r hl l q => by
    have e : ds = [] := List.length_eq_zero_iff.mp hl
    subst e
    have r : vs = [] := r
    exact ⟨r, l w M H sd σ (.refl _ _) R rs rfl (fun _ _ => rfl) (show Qd sd M from q)⟩⟩
  | [], _ :: _, h => by simp [okTg.go] at h
  | _ :: _, [], h => by simp [okTg.go] at h
  | i :: is, e :: es, h => by
    cases e with
    | Name x pos =>
      have h : (okTgt C i x && okTg.go C is es) = true := h
      rw [Bool.and_eq_true] at h
      obtain ⟨t, h1, h2, h3, h4⟩ := pgcs_of O h.2
      refine ⟨_, pgs_cons (pgc_nm O h.1) h1, by rw [assignEach_cons, List.length_cons, List.length_cons, h2], by rw [assignEach_cons, List.findIdx?_cons, h3]; rfl, fun {w M H sd σ ds vs Qd Q} R rs r hl l q => ?_⟩
      cases ds with
      | nil => cases hl
      | cons d ds =>
        obtain ⟨v, us, e, r1, r2⟩ := r
        refine ⟨v, us, e, w, M, sd, d, fun sd' M' => sd' = sd.set i (some d) ∧ M' = M, R, rs, r1, fun w' M' H' sd' σ' s' R' rs' hl' ho' q' => ?_, rfl, rfl⟩
        obtain ⟨q1, q2⟩ := q'
        subst q1; subst q2
        refine h4 R' rs' (r2.mono s'.le) (by simpa using hl) (fun w2 M2 H2 sd2 σ2 s2 R2 rs2 hl2 ho2 q2 => l w2 M2 H2 sd2 σ2 (s'.trans s2) R2 rs2 (hl2.trans hl') (fun j hj => ?_) q2) q
        simp only [List.mem_cons, not_or] at hj
        rw [ho2 j hj.2, ho' j (by simp [hj.1])]
    | _ => exact absurd h (by simp [okTg.go])
theorem pgc_of {t : Tg} {e : Expr} (O : EnvOk X P C Φ κ) (h : okTg C t e = true) : PG X e (liGC P (asgT t) (tgIdx t)) := by
  cases t with
  | nm i =>
    cases e with
    | Name x pos => exact pgc_nm O h
    | _ => exact absurd h (by simp [okTg])
  | tp is =>
    cases e with
    | Tuple es k pos =>
      have h : okTg.go C is es = true := h
      obtain ⟨t, h1, h2, h3, h4⟩ := pgcs_of O h
      refine pgI (pg_tup O.calm h1 h2 h3) fun v σ H Q q => ?_
      obtain ⟨w, M, sd, d, Qd, R, rs, r, l, q⟩ := q
      cases d with
      | tup ds =>
        obtain ⟨p, vs, e, hp, hs⟩ := r
        exact ⟨p, vs, e, O.K ▸ sqT_mono R.sub hp, by rw [hs.length]; exact q.1, h4 R rs hs q.1 l q.2⟩
      | _ => exact q.elim
    | _ => exact absurd h (by simp [okTg])

/-! ### what is walked -/
/-- a list or a tuple, walked -/
def iSeq (K : PySem.W.Frag) (tl : TE) : TI := fun σ H R => tl σ H fun x H1 => ∃ a, x = .ref a ∧ (((∃ xs, SqL K H1 a xs) ∧ R (Itl K a) H1) ∨ ((∃ xs, SqT K H1 a xs) ∧ R (Itt K a) H1))
theorem pi_seq {tg l : Expr} {tl : TE} (hl : PE X l tl) : PI X tg l (iSeq X.K tl) := by
  refine ⟨fun pins s σ H R I h => ?_⟩
  refine thn (hl.run pins s σ H _ I h) fun v s1 ⟨x, H1, I1, r1, q1⟩ => ?_
  obtain ⟨a, e, q⟩ := q1
  subst e
  cases r1
  have fp : ∀ b ∈ [s1.heap.objs.size], FpOk X pins H1 b := fun b hb => by
    have e : b = s1.heap.objs.size := by simpa using hb
    subst e
    exact I1.fpOk (Nat.le_refl _) (I1.hok.fresh (Nat.le_refl _))
  rcases q with ⟨⟨xs, hq⟩, q⟩ | ⟨⟨xs, hq⟩, q⟩
  · obtain ⟨its, rv, p, hz⟩ := I1.list hq
    refine wpAny_pyIter_list p.isList ?_
    exact ⟨s1.heap.objs.size, [s1.heap.objs.size], _, _, H1, rfl, I1.kept (t' := s1.toks) fun b o e => Heap.get?_push_of_some _ e, turn_list a _, ⟨_, Heap.get?_push_size _ rfl, rfl, rfl⟩, fp, q⟩
  · obtain ⟨its, rv, p, hz⟩ := I1.tuple hq
    refine wpAny_pyIter_tuple (show s1.heap.IsTuple a its.toArray from p) ?_
    exact ⟨s1.heap.objs.size, [s1.heap.objs.size], _, _, H1, rfl, I1.kept (t' := s1.toks) fun b o e => Heap.get?_push_of_some _ e, turn_tuple a _, ⟨_, Heap.get?_push_size _ rfl, rfl, rfl⟩, fp, q⟩
/-- the value's list, walked: its items -/
theorem itOk_seq {w : Wd} {M : Md} {H : Hp} {K : PySem.W.Frag} (hK : P.K = K) (R : RepM P w M H) {d : D} {v : V} {ds : List D} (r : RelD P w d v) (h : seqOf d M = some ds) :
    ∃ a, v = .ref a ∧ (((∃ xs, SqL K H a xs) ∧ ItOk P K w H ds (lkOf d) (Itl K a)) ∨ ((∃ xs, SqT K H a xs) ∧ ItOk P K w H ds (lkOf d) (Itt K a))) := by
  subst hK
  cases d with
  | tup es =>
    cases h
    obtain ⟨p, vs, e, hp, hs⟩ := r
    exact ⟨p, e, .inr ⟨⟨vs, sqT_mono R.sub hp⟩, .tup fun w' M' H' s R' _ => ⟨vs, sqT_mono R'.sub (sqT_mono s.le.F hp), hs.mono s.le⟩⟩⟩
  | lst es =>
    cases h
    obtain ⟨p, vs, e, hp, hs⟩ := r
    exact ⟨p, e, .inl ⟨⟨vs, SqL.of (R.sub _ _ hp)⟩, .lst fun w' M' H' s R' _ => ⟨vs, SqL.of (R'.sub _ _ (s.le.F _ _ hp)), hs.mono s.le⟩⟩⟩
  | scr ns =>
    cases h
    obtain ⟨p, e, hp⟩ := r
    exact ⟨p, e, .inl ⟨⟨_, sqL_mono R.sub hp⟩, .lst fun w' M' H' s R' _ => ⟨_, sqL_mono R'.sub (sqL_mono s.le.F hp), relDs_ints ns⟩⟩⟩
  | ref k =>
    obtain ⟨p, e, hp⟩ := r
    have h : (match M[k]? with
      | some (.lst ds) => some ds
      | _ => none) = some ds := h
    split at h
    · rename_i ds' hm
      cases h
      obtain ⟨_, vs, e2, hs⟩ := R.cell k _ p hm hp
      refine ⟨p, e, .inl ⟨⟨vs, SqL.of e2⟩, .lst fun w' M' H' s R' lk => ?_⟩⟩
      obtain ⟨_, vs', e3, hs'⟩ := R'.cell k (.lst ds) p lk (s.le.r _ _ hp)
      exact ⟨vs', SqL.of e3, hs'⟩
    · cases h
  | _ => cases h
theorem rngD_at {i j : Int} {k : Nat} (h : k < (j - i).toNat) : (rngD i j)[k]? = some (.int (i + (k : Nat))) := by
  unfold rngD
  rw [List.getElem?_map, List.getElem?_range h]
  rfl
theorem rngD_length (i j : Int) : (rngD i j).length = (j - i).toNat := by unfold rngD; rw [List.length_map, List.length_range]
/-- a turn's item -/
theorem ItOk.turn {K : PySem.W.Frag} {w w' : Wd} {M' : Md} {H H' : Hp} {ds : List D} {lk : Option Nat} {J : It} (T : ItOk P K w H ds lk J) (s : Step w H w' H') (R : RepM P w' M' H') (l : lkOk lk ds M') (i : Nat) :
    (ds.length ≤ i → J.stop i H') ∧ (∀ d, ds[i]? = some d → J.go i H' ∧ ∀ x H2, J.yld i H' x H2 → H2 = H' ∧ RelD P w' d x) := by
  cases T with
  | @lst a f =>
    obtain ⟨vs, h1, h2⟩ := f w' M' H' s R l
    refine ⟨fun hi => ⟨vs, h1, by rw [h2.length]; exact hi⟩, fun d hd => ?_⟩
    obtain ⟨v, hv, r⟩ := h2.get hd
    refine ⟨⟨vs, v, h1, hv⟩, fun x H2 hy => ?_⟩
    obtain ⟨e, y⟩ := hy
    have := y vs h1
    rw [hv] at this
    cases this
    exact ⟨e, r⟩
  | @tup a f =>
    obtain ⟨vs, h1, h2⟩ := f w' M' H' s R l
    refine ⟨fun hi => ⟨vs, h1, by rw [h2.length]; exact hi⟩, fun d hd => ?_⟩
    obtain ⟨v, hv, r⟩ := h2.get hd
    refine ⟨⟨vs, v, h1, hv⟩, fun x H2 hy => ?_⟩
    obtain ⟨e, y⟩ := hy
    have := y vs h1
    rw [hv] at this
    cases this
    exact ⟨e, r⟩
  | @chr z e =>
    subst e
    have hl : (charsD z).length = z.cps.size := by unfold charsD; simp
    refine ⟨fun hi => by rw [hl] at hi; exact hi, fun d hd => ?_⟩
    have hlt : i < z.cps.size := by
      have := (List.getElem?_eq_some_iff.mp hd).1
      rwa [hl] at this
    refine ⟨hlt, fun x H2 hy => ?_⟩
    obtain ⟨e1, c, hc, e2⟩ := hy
    have hd : (z.cps.toList.map fun c => D.str ⟨#[c]⟩)[i]? = some d := hd
    rw [List.getElem?_map, Array.getElem?_toList, hc] at hd
    cases hd
    exact ⟨e1, e2⟩
  | @rng a b e =>
    subst e
    refine ⟨fun hi => by rw [rngD_length] at hi; exact hi, fun d hd => ?_⟩
    have hlt : i < (b - a).toNat := by
      have := (List.getElem?_eq_some_iff.mp hd).1
      rwa [rngD_length] at this
    rw [rngD_at hlt] at hd
    cases hd
    refine ⟨hlt, fun x H2 hy => ?_⟩
    obtain ⟨e1, e2⟩ := hy
    exact ⟨e1, e2⟩
/-- for -/
theorem for_lift {wi : RI} {t : Tg} {tb : RS} {σ : L2.St} {H : Hp} {K : Ends} :
    liS P W (fun E K σ M => wi (fun x => E x σ) σ M fun ds lk M1 => loopD lk ds (asgT t) (tb E) K ds σ M1) K σ H → tFor (liI P X.K W wi) (liG P (asgT t)) (liS P W tb) K σ H := by
  rintro ⟨w, M, sd, Kd, Ed, R, rs, lk, lx, q⟩
  refine ⟨w, M, sd, _, _, R, rs, fun w1 M1 H1 ds l J s R1 T q => ?_, lx.at rs, q⟩
  have lkK := lk.on s
  have lxK := lx.on s
  refine ⟨fun i m σ' H' => m = ds.length - i ∧ i ≤ ds.length ∧ ∃ w' M' sd', Step w1 H1 w' H' ∧ RepM P w' M' H' ∧ RelSt P w' sd' σ' ∧ loopD l ds (asgT t) (tb Ed) Kd (ds.drop i) sd' M', ⟨ds.length, by simp, Nat.zero_le _, w1, M1, sd, .refl _ _, R1, rs.mono s.le, by simpa using q⟩, ?_⟩
  rintro i m σ' H' ⟨rfl, hi, w', M', sd', s', R', rs', q'⟩
  by_cases hlt : i < ds.length
  · rw [List.drop_eq_getElem_cons hlt] at q'
    obtain ⟨l1, q'⟩ := q'
    obtain ⟨g1, g2⟩ := (T.turn s' R' l1 i).2 ds[i] (List.getElem?_eq_getElem hlt)
    refine .inr ⟨g1, fun σ2 H2 => ∃ w2 M2 sd2, Step w1 H1 w2 H2 ∧ RepM P w2 M2 H2 ∧ RelSt P w2 sd2 σ2 ∧ loopD l ds (asgT t) (tb Ed) Kd (ds.drop (i + 1)) sd2 M2, fun σ2 H2 h => ⟨ds.length - (i + 1), by omega, rfl, hlt, h⟩, fun x H2 y => ?_⟩
    obtain ⟨e, rx⟩ := g2 x H2 y
    subst e
    refine ⟨w', M', sd', ds[i], _, R', rs', rx, fun w3 M3 H3 sd3 σ3 s3 R3 rs3 q3 => ?_, q'⟩
    have s13 := s'.trans s3
    refine ⟨w3, M3, sd3, { nx := loopD l ds (asgT t) (tb Ed) Kd (ds.drop (i + 1)), rt := Kd.rt, bk := Kd.nx, ct := loopD l ds (asgT t) (tb Ed) Kd (ds.drop (i + 1)) }, Ed, R3, rs3, ⟨?_, (lkK.on s13).rt, (lkK.on s13).nx, ?_⟩, lxK.on s13, q3⟩
    · exact fun w4 M4 H4 sd4 σ4 s4 R4 rs4 q4 => ⟨w4, M4, sd4, s13.trans s4, R4, rs4, q4⟩
    · exact fun w4 M4 H4 sd4 σ4 s4 R4 rs4 q4 => ⟨w4, M4, sd4, s13.trans s4, R4, rs4, q4⟩
  · have e : i = ds.length := by omega
    subst e
    rw [List.drop_length] at q'
    obtain ⟨l1, q'⟩ := q'
    exact .inl ⟨(T.turn s' R' l1 ds.length).1 (Nat.le_refl _), lkK.nx w' M' H' sd' σ' s' R' rs' q'⟩
/-- while -/
theorem while_lift {tt : RT} {tb : RS} {σ : L2.St} {H : Hp} {K : Ends} :
    liS P W (fun E K σ M => ∃ n, whilD (fun σ M Q => tt (fun x => E x σ) σ M Q) (tb E) K n σ M) K σ H → tWhile (liT P W tt) (liS P W tb) K σ H := by
  rintro ⟨w, M, sd, Kd, Ed, R, rs, lk, lx, n, q⟩
  refine ⟨fun m σ' H' => ∃ w' M' sd', Step w H w' H' ∧ RepM P w' M' H' ∧ RelSt P w' sd' σ' ∧ whilD (fun σ M Q => tt (fun x => Ed x σ) σ M Q) (tb Ed) Kd m sd' M', ⟨n, w, M, sd, .refl _ _, R, rs, q⟩, ?_⟩
  rintro m σ' H' ⟨w', M', sd', s', R', rs', q'⟩
  cases m with
  | zero => exact q'.elim
  | succ m =>
    refine ⟨w', M', sd', _, _, R', rs', fun w1 M1 H1 b s1 R1 q1 => ?_, (lx.on s').at rs', q'⟩
    have s01 := s'.trans s1
    cases b with
    | true =>
      simp only [if_true] at q1 ⊢
      refine ⟨fun σ2 H2 => ∃ w2 M2 sd2, Step w H w2 H2 ∧ RepM P w2 M2 H2 ∧ RelSt P w2 sd2 σ2 ∧ whilD (fun σ M Q => tt (fun x => Ed x σ) σ M Q) (tb Ed) Kd m sd2 M2, fun σ2 H2 h => ⟨m, Nat.lt_succ_self _, h⟩, ?_⟩
      refine ⟨w1, M1, sd', { nx := whilD (fun σ M Q => tt (fun x => Ed x σ) σ M Q) (tb Ed) Kd m, rt := Kd.rt, bk := Kd.nx, ct := whilD (fun σ M Q => tt (fun x => Ed x σ) σ M Q) (tb Ed) Kd m }, Ed, R1, rs'.mono s1.le, ⟨?_, (lk.on s01).rt, (lk.on s01).nx, ?_⟩, lx.on s01, q1⟩
      · exact fun w4 M4 H4 sd4 σ4 s4 R4 rs4 q4 => ⟨w4, M4, sd4, s01.trans s4, R4, rs4, q4⟩
      · exact fun w4 M4 H4 sd4 σ4 s4 R4 rs4 q4 => ⟨w4, M4, sd4, s01.trans s4, R4, rs4, q4⟩
    | false =>
      simp only [Bool.false_eq_true, if_false] at q1 ⊢
      exact lk.nx w1 M1 H1 sd' σ' s01 R1 (rs'.mono s1.le) q1
abbrev W0 : WX := fun _ _ _ _ => False
theorem lkX0 {w : Wd} {H : Hp} {σ : L2.St} : LkX P w H (fun _ _ => False) (WE W0 σ) := fun _ _ _ _ _ _ _ _ _ q => q.elim
/-- a comprehension -/
theorem comp_lift {m : Bool} {wi : RI} {t : Tg} {tt : RT} {te : RE} {own : List Nat} (hs : ∀ j ∈ tgIdx t, j ∈ own) : ∀ σ H Q,
    liE P W (fun E σ M Q => wi E σ M fun ds lk M1 => compD lk ds (fun d k M => asgT t d (wipeD σ own) M k) (fun σ M Q => tt (fun _ _ => False) σ M Q) (fun σ M Q => te (fun _ _ => False) σ M Q)
      (fun acc M => if m = true then Q (.ref M.length) (M ++ [.lst acc]) else Q (.lst acc) M) ds [] M1) σ H Q →
    tLc (liI P X.K W wi) (liGC P (asgT t) (tgIdx t)) (liT P W0 tt) (liE P W0 te) own σ H Q := by
  rintro σ H Q ⟨w, M, sd, Qd, Ed, R, rs, lq, lx, q⟩
  refine ⟨w, M, sd, _, Ed, R, rs, fun w1 M1 H1 ds l J s R1 T q => ?_, lx, q⟩
  intro Da hD
  have rs1 := rs.mono s.le
  have lq1 := lq.on s
  let INV : Nat → Hp → Prop := fun i H' => ∃ w' M' acc vs, Step w1 H1 w' H' ∧ RepM P w' M' H' ∧ w'.F Da = none ∧ Da ∉ w'.r ∧ H' Da = some (.lst vs) ∧ RelDs P w' acc vs ∧
    compD l ds (fun d k M => asgT t d (wipeD sd own) M k) (fun σ M Q => tt (fun _ _ => False) σ M Q) (fun σ M Q => te (fun _ _ => False) σ M Q) (fun acc M => if m = true then Qd (.ref M.length) (M ++ [.lst acc]) else Qd (.lst acc) M) (ds.drop i) acc M'
  have start : INV 0 (upd H1 Da (.lst [])) := by
    have hC0 : KpC w1 H1 w1 (upd H1 Da (.lst [])) := fun b q h1 h2 => ⟨h1, by rw [upd_ne fun z => by rw [z, hD] at h2; cases h2]; exact h2⟩
    refine ⟨w1, M1, [], [], ⟨.refl _, fun a o e _ _ => ?_, fun a e h1 h2 => ⟨h1, h2⟩, fun a e => upd_some e⟩, ⟨fun a o e => ?_, R1.len, R1.nd, fun p hp => ?_, fun k mo p h1 h2 => ?_, R1.tab.on hC0 (fun a ps h1 h2 h3 => ⟨h1, h2, by rw [upd_ne fun z => by rw [z, hD] at h3; cases h3]; exact h3⟩) (fun a ps z => z) fun b hb o' e => R1.tab.nc b hb o' (by rw [upd_ne (fun z => R1.inH b hb (by rw [z]; exact hD))] at e; exact e)⟩, R1.Fnone hD, R1.notin hD, upd_same, rfl, by simpa using q⟩
    · rw [upd_ne (ne_of_none e hD)]; exact e
    · rw [upd_ne (ne_of_none (R1.sub _ _ e) hD)]; exact R1.sub _ _ e
    · rw [upd_ne (fun z => R1.inH p hp (by rw [z]; exact hD))]; exact R1.inH p hp
    · exact (R1.cell k mo p h1 h2).mono (.refl _) (fun z => z) (upd_ne (fun z => R1.inH p (List.mem_of_getElem? h2) (by rw [z]; exact hD))) hC0
  refine ⟨fun i n H' => n = ds.length - i ∧ i ≤ ds.length ∧ INV i H', ⟨ds.length, by simp, Nat.zero_le _, start⟩, ?_⟩
  rintro i n H' ⟨rfl, hi, w', M', acc, vs, s', R', f1, f2, hH, ha, q'⟩
  by_cases hlt : i < ds.length
  · rw [List.drop_eq_getElem_cons hlt] at q'
    obtain ⟨l1, q'⟩ := q'
    obtain ⟨g1, g2⟩ := (T.turn s' R' l1 i).2 ds[i] (List.getElem?_eq_getElem hlt)
    refine .inr ⟨g1, fun H2 => INV (i + 1) H2, fun H2 h => ⟨ds.length - (i + 1), by omega, rfl, hlt, h⟩, fun x H2 y => ?_⟩
    obtain ⟨e, rx⟩ := g2 x H2 y
    subst e
    refine ⟨w', M', wipeD sd own, ds[i], _, R', relSt_wipe (rs1.mono s'.le) own, rx, fun w3 M3 H3 sd3 σ3 s3 R3 rs3 hl3 ho3 q3 => ⟨wipe_back hs (by rw [hl3, wipe_length]) ho3, ?_⟩, q'⟩
    refine ⟨w3, M3, sd3, _, _, R3, rs3, fun w4 M4 H4 b s4 R4 q4 => ?_, lkX0, q3⟩
    have s34 := s3.trans s4
    cases b with
    | false =>
      simp only [Bool.false_eq_true, if_false] at q4 ⊢
      obtain ⟨n1, n2⟩ := s34.new Da (by rw [hH]; simp) f1 f2
      exact ⟨w4, M4, acc, vs, s'.trans s34, R4, n1, n2, s34.keep _ _ hH nlt (.inl f2), ha.mono s34.le, q4⟩
    | true =>
      simp only [if_true] at q4 ⊢
      refine ⟨w4, M4, sd3, _, _, R4, rs3.mono s4.le, fun w5 M5 H5 d5 v5 s5 R5 r5 q5 => ?_, lkX0, q4⟩
      have s35 := s34.trans s5
      obtain ⟨n1, n2⟩ := s35.new Da (by rw [hH]; simp) f1 f2
      have h5 := s35.keep _ _ hH nlt (.inl f2)
      refine ⟨vs, h5, by rw [ha.length]; exact q5.1, w5, M5, acc ++ [d5], vs ++ [v5], ?_, ?_, n1, n2, upd_same, (ha.mono s35.le).append (.cons r5 .nil), q5.2⟩
      · have st := s'.trans s35
        refine ⟨st.le, fun a o e ht h => ?_, st.new, fun a e => upd_some (st.stay a e)⟩
        rw [upd_ne (ne_of_none e hD)]
        exact st.keep a o e ht h
      · have hC : KpC w5 H5 w5 (upd H5 Da (.lst (vs ++ [v5]))) := fun b q h1 h2 => ⟨h1, by rw [upd_ne fun z => by rw [z, h5] at h2; exact codeO_lst (Option.some.inj h2).symm]; exact h2⟩
        refine ⟨fun a o e => ?_, R5.len, R5.nd, fun p hp => ?_, fun k mo p h1 h2 => ?_, R5.tab.on hC (fun a ps h1 h2 h3 => ⟨h1, h2, by rw [upd_ne fun z => by rw [z, h5] at h3; cases h3]; exact h3⟩) (fun a ps z => z) fun b hb o' e => R5.tab.nc b hb o' (by rw [upd_ne (fun z => n2 (by rw [← z]; exact hb))] at e; exact e)⟩
        · rw [upd_ne (fun z => by rw [z, n1] at e; cases e)]; exact R5.sub _ _ e
        · rw [upd_ne (fun z => n2 (by rw [← z]; exact hp))]; exact R5.inH p hp
        · exact (R5.cell k mo p h1 h2).mono (.refl _) (fun z => z) (upd_ne (fun z => n2 (by rw [← z]; exact List.mem_of_getElem? h2))) hC
  · have e : i = ds.length := by omega
    subst e
    rw [List.drop_length] at q'
    obtain ⟨l1, q'⟩ := q'
    refine .inl ⟨(T.turn s' R' l1 ds.length).1 (Nat.le_refl _), ?_⟩
    cases m with
    | false =>
      rw [if_neg Bool.false_ne_true] at q'
      obtain ⟨R2, le⟩ := R'.adoptF hH nlt f1 f2
      refine lq1 _ M' H' (.lst acc) _ ⟨s'.le.trans le, s'.keep, fun a e h1 h2 => ?_, s'.stay⟩ R2 ⟨Da, vs, rfl, upd_same, ha.mono le⟩ q'
      obtain ⟨z1, z2⟩ := s'.new a e h1 h2
      exact ⟨by show upd w'.F Da _ a = none; rw [upd_ne (fun z => e (by rw [z]; exact hD))]; exact z1, z2⟩
    | true =>
      rw [if_pos rfl] at q'
      obtain ⟨R2, le⟩ := R'.adoptC hH f1 f2 ha
      refine lq1 _ _ H' (.ref M'.length) _ ⟨s'.le.trans le, s'.keep, fun a e h1 h2 => ?_, s'.stay⟩ R2 ⟨Da, rfl, by show (w'.r ++ [Da])[M'.length]? = some Da; rw [R'.len]; simp⟩ q'
      obtain ⟨z1, z2⟩ := s'.new a e h1 h2
      refine ⟨z1, fun z => ?_⟩
      rcases List.mem_append.mp z with z | z
      · exact z2 z
      · simp at z; exact e (by rw [z]; exact hD)
end
end DL

/-! DL: calls of methods, calls without arguments, objects made, where what is raised is wished for at the caller's slots -/
namespace DL
open PySem L2 PySem.Spec PyProof.Rows
theorem meth_eq {o : Expr} {m : Str} {apos pos : Pos} {args : List Expr} {env : Env} (hbase : attributeBase o m env (eval o env) = eval o env)
    (hform : methodCallForm (args.length + ([] : List Keyword).length) (backTo pos (starEach args env)) (backToKw pos (keywordEach [] env)) = true) (hline : (apos.endLine == pos.line) = true) :
    eval (.Call (.Attribute o m apos) args [] pos) env = (do
      let ov ← eval o env
      standAt apos.atName
      let (f, first) ← holding [ov] (getMethod ov m (plainOf o env))
      callWith pos f first (backTo pos (starEach args env)) (backToKw pos (keywordEach [] env))) := by
  rw [arm_eval_Call, hbase]
  simp only [mcall_line hform hline]
section
variable {X : Cx} {CX : CXT} {k : Nat} {f C : Addr} {fd : FuncData} {ps : List Str} {sp : Sp} {E : L2.St → XK} {x m : Str} {p pos apos : Pos} {e o : Expr} {es : List Expr} {ta : TE} {t : TA}
def tNil' : TA := fun _ H Q => Q [] H
theorem pe_call0S (F : FnOk X.prog X.w X.K X.mg X.base CX k f fd ps sp) (hr : Room k X.A) (hg : Gl X x) (hm : X.mg x = some (.ref f)) (hk : PySem.W.keepIn X.K (.ref f) = true) (hb : Binds X.K fd ps []) (hx : ∀ σ, PassesAt CX X σ (E σ))
    (hdb : (x == ("__debug__" : Str)) = false) : PE X (.Call (.Name x p) [] [] pos) (tCallS sp E tNil') := by
  refine ⟨fun pins s σ H Q I h => ?_⟩
  refine wpAny_Call_Name_kw (ld_glob I hg hm ?_ hdb)
  exact PySem.W.callWith_K0 I.kIn hk (run_fnS (us := []) F hr hb (hx σ) I .nil h)
def tMethO (C : Addr) (m : Str) (sp : Sp) (E : L2.St → XK) (ta : TE) (t : TA) : TE := fun σ H Q => ta σ H fun x H1 => ∃ a dx fs, x = .ref a ∧ H1 a = some (.ins C dx fs) ∧ fs.lookup m = none ∧ t σ H1 fun vs H2 => sp (x :: vs) H2 Q (E σ)
theorem pe_methO {pl : Sem Bool} (he : PE X o ta) (c : Cls X.K C) (hm : Meth X.K C m f) (F : FnOk X.prog X.w X.K X.mg X.base CX k f fd ps sp) (hr : Room k X.A) (hb : Binds X.K fd ps []) (hx : ∀ σ, PassesAt CX X σ (E σ)) (ha : PA X (e :: es) t)
    (hst : starEach (e :: es) X.env = (false, eval e X.env) :: starEach es X.env) (hpl : (backTo pos (starEach es X.env)).any (·.1) = false)
    (ht : eval (.Call (.Attribute o m apos) (e :: es) [] pos) X.env = (do
      let ov ← eval o X.env
      standAt apos.atName
      let (f, first) ← holding [ov] (getMethod ov m pl)
      callWith pos f first (backTo pos (starEach (e :: es) X.env)) (backToKw pos (keywordEach [] X.env)))) :
    PE X (.Call (.Attribute o m apos) (e :: es) [] pos) (tMethO C m sp E ta t) := by
  refine ⟨fun pins s σ H Q I h => ?_⟩
  refine PySem.W.methodCall_KW (pl := pl) (thn (he.run pins s σ H _ I h) fun u s1 ⟨x, H1, I1, rx, a, dx, fs, ex, ea, l, q⟩ => ?_) ht
  subst ex
  obtain rfl : u = Value.ref a := rx
  refine getmeth_ok I1 ea c hm l ?_
  refine PySem.W.callWith_K (first := [.ref a]) (h₀ := X.base) I.ok.mod.kin hm.kp (thn (ha.run pos pins s1 σ H1 _ I1 q) fun us s2 ⟨vs, H2, I2, r, q2⟩ => ⟨I2.kIn, ?_⟩) hst hpl
  exact run_fnS (us := .ref a :: us) (vs := .ref a :: vs) F hr hb (hx σ) I2 (.cons rfl r) q2
theorem pe_methO0 {pl : Sem Bool} (he : PE X o ta) (c : Cls X.K C) (hm : Meth X.K C m f) (F : FnOk X.prog X.w X.K X.mg X.base CX k f fd ps sp) (hr : Room k X.A) (hb : Binds X.K fd ps []) (hx : ∀ σ, PassesAt CX X σ (E σ))
    (ht : eval (.Call (.Attribute o m apos) [] [] pos) X.env = (do
      let ov ← eval o X.env
      standAt apos.atName
      let (f, first) ← holding [ov] (getMethod ov m pl)
      callWith pos f first (backTo pos (starEach [] X.env)) (backToKw pos (keywordEach [] X.env)))) :
    PE X (.Call (.Attribute o m apos) [] [] pos) (tMethO C m sp E ta tNil') := by
  refine ⟨fun pins s σ H Q I h => ?_⟩
  refine PySem.W.methodCall_KW (pl := pl) (thn (he.run pins s σ H _ I h) fun u s1 ⟨x, H1, I1, rx, a, dx, fs, ex, ea, l, q⟩ => ?_) ht
  subst ex
  obtain rfl : u = Value.ref a := rx
  refine getmeth_ok I1 ea c hm l ?_
  exact PySem.W.callWith_K0 (first := [.ref a]) I1.kIn hm.kp (run_fnS (us := [.ref a]) (vs := [.ref a]) F hr hb (hx σ) I1 (.cons rfl .nil) q)
theorem run_makeS {pins : List (Addr × Obj)} {σ : L2.St} {H : Hp} {s : Shared} {Q : VK} {us : List Value} {vs : List V} (M : Mk X.K C f) (F : FnOk X.prog X.w X.K X.mg X.base CX k f fd ps sp) (hr : Room (k + 1) X.A) (hb : Binds X.K fd ps [])
    (hx : PassesAt CX X σ (E σ)) (I : Inv X pins σ H s) (r : L2.Vals vs us)
    (h : ∀ x dx, H x = none → H dx = none → dx ≠ x → sp (.ref x :: vs) (upd (upd H dx (.own x)) x (.ins C dx [])) (fun v H2 => v = .non ∧ Q (.ref x) H2) (E σ)) :
    wpAny (model X.prog X.w) X.A (call (.ref C) us) (EP X pins σ Q) X.xe s := by
  have hq := h (s.heap.objs.size + 1) s.heap.objs.size (I.hok.fresh (Nat.le_succ _)) (I.hok.fresh (Nat.le_refl _)) (Nat.ne_of_lt (Nat.lt_succ_self _))
  have I2 := Inv.made (C := C) I
  have r2 : L2.Vals (V.ref (s.heap.objs.size + 1) :: vs) (Value.ref (s.heap.objs.size + 1) :: us) := .cons rfl r
  have hl : (Value.ref (s.heap.objs.size + 1) :: us).length = ps.length := by
    have e := r2.length
    rw [F.len _ _ _ _ hq] at e
    exact e.symm
  refine wpAny_call (make_map (f := f) I.kIn M.makes M.init (beq_iff_eq.mp M.fn) (codeAny_mono (F.run _ X.stack _ _ ⟨Value.ref (s.heap.objs.size + 1) :: us, []⟩ (Value.ref (s.heap.objs.size + 1) :: us) _ _ (E σ) (hr.make C us [])
    (I2.env0.make C us []) (by have z := hb _ (Value.ref (s.heap.objs.size + 1) :: us) I2.kIn (by rw [List.append_nil]; exact hl); rw [List.append_nil] at z; exact z) r2 hq) fun r s' hq' => ?_))
  cases r with
  | error e => exact hx pins _ _ e s' I2 hq'
  | ok fl =>
    cases fl with
    | ret u =>
      obtain ⟨v, H', I3, rv, ev, q3⟩ := I2.after hq'
      subst ev
      exact ⟨rv, ⟨V.ref (s.heap.objs.size + 1), H', I3, rfl, q3⟩⟩
    | next => exact False.elim hq'
    | brk => exact False.elim hq'
    | cont => exact False.elim hq'
def tMakeO (C : Addr) (sp : Sp) (E : L2.St → XK) (t : TA) : TE := fun σ H Q => t σ H fun vs H1 => ∀ x dx, H1 x = none → H1 dx = none → dx ≠ x → sp (.ref x :: vs) (upd (upd H1 dx (.own x)) x (.ins C dx [])) (fun v H2 => v = .non ∧ Q (.ref x) H2) (E σ)
theorem pe_makeO (M : Mk X.K C f) (F : FnOk X.prog X.w X.K X.mg X.base CX k f fd ps sp) (hr : Room (k + 1) X.A) (hg : Gl X x) (hm : X.mg x = some (.ref C)) (hb : Binds X.K fd ps []) (hx : ∀ σ, PassesAt CX X σ (E σ))
    (ha : PA X (e :: es) t) (hdb : (x == ("__debug__" : Str)) = false) (he : starEach (e :: es) X.env = (false, eval e X.env) :: starEach es X.env) (hpl : (backTo pos (starEach es X.env)).any (·.1) = false) :
    PE X (.Call (.Name x p) (e :: es) [] pos) (tMakeO C sp E t) := by
  refine ⟨fun pins s σ H Q I h => ?_⟩
  refine wpAny_Call_Name_kw (ld_glob I hg hm ?_ hdb)
  refine PySem.W.callWith_K (h₀ := X.base) I.ok.mod.kin M.kp (thn (ha.run pos pins s σ H _ I h) fun us s1 ⟨vs, H1, I1, r, q⟩ => ⟨I1.kIn, ?_⟩) he hpl
  exact run_makeS M F hr hb (hx σ) I1 r q
theorem pe_makeO0 (M : Mk X.K C f) (F : FnOk X.prog X.w X.K X.mg X.base CX k f fd ps sp) (hr : Room (k + 1) X.A) (hg : Gl X x) (hm : X.mg x = some (.ref C)) (hb : Binds X.K fd ps []) (hx : ∀ σ, PassesAt CX X σ (E σ))
    (hdb : (x == ("__debug__" : Str)) = false) : PE X (.Call (.Name x p) [] [] pos) (tMakeO C sp E tNil') := by
  refine ⟨fun pins s σ H Q I h => ?_⟩
  refine wpAny_Call_Name_kw (ld_glob I hg hm ?_ hdb)
  exact PySem.W.callWith_K0 I.kIn M.kp (run_makeS (us := []) M F hr hb (hx σ) I .nil h)

/-! ### keywords, defaults -/
variable {n : Nat} {ks : List Str} {kws : List Keyword} {tk : TA} {g : List Value → List Value → List Value} {gV : List V → List V → List V}
def tCallKO (n m : Nat) (sp : Sp) (gV : List V → List V → List V) (E : L2.St → XK) (t tk : TA) : TE := fun σ H Q => t σ H fun vs H1 => tk σ H1 fun zs H2 => vs.length = n ∧ zs.length = m ∧ sp (gV vs zs) H2 Q (E σ)
theorem run_fnKO {pins : List (Addr × Obj)} {σ : L2.St} {H : Hp} {s : Shared} {Q : VK} {us ws : List Value} {vs zs : List V} (F : FnOk X.prog X.w X.K X.mg X.base CX k f fd ps sp) (hr : Room k X.A) (hb : KBn X.K fd ps n ks g gV) (hx : PassesAt CX X σ (E σ))
    (I : Inv X pins σ H s) (r : L2.Vals vs us) (rz : L2.Vals zs ws) (l1 : vs.length = n) (l2 : zs.length = ks.length) (h : sp (gV vs zs) H Q (E σ)) : wpAny (model X.prog X.w) X.A (call (.ref f) us (ks.zip ws)) (EP X pins σ Q) X.xe s := by
  have r2 := hb.rel r rz
  refine wpAny_call (codeAny_mono (F.run X.A X.stack s H ⟨us, ks.zip ws⟩ (g us ws) (gV vs zs) Q (E σ) hr I.env0 (hb.to s us ws I.kIn (r.length.symm.trans l1) (rz.length.symm.trans l2)) r2 h) fun r s' hq => ?_)
  cases r with
  | error e => exact hx pins H s e s' I hq
  | ok fl =>
    cases fl with
    | ret u => exact I.after hq
    | next => exact False.elim hq
    | brk => exact False.elim hq
    | cont => exact False.elim hq
theorem pe_callKO (F : FnOk X.prog X.w X.K X.mg X.base CX k f fd ps sp) (hr : Room k X.A) (hg : Gl X x) (hm : X.mg x = some (.ref f)) (hk : PySem.W.keepIn X.K (.ref f) = true) (hb : KBn X.K fd ps n ks g gV) (hx : ∀ σ, PassesAt CX X σ (E σ))
    (ha : PA X (e :: es) t) (hkw : PK X kws tk) (hall : (backToKw pos (keywordEach kws X.env)).all (·.1.isSome) = true) (hks : (backToKw pos (keywordEach kws X.env)).filterMap (·.1) = ks)
    (hdb : (x == ("__debug__" : Str)) = false) (he : starEach (e :: es) X.env = (false, eval e X.env) :: starEach es X.env)
    (hpl : ((backTo pos (starEach (e :: es) X.env)).any (·.1) || (backToKw pos (keywordEach kws X.env)).any (·.1.isNone)) = false) :
    PE X (.Call (.Name x p) (e :: es) kws pos) (tCallKO n ks.length sp gV E t tk) := by
  refine ⟨fun pins s σ H Q I h => ?_⟩
  refine wpAny_Call_Name_kw (ld_glob I hg hm ?_ hdb)
  refine PySem.W.callWith_KW (h₀ := X.base) I.ok.mod.kin hk hall (thn (ha.run pos pins s σ H _ I h) fun us s1 ⟨vs, H1, I1, r, q⟩ => ?_) hpl he
  refine thn (hkw.run pos pins s1 σ H1 _ I1 q) fun ws s2 ⟨zs, H2, I2, rz, l1, l2, q2⟩ => ⟨I2.kIn, ?_⟩
  rw [hks]
  exact run_fnKO F hr hb (hx σ) I2 r rz l1 l2 q2
def tMakeKO (C : Addr) (n m : Nat) (sp : Sp) (gV : List V → List V → List V) (E : L2.St → XK) (t tk : TA) : TE := fun σ H Q => t σ H fun vs H1 => tk σ H1 fun zs H2 => vs.length = n ∧ zs.length = m ∧ ∀ x dx, H2 x = none → H2 dx = none → dx ≠ x →
  sp (gV (.ref x :: vs) zs) (upd (upd H2 dx (.own x)) x (.ins C dx [])) (fun v H3 => v = .non ∧ Q (.ref x) H3) (E σ)
theorem run_makeKO {pins : List (Addr × Obj)} {σ : L2.St} {H : Hp} {s : Shared} {Q : VK} {us ws : List Value} {vs zs : List V} (M : Mk X.K C f) (F : FnOk X.prog X.w X.K X.mg X.base CX k f fd ps sp) (hr : Room (k + 1) X.A) (hb : KBn X.K fd ps (n + 1) ks g gV) (hx : PassesAt CX X σ (E σ))
    (I : Inv X pins σ H s) (r : L2.Vals vs us) (rz : L2.Vals zs ws) (l1 : vs.length = n) (l2 : zs.length = ks.length)
    (h : ∀ x dx, H x = none → H dx = none → dx ≠ x → sp (gV (.ref x :: vs) zs) (upd (upd H dx (.own x)) x (.ins C dx [])) (fun v H2 => v = .non ∧ Q (.ref x) H2) (E σ)) :
    wpAny (model X.prog X.w) X.A (call (.ref C) us (ks.zip ws)) (EP X pins σ Q) X.xe s := by
  have hq := h (s.heap.objs.size + 1) s.heap.objs.size (I.hok.fresh (Nat.le_succ _)) (I.hok.fresh (Nat.le_refl _)) (Nat.ne_of_lt (Nat.lt_succ_self _))
  have I2 := Inv.made (C := C) I
  have r1 : L2.Vals (V.ref (s.heap.objs.size + 1) :: vs) (Value.ref (s.heap.objs.size + 1) :: us) := .cons rfl r
  have r2 := hb.rel r1 rz
  have n1 : (Value.ref (s.heap.objs.size + 1) :: us).length = n + 1 := by
    rw [List.length_cons, ← r.length, l1]
  refine wpAny_call (make_map (f := f) I.kIn M.makes M.init (beq_iff_eq.mp M.fn) (codeAny_mono (F.run _ X.stack _ _ ⟨Value.ref (s.heap.objs.size + 1) :: us, ks.zip ws⟩ (g (Value.ref (s.heap.objs.size + 1) :: us) ws) _ _ (E σ) (hr.make C us (ks.zip ws))
    (I2.env0.make C us (ks.zip ws)) (hb.to _ (Value.ref (s.heap.objs.size + 1) :: us) ws I2.kIn n1 (rz.length.symm.trans l2)) r2 hq) fun r s' hq' => ?_))
  cases r with
  | error e => exact hx pins _ _ e s' I2 hq'
  | ok fl =>
    cases fl with
    | ret u =>
      obtain ⟨v, H', I3, rv, ev, q3⟩ := I2.after hq'
      subst ev
      exact ⟨rv, ⟨V.ref (s.heap.objs.size + 1), H', I3, rfl, q3⟩⟩
    | next => exact False.elim hq'
    | brk => exact False.elim hq'
    | cont => exact False.elim hq'
theorem pe_makeKO (M : Mk X.K C f) (F : FnOk X.prog X.w X.K X.mg X.base CX k f fd ps sp) (hr : Room (k + 1) X.A) (hg : Gl X x) (hm : X.mg x = some (.ref C)) (hb : KBn X.K fd ps (n + 1) ks g gV) (hx : ∀ σ, PassesAt CX X σ (E σ)) (ha : PA X (e :: es) t) (hkw : PK X kws tk)
    (hall : (backToKw pos (keywordEach kws X.env)).all (·.1.isSome) = true) (hks : (backToKw pos (keywordEach kws X.env)).filterMap (·.1) = ks) (hdb : (x == ("__debug__" : Str)) = false)
    (he : starEach (e :: es) X.env = (false, eval e X.env) :: starEach es X.env) (hpl : ((backTo pos (starEach (e :: es) X.env)).any (·.1) || (backToKw pos (keywordEach kws X.env)).any (·.1.isNone)) = false) :
    PE X (.Call (.Name x p) (e :: es) kws pos) (tMakeKO C n ks.length sp gV E t tk) := by
  refine ⟨fun pins s σ H Q I h => ?_⟩
  refine wpAny_Call_Name_kw (ld_glob I hg hm ?_ hdb)
  refine PySem.W.callWith_KW (h₀ := X.base) I.ok.mod.kin M.kp hall (thn (ha.run pos pins s σ H _ I h) fun us s1 ⟨vs, H1, I1, r, q⟩ => ?_) hpl he
  refine thn (hkw.run pos pins s1 σ H1 _ I1 q) fun ws s2 ⟨zs, H2, I2, rz, l1, l2, q2⟩ => ⟨I2.kIn, ?_⟩
  rw [hks]
  exact run_makeKO M F hr hb (hx σ) I2 r rz l1 l2 q2
theorem meth_eqK {o : Expr} {m : Str} {apos pos : Pos} {args : List Expr} {kws : List Keyword} {env : Env} (hbase : attributeBase o m env (eval o env) = eval o env)
    (hform : methodCallForm (args.length + kws.length) (backTo pos (starEach args env)) (backToKw pos (keywordEach kws env)) = true) (hline : (apos.endLine == pos.line) = true) :
    eval (.Call (.Attribute o m apos) args kws pos) env = (do
      let ov ← eval o env
      standAt apos.atName
      let (f, first) ← holding [ov] (getMethod ov m (plainOf o env))
      callWith pos f first (backTo pos (starEach args env)) (backToKw pos (keywordEach kws env))) := by
  rw [arm_eval_Call, hbase]
  simp only [mcall_line hform hline]
def tMethKO (C : Addr) (m : Str) (n j : Nat) (sp : Sp) (gV : List V → List V → List V) (E : L2.St → XK) (ta : TE) (t tk : TA) : TE := fun σ H Q => ta σ H fun x H1 => ∃ a dx fs, x = .ref a ∧ H1 a = some (.ins C dx fs) ∧ fs.lookup m = none ∧ t σ H1 fun vs H2 => tk σ H2 fun zs H3 => vs.length = n ∧ zs.length = j ∧ sp (gV (x :: vs) zs) H3 Q (E σ)
theorem pe_methKO {pl : Sem Bool} (he : PE X o ta) (c : Cls X.K C) (hm : Meth X.K C m f) (F : FnOk X.prog X.w X.K X.mg X.base CX k f fd ps sp) (hr : Room k X.A) (hb : KBn X.K fd ps (n + 1) ks g gV) (hx : ∀ σ, PassesAt CX X σ (E σ)) (ha : PA X (e :: es) t) (hkw : PK X kws tk)
    (hall : (backToKw pos (keywordEach kws X.env)).all (·.1.isSome) = true) (hks : (backToKw pos (keywordEach kws X.env)).filterMap (·.1) = ks)
    (hst : starEach (e :: es) X.env = (false, eval e X.env) :: starEach es X.env) (hpl : ((backTo pos (starEach (e :: es) X.env)).any (·.1) || (backToKw pos (keywordEach kws X.env)).any (·.1.isNone)) = false)
    (ht : eval (.Call (.Attribute o m apos) (e :: es) kws pos) X.env = (do
      let ov ← eval o X.env
      standAt apos.atName
      let (f, first) ← holding [ov] (getMethod ov m pl)
      callWith pos f first (backTo pos (starEach (e :: es) X.env)) (backToKw pos (keywordEach kws X.env)))) :
    PE X (.Call (.Attribute o m apos) (e :: es) kws pos) (tMethKO C m n ks.length sp gV E ta t tk) := by
  refine ⟨fun pins s σ H Q I h => ?_⟩
  refine PySem.W.methodCall_KW (pl := pl) (thn (he.run pins s σ H _ I h) fun u s1 ⟨x, H1, I1, rx, a, dx, fs, ex, ea, l, q⟩ => ?_) ht
  subst ex
  obtain rfl : u = Value.ref a := rx
  refine getmeth_ok I1 ea c hm l ?_
  refine PySem.W.callWith_KW (first := [.ref a]) (h₀ := X.base) I.ok.mod.kin hm.kp hall (thn (ha.run pos pins s1 σ H1 _ I1 q) fun us s2 ⟨vs, H2, I2, r, q2⟩ => ?_) hpl hst
  refine thn (hkw.run pos pins s2 σ H2 _ I2 q2) fun ws s3 ⟨zs, H3, I3, rz, l1, l2, q3⟩ => ⟨I3.kIn, ?_⟩
  rw [hks]
  exact run_fnKO (us := .ref a :: us) (vs := .ref a :: vs) F hr hb (hx σ) I3 (.cons rfl r) rz (by rw [List.length_cons, l1]) l2 q3
end
section
variable {P : Pm}
theorem relKs_any {κ : Type} [DecidableEq κ] {w : Wd} {k : κ} : ∀ {kvs : List (κ × D)} {us : List (κ × V)}, RelKs P w kvs us → (us.any fun kv => decide (kv.1 = k)) = (kvs.any fun kv => decide (kv.1 = k))
  | [], us, r => by
    have r : us = [] := r
    subst r; rfl
  | (j, d) :: kvs, us, ⟨v, us', e, h1, h2⟩ => by
    subst e
    rw [List.any_cons, List.any_cons, relKs_any h2]
theorem relKs_map {κ : Type} [DecidableEq κ] {w : Wd} {k : κ} {d : D} {v : V} (r : RelD P w d v) : ∀ {kvs : List (κ × D)} {us : List (κ × V)}, RelKs P w kvs us →
    RelKs P w (kvs.map fun kv => if kv.1 = k then (kv.1, d) else kv) (us.map fun kv => if kv.1 = k then (kv.1, v) else kv)
  | [], us, h => by
    have h : us = [] := h
    subst h; rfl
  | (j, d') :: kvs, us, ⟨v', us', e, h1, h2⟩ => by
    subst e
    rw [List.map_cons, List.map_cons]
    by_cases hj : j = k
    · simp only [hj, if_true]
      exact ⟨v, _, rfl, r, relKs_map r h2⟩
    · simp only [hj, if_false]
      exact ⟨v', _, rfl, h1, relKs_map r h2⟩
theorem relKs_snoc {κ : Type} {w : Wd} {k : κ} {d : D} {v : V} (r : RelD P w d v) : ∀ {kvs : List (κ × D)} {us : List (κ × V)}, RelKs P w kvs us → RelKs P w (kvs ++ [(k, d)]) (us ++ [(k, v)])
  | [], us, h => by
    have h : us = [] := h
    subst h; exact ⟨v, [], rfl, r, rfl⟩
  | (j, d') :: kvs, us, ⟨v', us', e, h1, h2⟩ => by
    subst e
    exact ⟨v', _, rfl, h1, relKs_snoc r h2⟩
theorem relKs_put {κ : Type} [DecidableEq κ] {w : Wd} {k : κ} {d : D} {v : V} {kvs : List (κ × D)} {us : List (κ × V)} (h : RelKs P w kvs us) (r : RelD P w d v) : RelKs P w (dctPut kvs k d) (putK us k v) := by
  unfold dctPut putK
  rw [relKs_any h]
  split
  · exact relKs_map r h
  · exact relKs_snoc r h
theorem relKs_lit {w : Wd} : ∀ {ks : List Str} {ds : List D} {vs : List V} {kvs : List (Option Key × D)} {us : List (Option Key × V)}, RelKs P w kvs us → RelDs P w ds vs → RelKs P w (dlitP ks ds kvs) (fPut (ks.zip vs) us)
  | [], ds, vs, kvs, us, h, r => by
    cases ds <;> exact h
  | k :: ks, [], vs, kvs, us, h, r => by
    have r : vs = [] := r
    subst r
    exact h
  | k :: ks, d :: ds, vs, kvs, us, h, r => by
    obtain ⟨v, vs', e, r1, r2⟩ := r
    subst e
    show RelKs P w (dlitP ks ds (dctPut kvs (some (.inr k)) d)) (fPut (ks.zip vs') (putK us (some (.inr k)) v))
    exact relKs_lit (relKs_put h r1) r2
end
theorem chkDs_len {C : Ctx} : ∀ (cs : CEs) {ks : List Str} {keys : List (Option Expr)} {vs : List Expr}, chkDs C ks cs keys vs = true → keys.length = ks.length ∧ vs.length = ks.length ∧ keys.all (·.isSome) = true
  | .nil, ks, keys, vs, h => by
    unfold chkDs at h
    split at h
    · exact ⟨rfl, rfl, rfl⟩
    · cases h
  | .cons c cs, ks, keys, vs, h => by
    unfold chkDs at h
    split at h
    · simp only [Bool.and_eq_true] at h
      obtain ⟨g1, g2, g3⟩ := chkDs_len cs h.2
      exact ⟨by rw [List.length_cons, List.length_cons, g1], by rw [List.length_cons, List.length_cons, g2], by rw [List.all_cons, g3]; rfl⟩
    · cases h
theorem relKs_getD {P : Pm} {κ : Type} [DecidableEq κ] {w : Wd} {k : κ} {z : D} {v : V} : ∀ {kvs : List (κ × D)} {us : List (κ × V)}, RelKs P w kvs us → RelD P w z v → RelD P w ((dctVal kvs k).getD z) ((valV us k).getD v)
  | [], us, h, r => by
    have h : us = [] := h
    subst h; exact r
  | (j, d) :: kvs, us, ⟨v', us', e, h1, h2⟩, r => by
    subst e
    by_cases hj : j = k
    · simp only [dctVal, valV, List.find?_cons, hj, decide_true]
      exact h1
    · have := relKs_getD (k := k) h2 r
      simp only [dctVal, valV, List.find?_cons, hj, decide_false] at this ⊢
      exact this
end DL

/-! DL: soundness -/
namespace DL
open PySem L2
structure SE (X : Cx) (P : Pm) (W : WX) (e : Expr) (r : RE × RT) : Prop where
  pe : PE X e (liE P W r.1)
  pt : PT X e (liT P W r.2)
  pw : ∀ op vs pos, e = .BoolOp op vs pos → PW X e (liT P W r.2)
def plainT : Expr → Bool
  | .UnaryOp .Not _ _ => false
  | .BoolOp .. => false
  | .IfExp .. => false
  | .Compare .. => false
  | _ => true
theorem relKs_no {P : Pm} {w : Wd} {f : Str} : ∀ {fs : List (Str × D)} {us : List (Str × V)}, RelKs P w fs us → (fs.map (·.1)).contains f = false → us.lookup f = none
  | [], us, h, _ => by
    have h : us = [] := h
    rw [h]; rfl
  | (k, d) :: r, _, ⟨v, us', e, h2, h3⟩, z => by
    subst e
    rw [List.map_cons, List.contains_cons, Bool.or_eq_false_iff] at z
    rw [List.lookup_cons, z.1]
    exact relKs_no h3 z.2
theorem zip_no {f : Str} : ∀ {ns : List Str} {vs : List V}, ns.contains f = false → (ns.zip vs).lookup f = none
  | [], _, _ => rfl
  | n :: ns, [], _ => rfl
  | n :: ns, v :: vs, z => by
    rw [List.contains_cons, Bool.or_eq_false_iff] at z
    rw [List.zip_cons_cons, List.lookup_cons, z.1]
    exact zip_no z.2
theorem EnvOk.blk {X : Cx} {P : Pm} {C : Ctx} {Φ : Nat → SpD} {κ : Nat → D} (O : EnvOk X P C Φ κ) (s : Shared) (H : Hp) (scope : Scope) (A : Addr) (cl : List (Str × Addr)) (fp : List Addr) :
    EnvOk (X.blk s H scope (compEnvC scope cl A X.env) fp) P (C.blk scope) Φ κ where
  K := O.K
  pg := O.pg
  wl := O.wl
  calm := O.calm
  N := O.N
  nd := O.nd
  sc := by
    show relS scope X.env.scope = relS scope C.sc
    rw [O.sc]
  fn := fun x h => h
  hu := O.hu
  fun_ := O.fun_
  cst := O.cst
  blt := O.blt
  fl := O.fl
  mkr := O.mkr
  mt := O.mt
  kf := O.kf
  km := O.km
  kt := O.kt
  nst := fun n h => by cases h
theorem capsD_at {P : Pm} {w : Wd} {sd : Std} {σ : L2.St} (rs : RelSt P w sd σ) : ∀ {js : List Nat} {cs : List D}, capsD sd js = some cs → ∃ cvs : List V, js.map (NdefX.slotAt σ) = cvs.map some ∧ RelDs P w cs cvs
  | [], _, h => by cases h; exact ⟨[], rfl, rfl⟩
  | j :: js, cs, h => by
    unfold capsD at h
    split at h
    · rename_i d ds hd hds
      cases h
      obtain ⟨v, hv, r⟩ := rs.2 j d hd
      obtain ⟨cvs, h1, h2⟩ := capsD_at rs hds
      exact ⟨v :: cvs, by rw [List.map_cons, List.map_cons, h1, NdefX.slotAt_of hv], v, cvs, rfl, r, h2⟩
    · cases h
open PySem.Spec PyProof.Rows NdefX in
/-- a call of a function made here -/
theorem pe_callD {X : Cx} {i : Nat} {x : Str} {t : TA} {r : Addr → L2.St → List V → Hp → VK → Prop} {e : Expr} {es : List Expr} {p pos : Pos}
    (hr : ∀ (pins : List (Addr × Obj)) (s : Shared) (σ : L2.St) (H : Hp) (us : List Value) (vs : List V) (Q : VK) (f : Addr), Inv X pins σ H s → L2.Vals vs us → r f σ vs H Q → wpAny (model X.prog X.w) X.A (call (.ref f) us) (EP X pins σ Q) X.xe s)
    (hN : X.N[i]? = some x) (hv : Vis X.env.scope x) (ha : PA X (e :: es) t) (hd : (x == ("__debug__" : Str)) = false) (hcd : (x == ("__classdict__" : Str)) = false)
    (he : starEach (e :: es) X.env = (false, eval e X.env) :: starEach es X.env) (hpl : (backTo pos (starEach es X.env)).any (·.1) = false) :
    PE X (.Call (.Name x p) (e :: es) [] pos) (fun σ H Q => ∃ f F, σ[i]? = some (some (.ref f)) ∧ H f = some (FnO f F) ∧ t σ H fun vs H1 => (∃ F', H1 f = some (FnO f F')) ∧ r f σ vs H1 Q) := by
  refine ⟨fun pins s σ H Q I h => ?_⟩
  obtain ⟨f, F, hs, hf, ht⟩ := h
  refine wpAny_Call_Name_kw (thn ((pe_var (pos := p) hN hv hd hcd).run pins s σ H (fun v H1 => v = .ref f ∧ H1 = H) I ⟨.ref f, hs, rfl, rfl⟩) fun u s1 ⟨v, H1, I1, r1, q1⟩ => ?_)
  obtain ⟨ev, eH⟩ := q1
  subst ev
  rw [eH] at I1
  obtain rfl : u = Value.ref f := r1
  refine PySem.W.callWith_F (first := []) (fnAt_of I1 hf) (thn (ha.run pos pins s1 σ H _ I1 ht) fun us s2 ⟨vs, H2, I2, rv, ⟨F', h1⟩, q⟩ => ⟨fnAt_of I2 h1, ?_⟩) he hpl
  show wpAny _ _ (call (.ref f) us) _ _ _
  exact hr _ _ _ _ _ _ _ _ I2 rv q
section
variable {X : Cx} {P : Pm} {C : Ctx} {Φ : Nat → SpD} {κ : Nat → D} {W : WX}
theorem SE.val {e : Expr} {t : RE} (O : EnvOk X P C Φ κ) (h : PE X e (liE P W t)) (hp : plainT e = true) : SE X P W e (valT t) :=
  ⟨h, pt_of O h (by
    intro whole
    cases e <;> first
      | rfl
      | (exfalso; simp [plainT] at hp; done)
      | (rename_i op _ _; cases op <;> first | rfl | (exfalso; simp [plainT] at hp; done))), fun op vs pos q => by rw [q] at hp; exact absurd hp (by simp [plainT])⟩
theorem SE.tst {e : Expr} {t : RT} (h : PE X e (liE P W fun E σ M Q => t E σ M fun k M1 => Q (.bl k) M1)) (h2 : PT X e (liT P W t)) (hp : ∀ op vs pos, e ≠ .BoolOp op vs pos) : SE X P W e (tstT t) := ⟨h, h2, fun op vs pos q => absurd q (hp op vs pos)⟩
theorem liE_c {d : D} {v : V} (r : ∀ w, RelD P w d v) : ∀ σ H Q, liE P W (fun _ _ M Q => Q d M) σ H Q → tC v σ H Q := fun σ H Q q => by
  obtain ⟨w, M, sd, Qd, Ed, R, rs, l, lx, q⟩ := q
  exact l.same R (r w) q
/-- (fun k => Q (.bl k)) below -/
theorem lkT_of {w : Wd} {H : Hp} {Qd : QE} {Q : VK} (l : Lk P w H Qd Q) : LkT P w H (fun k M => Qd (.bl k) M) fun k H => Q (.bl k) H := fun w' M' H' b s R q => l w' M' H' (.bl b) _ s R rfl q
theorem LkT.on {w w' : Wd} {H H' : Hp} {Qd : Bool → Md → Prop} {Q : Bool → Hp → Prop} (l : LkT P w H Qd Q) (s : Step w H w' H') : LkT P w' H' Qd Q := fun w2 M2 H2 b s2 R q => l w2 M2 H2 b (s.trans s2) R q
theorem LkA.on {w w' : Wd} {H H' : Hp} {Qd : List D → Md → Prop} {Q : List V → Hp → Prop} (l : LkA P w H Qd Q) (s : Step w H w' H') : LkA P w' H' Qd Q := fun w2 M2 H2 b c s2 R r q => l w2 M2 H2 b c (s.trans s2) R r q
theorem LkO.on {w w' : Wd} {H H' : Hp} {Qd : Option Int → Md → Prop} {Q : Option Int → Hp → Prop} (l : LkO P w H Qd Q) (s : Step w H w' H') : LkO P w' H' Qd Q := fun w2 M2 H2 b s2 R q => l w2 M2 H2 b (s.trans s2) R q
theorem LkI.on {K : PySem.W.Frag} {w w' : Wd} {H H' : Hp} {Qd : List D → Option Nat → Md → Prop} {Q : It → Hp → Prop} (l : LkI P K w H Qd Q) (s : Step w H w' H') : LkI P K w' H' Qd Q := fun w2 M2 H2 a b c s2 R r q => l w2 M2 H2 a b c (s.trans s2) R r q
/-- built-ins by name -/
theorem sBt (O : EnvOk X P C Φ κ) {b : Bt} {x : Str} {p pos : Pos} {y : Expr} {ys : List Expr} {t : RA} (hb : ∀ T, b ≠ .isi T) (hx : okBlt C (btN b) x = true) (hy : plainE y = true) (hpl : (backTo pos (starEach ys X.env)).any (·.1) = false)
    (ha : PA X (y :: ys) (liA P W t)) : PE X (.Call (.Name x p) (y :: ys) [] pos) (liE P W fun E σ M Q => t E σ M fun ds M1 => btD b ds M1 Q) := by
  obtain ⟨hn, hg, hd, hm, _⟩ := blt_of O hx
  have fin : ∀ {r : List V → Hp → VK → Prop}, (∀ xs H Q, liOA P (btD b) xs H Q → r xs H Q) → ∀ σ H Q, liE P W (fun E σ M Q => t E σ M fun ds M1 => btD b ds M1 Q) σ H Q → tCB r (liA P W t) σ H Q := fun {r} hr σ H Q q => by
    obtain ⟨w, M, sd, Qd, Ed, R, rs, l, lx, q⟩ := q
    exact ⟨w, M, sd, _, Ed, R, rs, fun w' M' H' ds vs s R' r' q => hr _ _ _ ⟨w', M', ds, Qd, R', r', l.on s, q⟩, lx, q⟩
  subst hn
  have st := star_of (es := ys) (env := X.env) hy
  cases b with
  | isi T => exact absurd rfl (hb T)
  | len => exact peI (pe_callB (bt_len O.K) hg hm (by show bootBuiltins "len" = _; exact PySem.boot_len) ha (by decide) hd st hpl) (fin fun _ _ _ h => h)
  | list => exact peI (pe_callTy (bt_list O.K false) hg hm (by show bootBuiltins "list" = _; decide +kernel) ha (by decide) hd st hpl) (fin fun _ _ _ h => h)
  | listM => exact peI (pe_callTy (bt_list O.K true) hg hm (by show bootBuiltins "list" = _; decide +kernel) ha (by decide) hd st hpl) (fin fun _ _ _ h => h)
  | tuple => exact peI (pe_callTy (bt_tuple O.K) hg hm (by show bootBuiltins "tuple" = _; decide +kernel) ha (by decide) hd st hpl) (fin fun _ _ _ h => h)
  | max2 => exact peI (pe_callB (bt_mm O.calm true) hg hm (by show bootBuiltins "max" = _; decide +kernel) ha (by decide) hd st hpl) (fin fun _ _ _ h => h)
  | min2 => exact peI (pe_callB (bt_mm O.calm false) hg hm (by show bootBuiltins "min" = _; decide +kernel) ha (by decide) hd st hpl) (fin fun _ _ _ h => h)
  | int => exact peI (pe_callTy bt_int hg hm (by show bootBuiltins "int" = _; decide +kernel) ha (by decide) hd st hpl) (fin fun _ _ _ h => h)
  | sorted => exact peI (pe_callB (bt_sorted O.K O.hu false) hg hm (by show bootBuiltins "sorted" = _; decide +kernel) ha (by decide) hd st hpl) (fin fun _ _ _ h => h)
  | sortedM => exact peI (pe_callB (bt_sorted O.K O.hu true) hg hm (by show bootBuiltins "sorted" = _; decide +kernel) ha (by decide) hd st hpl) (fin fun _ _ _ h => h)
  | sum => exact peI (pe_callB (bt_sum O.K O.calm) hg hm (by show bootBuiltins "sum" = _; decide +kernel) ha (by decide) hd st hpl) (fin fun _ _ _ h => h)
  | ord => exact peI (pe_callB bt_ord hg hm (by show bootBuiltins "ord" = _; decide +kernel) ha (by decide) hd st hpl) (fin fun _ _ _ h => h)
  | str => exact peI (pe_callTy bt_str hg hm (by show bootBuiltins "str" = _; decide +kernel) ha (by decide) hd st hpl) (fin fun _ _ _ h => h)
  | any => exact peI (pe_callB (bt_any O.K O.calm) hg hm (by show bootBuiltins "any" = _; decide +kernel) ha (by decide) hd st hpl) (fin fun _ _ _ h => h)
  | all => exact peI (pe_callB (bt_all O.K O.calm) hg hm (by show bootBuiltins "all" = _; decide +kernel) ha (by decide) hd st hpl) (fin fun _ _ _ h => h)
theorem obj_look {c g : Str} {w1 : Wd} {M1 : Md} {H1 : Hp} {d : D} {v : V} (R1 : RepM P w1 M1 H1) (r1 : RelD P w1 d v) (z : objD c g d M1) : ∃ a dx fs, v = .ref a ∧ H1 a = some (.ins (P.cls c) dx fs) ∧ fs.lookup g = none := by
  cases d with
  | ref k =>
    obtain ⟨p, e1, hp⟩ := r1
    subst e1
    unfold objD at z
    dsimp only at z
    cases hM : M1[k]? with
    | none => rw [hM] at z; exact z.elim
    | some mo =>
      rw [hM] at z
      cases mo with
      | ins c' us =>
        obtain ⟨q1, z⟩ := z
        subst q1
        obtain ⟨hF, dx, us, e2, hs⟩ := R1.cell k _ p hM hp
        exact ⟨p, dx, us, rfl, e2, relKs_no hs z⟩
      | _ => exact z.elim
  | obj c' ns ds =>
    obtain ⟨p, dx, vs, e1, hp, hl, hs⟩ := r1
    obtain ⟨q1, z⟩ := z
    subst q1; subst e1
    exact ⟨p, dx, ns.zip vs, rfl, R1.sub _ _ hp, zip_no z⟩
  | _ => exact z.elim
theorem plains {env : Env} {pos : Pos} : ∀ {cs : CEs} {es : List Expr}, chkEs C cs es = true → (backTo pos (starEach es env)).any (·.1) = false
  | .nil, [], _ => rfl
  | .nil, _ :: _, h => by simp [chkEs] at h
  | .cons _ _, [], h => by simp [chkEs] at h
  | .cons c cs, e :: es, h => by
    simp only [chkEs, Bool.and_eq_true] at h
    rw [star_of h.1.1]
    show (false || (backTo pos (starEach es env)).any (·.1)) = false
    rw [plains h.2]; rfl

theorem RelDs.scs {w : Wd} : ∀ {df : List Sc}, RelDs P w (df.map Sc.d) (df.map Sc.v)
  | [] => rfl
  | a :: df => ⟨a.v, _, rfl, by cases a <;> rfl, RelDs.scs⟩
/-- keywords by name, what they show -/
theorem chkKs_at {env : Env} {pos : Pos} {ks : List Str} : ∀ {zs : CEs} {ks : List Str} {kws : List Keyword}, chkKs C ks zs kws = true →
    (backToKw pos (keywordEach kws env)).all (·.1.isSome) = true ∧ (backToKw pos (keywordEach kws env)).filterMap (·.1) = ks ∧ (backToKw pos (keywordEach kws env)).any (·.1.isNone) = false
  | .nil, ks, kws, h => by
    unfold chkKs at h
    split at h
    · exact ⟨rfl, rfl, rfl⟩
    · cases h
  | .cons z zs, ks, kws, h => by
    unfold chkKs at h
    split at h
    · simp only [Bool.and_eq_true, beq_iff_eq] at h
      obtain ⟨⟨h1, h2⟩, h3⟩ := h
      obtain ⟨a, b, c⟩ := chkKs_at (env := env) (pos := pos) (ks := ks) h3
      refine ⟨?_, ?_, ?_⟩
      · show (true && (backToKw pos (keywordEach _ env)).all (·.1.isSome)) = true
        rw [a]; rfl
      · show _ :: (backToKw pos (keywordEach _ env)).filterMap (·.1) = _
        rw [b, h1]
      · show (false || (backToKw pos (keywordEach _ env)).any (·.1.isNone)) = false
        rw [c]; rfl
    · cases h
theorem kwform {ys : List Expr} {y : Expr} {kws : List Keyword} {env : Env} {pos : Pos} (h1 : (backTo pos (starEach (y :: ys) env)).any (·.1) = false) (h2 : (backToKw pos (keywordEach kws env)).all (·.1.isSome) = true) (h3 : ys.length + kws.length < 20) :
    methodCallForm ((y :: ys).length + kws.length) (backTo pos (starEach (y :: ys) env)) (backToKw pos (keywordEach kws env)) = true := by
  have e1 : (backTo pos (starEach (y :: ys) env)).all (fun x => !x.1) = true := by
    rw [List.all_eq_true]
    intro z hz
    have := List.any_eq_false.mp h1 z hz
    simpa using this
  unfold methodCallForm
  rw [e1, h2, Bool.true_and, Bool.true_and, decide_eq_true_eq, List.length_cons]
  split <;> omega
/-- a comprehension, from its parts -/
theorem sComp {m : Bool} {elt : CE} {t : Tg} {it : CI} {ifs : CO} {own : List Nat} {x tg iter : Expr} {fs : List Expr} {scope : Scope} {pos : Pos} (O : EnvOk X P C Φ κ) (tk : Takes X W)
    (h1 : blkC C.N C.sc scope (own.filterMap fun i => (C.N[i]?).map fun n => (n, i)) = true) (h2 : (own.all fun i => decide (i < C.N.length)) = true) (h3 : (tgIdx t).all (fun i => own.contains i) = true) (h4 : plainE iter = true)
    (hg : ∀ (s : Shared) (H : Hp) (A : Addr) (cl : List (Str × Addr)) (fp : List Addr), PG (X.blk s H scope (compEnvC scope cl A X.env) fp) tg (liGC P (asgT t) (tgIdx t)))
    (hi : PI X tg iter (liI P X.K W (rdi Φ κ it)))
    (he : ∀ (s : Shared) (H : Hp) (A : Addr) (cl : List (Str × Addr)) (fp : List Addr), PE (X.blk s H scope (compEnvC scope cl A X.env) fp) x (liE P W0 (rd Φ κ elt).1))
    (ht : ∀ (s : Shared) (H : Hp) (A : Addr) (cl : List (Str × Addr)) (fp : List Addr), PTs (X.blk s H scope (compEnvC scope cl A X.env) fp) fs (liT P W0 (rdt Φ κ ifs))) :
    PE X (.ListComp x [⟨tg, iter, fs, 0⟩] scope pos) (liE P W (rd Φ κ (.comp m elt t it ifs own)).1) := by
  have e : (own.filterMap fun i => (C.N[i]?).map fun n => (n, i)).map (·.2) = own := by
    clear h1 h3
    induction own with
    | nil => rfl
    | cons i is ih =>
      rw [List.all_cons, Bool.and_eq_true, decide_eq_true_eq] at h2
      rw [List.filterMap_cons, List.getElem?_eq_getElem h2.1]
      simp only [Option.map_some, List.map_cons]
      rw [ih h2.2]
  refine peI (pe_lc (own := own.filterMap fun i => (C.N[i]?).map fun n => (n, i)) O.calm (by rw [O.N]; exact O.nd) hi (blkOk_by (by rw [O.N, O.sc]; exact h1)) hg ht he (folded_of h4)) fun σ H Q q => ?_
  rw [e]
  exact comp_lift (fun j hj => List.elem_iff.mp (List.all_eq_true.mp h3 j hj)) σ H Q q
theorem chkE_blt {C : Ctx} {b : Bt} {es : CEs} {e : Expr} (hb : ∀ T, b ≠ .isi T) : chkE C (.blt b es) e = (match e with
    | .Call (.Name x _) (y :: ys) [] _ => okBlt C (btN b) x && chkEs C es (y :: ys)
    | _ => false) := by
  cases b <;> first
    | rfl
    | (unfold chkE; rfl)
    | (exfalso; exact hb _ rfl)
theorem relDs_rg {P : Pm} {w : Wd} (a b : Int) : RelDs P w (rngD a b) (rgV a b) := by
  unfold rngD rgV
  generalize List.range (b - a).toNat = xs
  induction xs with
  | nil => exact rfl
  | cons x xs ih => exact ⟨_, _, rfl, rfl, ih⟩
/-- an object of the heap that nothing here names -/
theorem RepM.other {P : Pm} {w : Wd} {M : Md} {H : Hp} {p : Addr} (R : RepM P w M H) (h : H p = none) (o : HO) : RepM P w M (upd H p o) ∧ Step w H w (upd H p o) := by
  have hC : KpC w H w (upd H p o) := fun b q h1 h2 => ⟨h1, by rw [upd_ne fun z => by rw [z, h] at h2; cases h2]; exact h2⟩
  refine ⟨⟨fun a u e => ?_, R.len, R.nd, fun q hq => ?_, fun k m q hm hq => ?_, R.tab.on hC (fun a ps h1 h2 h3 => ⟨h1, h2, by rw [upd_ne fun z => by rw [z, h] at h3; cases h3]; exact h3⟩) (fun a ps z => z) fun b hb o' e => R.tab.nc b hb o' (by rw [upd_ne (fun z => R.inH b hb (by rw [z]; exact h))] at e; exact e)⟩, .refl _, fun a u e _ _ => ?_, fun a _ h1 h2 => ⟨h1, h2⟩, fun a e => upd_some e⟩
  · rw [upd_ne (ne_of_none (R.sub _ _ e) h)]; exact R.sub _ _ e
  · rw [upd_ne (fun z => R.inH q hq (by rw [z]; exact h))]; exact R.inH q hq
  · exact (R.cell k m q hm hq).mono (.refl _) (fun z => z) (upd_ne (fun z => R.inH q (List.mem_of_getElem? hq) (by rw [z]; exact h))) hC
  · rw [upd_ne (ne_of_none e h)]; exact e
theorem relKs_look {P : Pm} {w : Wd} {f : Str} : ∀ {fs : List (Str × D)} {us : List (Str × V)} {d : D}, RelKs P w fs us → fs.lookup f = some d → ∃ v, us.lookup f = some v ∧ RelD P w d v
  | [], _, _, _, h => by cases h
  | (g, x) :: fs, us, d, r, h => by
    obtain ⟨v, us', e, h2, h3⟩ := r
    subst e
    rw [List.lookup_cons] at h
    rw [List.lookup_cons]
    cases hb : f == g with
    | true => rw [hb] at h; cases h; exact ⟨v, rfl, h2⟩
    | false => rw [hb] at h; exact relKs_look h3 h
theorem relDs_look {P : Pm} {w : Wd} {f : Str} : ∀ {ns : List Str} {ds : List D} {vs : List V} {d : D}, ns.length = ds.length → RelDs P w ds vs → (ns.zip ds).lookup f = some d → ∃ v, (ns.zip vs).lookup f = some v ∧ RelD P w d v
  | [], _, _, _, _, _, h => by cases h
  | n :: ns, [], _, _, hl, _, _ => by cases hl
  | n :: ns, x :: ds, vs, d, hl, r, h => by
    obtain ⟨v, us', e, h2, h3⟩ := r
    subst e
    rw [List.zip_cons_cons, List.lookup_cons] at h
    rw [List.zip_cons_cons, List.lookup_cons]
    cases hb : f == n with
    | true => rw [hb] at h; cases h; exact ⟨v, rfl, h2⟩
    | false => rw [hb] at h; exact relDs_look (by simpa using hl) h3 h
theorem relKs_putF {P : Pm} {w : Wd} {f : Str} {d : D} {v : V} (rv : RelD P w d v) : ∀ {fs : List (Str × D)} {us : List (Str × V)}, RelKs P w fs us → RelKs P w (putFD f d fs) (putF f v us)
  | [], us, r => by
    have r : us = [] := r
    subst r
    exact ⟨v, [], rfl, rv, rfl⟩
  | (g, x) :: fs, us, r => by
    obtain ⟨y, us', e, h2, h3⟩ := r
    subst e
    unfold putFD putF
    by_cases h : g = f
    · rw [if_pos h, if_pos h]; exact ⟨v, us', rfl, rv, h3⟩
    · rw [if_neg h, if_neg h]; exact ⟨y, _, rfl, h2, relKs_putF rv h3⟩
theorem passNo {X : Cx} : Passes (L2.CX X.prog X.w) X fun _ _ _ => False := fun _ _ _ _ _ _ _ h => by
  obtain ⟨_, _, _, _, _, _, _, _, _, _, _, _, q⟩ := h
  exact q.elim
theorem make_fin {n : Nat} {c : Str} {m : Bool} {w : Wd} {H : Hp} {Q : VK} {Qd : QE} {Ed : EX} {E' : XK} {w1 : Wd} {M1 : Md} {H1 : Hp} {ds : List D} {vs : List V} (l : Lk P w H Qd Q) (lx : LkX P w H Ed E') (s1 : Step w H w1 H1) (R1 : RepM P w1 M1 H1) (r : RelDs P w1 ds vs)
    (q : Φ n (.ref M1.length :: ds) (M1 ++ [.ins c []]) (fun d M2 => d = .non ∧ if m = true then Qd (.ref M1.length) M2 else ∃ fs, M2 = M1 ++ [.ins c fs] ∧ RLtM M1.length (.ins c fs) ∧ Qd (.obj c (fs.map (·.1)) (fs.map (·.2))) M1) Ed) :
    ∀ x dx, H1 x = none → H1 dx = none → dx ≠ x → liSp P (Φ n) (.ref x :: vs) (upd (upd H1 dx (.own x)) x (.ins (P.cls c) dx [])) (fun v H2 => v = .non ∧ Q (.ref x) H2) E' := by
  intro xa dx hx hdx hne
  obtain ⟨R2, s2⟩ := R1.other hdx (.own xa)
  have hx2 : upd H1 dx (HO.own xa) xa = none := by rw [upd_ne (fun z => hne z.symm)]; exact hx
  obtain ⟨R3, s3⟩ := R2.newC hx2 (.ins (P.cls c) dx []) (.ins c []) .ins ⟨R2.Fnone hx2, dx, [], upd_same, rfl⟩
  have hself : RelD P { w1 with r := w1.r ++ [xa] } (.ref M1.length) (.ref xa) := ⟨xa, rfl, by show (w1.r ++ [xa])[M1.length]? = some xa; rw [R1.len]; simp⟩
  have le13 := s2.le.trans s3.le
  refine ⟨_, _, .ref M1.length :: ds, _, Ed, R3, ⟨.ref xa, vs, rfl, hself, r.mono le13⟩, fun w4 M4 H4 d v s4 R4 r4 q4 => ?_, lx.on ((s1.trans s2).trans s3), q⟩
  obtain ⟨q5, q6⟩ := q4
  subst q5
  refine ⟨r4, ?_⟩
  cases m with
  | true =>
    rw [if_pos rfl] at q6
    exact l w4 M4 H4 _ _ (((s1.trans s2).trans s3).trans s4) R4 (hself.mono s4.le) q6
  | false =>
    rw [if_neg Bool.false_ne_true] at q6
    obtain ⟨fs, e4, hlt, q6⟩ := q6
    subst e4
    obtain ⟨p', ep, hp'⟩ := hself.mono s4.le
    cases ep
    obtain ⟨w5, er, R5, s5, r5⟩ := R4.settleI (k := M1.length) (c := c) (fs := fs) (by simp) hp'
    have e5 : (M1 ++ [MO.ins c fs]).set M1.length .dead = M1 ++ [.dead] := by
      rw [List.set_append_right _ _ (Nat.le_refl _), Nat.sub_self]; rfl
    rw [e5] at R5
    have st := ((s2.trans s3).trans s4).trans s5
    have e6 : (M1 ++ [MO.dead]).take M1.length = M1 := by simp
    have R6 := R5.letgo (n := M1.length) (by simp) (by rw [e6]; exact R1.ok)
    rw [e6] at R6
    refine l _ M1 H4 _ _ (s1.trans (st.letgo (n := M1.length) (by rw [R1.len]; exact Nat.le_refl _))) R6 (r5.cut ?_) q6
    show RLts M1.length (fs.map (·.2))
    rw [RLts_iff]
    intro d hd
    obtain ⟨x, hx, rfl⟩ := List.mem_map.mp hd
    exact hlt x hx
mutual
theorem sE : ∀ (c : CE) {X : Cx} {C : Ctx} {W : WX} {e : Expr}, EnvOk X P C Φ κ → Takes X W → chkE C c e = true → SE X P W e (rd Φ κ c)
  | .var i, X, C, W, e, O, tk, h => by
    unfold chkE at h
    split at h
    · rename_i x pos
      obtain ⟨h1, h2, h3, h4⟩ := vis_of O h
      refine .val O (peI (pe_var h1 h2 h3 h4) fun σ H Q q => ?_) rfl
      obtain ⟨w, M, sd, Qd, Ed, R, rs, l, lx, q⟩ := q
      split at q
      · rename_i d hd
        obtain ⟨v, hv, r⟩ := rs.2 i d hd
        exact ⟨v, hv, l.same R r q⟩
      · exact q.elim
    · cases h
  | .int i, X, C, W, e, O, tk, h => by
    unfold chkE at h
    split at h
    · rw [beq_iff_eq] at h
      subst h
      exact .val O (peI pe_int (liE_c (d := .int i) fun _ => rfl)) rfl
    · cases h
  | .str s, X, C, W, e, O, tk, h => by
    unfold chkE at h
    split at h
    · rw [beq_iff_eq] at h
      subst h
      exact .val O (peI pe_str (liE_c (d := .str s) fun _ => rfl)) rfl
    · cases h
  | .bl s, X, C, W, e, O, tk, h => by
    unfold chkE at h
    split at h
    · rw [beq_iff_eq] at h
      subst h
      exact .val O (peI pe_bl (liE_c (d := .bl s) fun _ => rfl)) rfl
    · cases h
  | .non, X, C, W, e, O, tk, h => by
    unfold chkE at h
    split at h
    · exact .val O (peI pe_non (liE_c (d := .non) fun _ => rfl)) rfl
    · cases h
  | .glob g, X, C, W, e, O, tk, h => by
    unfold chkE at h
    split at h
    · rename_i x pos
      rw [Bool.and_eq_true] at h
      obtain ⟨h1, h2⟩ := h
      split at h2
      · rename_i g' hg
        rw [beq_iff_eq] at h2
        subst h2
        obtain ⟨u, v, hm, r, rr⟩ := O.cst x g hg
        obtain ⟨g1, g2⟩ := glob_of O h1
        exact .val O (peI (pe_glob g1 hm r g2) (liE_c rr)) rfl
      · cases h2
    · cases h
  | .bin o a b, X, C, W, e, O, tk, h => by
    unfold chkE at h
    split at h
    · simp only [Bool.and_eq_true, beq_iff_eq] at h
      obtain ⟨⟨h1, h2⟩, h3⟩ := h
      subst h1
      exact .val O (peI (pe_op (op_sound O.K o) (sE a O tk h2).pe (sE b O tk h3).pe) (liE_op (o := opD o))) rfl
    · cases h
  | .neg a, X, C, W, e, O, tk, h => by
    unfold chkE at h
    split at h
    · refine .val O (peI (pe_un un_neg (sE a O tk h).pe) (liE_bind fun {w M H d v Qd Q} R r l q => ?_)) rfl
      cases d with
      | int i =>
        have r : v = .int i := r
        exact ⟨i, r, l.same R (d := .int _) rfl q⟩
      | _ => exact q.elim
    · cases h
  | .not a, X, C, W, e, O, tk, h => by
    unfold chkE at h
    split at h
    · have ih := sE a O tk h
      refine ⟨peI (pe_notT ih.pe) fun σ H Q q => ?_, ptI (pt_not ih.pt) fun σ H Q q => ?_, by intro _ _ _ z; cases z⟩
      · obtain ⟨w, M, sd, Qd, Ed, R, rs, l, lx, q⟩ := q
        refine ⟨w, M, sd, _, Ed, R, rs, fun w' M' H' d v s R' r q => ?_, lx, q⟩
        obtain ⟨k, h1, h2⟩ := truD_at R' r q
        exact ⟨k, O.K ▸ h1, (l.on s).same R' (d := .bl _) rfl h2⟩
      · obtain ⟨w, M, sd, Qd, Ed, R, rs, l, lx, q⟩ := q
        exact ⟨w, M, sd, _, Ed, R, rs, fun w' M' H' b s R' q => l w' M' H' (!b) s R' q, lx, q⟩
    · cases h
  | .and a b, X, C, W, e, O, tk, h => by
    unfold chkE at h
    split at h
    · rename_i x y rest pos
      rw [Bool.and_eq_true] at h
      have ia := sE a O tk h.1
      have both : PE X (.BoolOp .And (y :: rest) pos) (liE P W (rd Φ κ b).1) ∧ PW X (.BoolOp .And (y :: rest) pos) (liT P W (rd Φ κ b).2) := by
        have h2 := h.2
        split at h2
        · have ib := sE b O tk h2
          exact ⟨pe_one ib.pe, pw_and1 ib.pt⟩
        · have ib := sE b O tk h2
          exact ⟨ib.pe, ib.pw _ _ _ rfl⟩
      have pw : PW X (.BoolOp .And (x :: y :: rest) pos) (liT P W (rd Φ κ (.and a b)).2) := pwI (pw_and ia.pt both.2) fun σ H Q q => by
        obtain ⟨w, M, sd, Qd, Ed, R, rs, l, lx, q⟩ := q
        refine ⟨w, M, sd, _, Ed, R, rs, fun w' M' H' k s R' q => ?_, lx, q⟩
        cases k with
        | true => simp only [if_true] at q ⊢; exact ⟨w', M', sd, Qd, Ed, R', rs.mono s.le, l.on s, lx.on s, q⟩
        | false => simp only [Bool.false_eq_true, if_false] at q ⊢; exact l w' M' H' false s R' q
      refine ⟨peI (pe_andT ia.pe both.1) fun σ H Q q => ?_, pw.pt, fun op vs pos' z => by cases z; exact pw⟩
      obtain ⟨w, M, sd, Qd, Ed, R, rs, l, lx, q⟩ := q
      refine ⟨w, M, sd, _, Ed, R, rs, fun w' M' H' d v s R' r q => ?_, lx, q⟩
      obtain ⟨k, h1, h2⟩ := truD_at R' r q
      refine ⟨k, O.K ▸ h1, ?_⟩
      cases k with
      | true => simp only [if_true] at h2 ⊢; exact ⟨w', M', sd, Qd, Ed, R', rs.mono s.le, l.on s, lx.on s, h2⟩
      | false => simp only [Bool.false_eq_true, if_false] at h2 ⊢; exact l w' M' H' d v s R' r h2
    · cases h
  | .or a b, X, C, W, e, O, tk, h => by
    unfold chkE at h
    split at h
    · rename_i x y rest pos
      rw [Bool.and_eq_true] at h
      have ia := sE a O tk h.1
      have both : PE X (.BoolOp .Or (y :: rest) pos) (liE P W (rd Φ κ b).1) ∧ PW X (.BoolOp .Or (y :: rest) pos) (liT P W (rd Φ κ b).2) := by
        have h2 := h.2
        split at h2
        · have ib := sE b O tk h2
          exact ⟨pe_one ib.pe, pw_or1 ib.pt⟩
        · have ib := sE b O tk h2
          exact ⟨ib.pe, ib.pw _ _ _ rfl⟩
      have pw : PW X (.BoolOp .Or (x :: y :: rest) pos) (liT P W (rd Φ κ (.or a b)).2) := pwI (pw_or ia.pt both.2) fun σ H Q q => by
        obtain ⟨w, M, sd, Qd, Ed, R, rs, l, lx, q⟩ := q
        refine ⟨w, M, sd, _, Ed, R, rs, fun w' M' H' k s R' q => ?_, lx, q⟩
        cases k with
        | true => simp only [if_true] at q ⊢; exact l w' M' H' true s R' q
        | false => simp only [Bool.false_eq_true, if_false] at q ⊢; exact ⟨w', M', sd, Qd, Ed, R', rs.mono s.le, l.on s, lx.on s, q⟩
      refine ⟨peI (pe_orT ia.pe both.1) fun σ H Q q => ?_, pw.pt, fun op vs pos' z => by cases z; exact pw⟩
      obtain ⟨w, M, sd, Qd, Ed, R, rs, l, lx, q⟩ := q
      refine ⟨w, M, sd, _, Ed, R, rs, fun w' M' H' d v s R' r q => ?_, lx, q⟩
      obtain ⟨k, h1, h2⟩ := truD_at R' r q
      refine ⟨k, O.K ▸ h1, ?_⟩
      cases k with
      | true => simp only [if_true] at h2 ⊢; exact l w' M' H' d v s R' r h2
      | false => simp only [Bool.false_eq_true, if_false] at h2 ⊢; exact ⟨w', M', sd, Qd, Ed, R', rs.mono s.le, l.on s, lx.on s, h2⟩
    · cases h
  | .cmp c a b, X, C, W, e, O, tk, h => by
    unfold chkE at h
    split at h
    · simp only [Bool.and_eq_true, beq_iff_eq] at h
      obtain ⟨⟨⟨h1, h2⟩, h3⟩, h4⟩ := h
      subst h1
      have ia := sE a O tk h3
      have ib := sE b O tk h4
      refine .tst (peI (pe_cmpR (cp_sound O.K O.pg O.wl O.hu c) ia.pe ib.pe (mark_of h2)) (liE_op (o := cpR c))) (ptI (pt_cmpR (cp_sound O.K O.pg O.wl O.hu c) ia.pe ib.pe (mark_of h2)) liT_op) (by intro _ _ _ z; cases z)
    · cases h
  | .chain c1 c2 a b d, X, C, W, e, O, tk, h => by
    unfold chkE at h
    split at h
    · rename_i l op op2 r r2 pos
      simp only [Bool.and_eq_true, beq_iff_eq] at h
      obtain ⟨⟨⟨⟨⟨⟨h1, h2⟩, h3⟩, h4⟩, h5⟩, h6⟩, h7⟩ := h
      subst h1; subst h2
      have ia := sE a O tk h5
      have ib := sE b O tk h6
      have ic := sE d O tk h7
      have lm : lastMarks [cpO c1, cpO c2] [r, r2] = false := by
        show behindInMarks (cpO c2) r2 = false
        exact mark_of h4
      have key : ∀ {σ : L2.St} {H : Hp} {Q : VK} {K : Bool → Md → Prop}, (∃ w M sd Ed, RepM P w M H ∧ RelSt P w sd σ ∧ LkT P w H K (fun k H => Q (.bl k) H) ∧ LkX P w H Ed (WE W σ) ∧ (rd Φ κ (.chain c1 c2 a b d)).2 Ed sd M K) →
          tChain (liO2 P (cpR c1)) (liO2 P (cpR c2)) (liE P W (rd Φ κ a).1) (liE P W (rd Φ κ b).1) (liE P W (rd Φ κ d).1) σ H Q := fun {σ H Q K} q => by
        obtain ⟨w, M, sd, Ed, R, rs, l, lx, q⟩ := q
        refine ⟨w, M, sd, _, Ed, R, rs, fun w1 M1 H1 x v s1 R1 r1 q => ?_, lx, q⟩
        refine ⟨w1, M1, sd, _, Ed, R1, rs.mono s1.le, fun w2 M2 H2 y u s2 R2 r2 q => ?_, lx.on s1, q⟩
        have s12 := s1.trans s2
        refine ⟨w2, M2, x, y, fun z M => ∃ k, z = .bl k ∧ M = M2 ∧ if k = true then (rd Φ κ d).1 Ed sd M2 fun z M3 => cpD c2 y z M3 fun k => K k M3 else K false M2, R2, r1.mono s2.le, r2, fun w3 M3 H3 z t s3 R3 r3 q => ?_, ?_⟩
        · obtain ⟨k, e1, e2, q⟩ := q
          subst e1; subst e2
          have r3 : t = .bl k := r3
          have s13 := s12.trans s3
          refine ⟨k, r3, ?_⟩
          cases k with
          | true =>
            simp only [if_true] at q ⊢
            refine ⟨w3, M3, sd, _, Ed, R3, rs.mono s13.le, fun w4 M4 H4 z4 t4 s4 R4 r4 q => ?_, lx.on s13, q⟩
            refine ⟨w4, M4, y, z4, fun z M => ∃ k, z = .bl k ∧ K k M, R4, (r2.mono s3.le).mono s4.le, r4, fun w5 M5 H5 z5 t5 s5 R5 r5 q => ?_, ?_⟩
            · obtain ⟨k, e1, q⟩ := q
              subst e1
              have r5 : t5 = .bl k := r5
              subst r5
              exact l w5 M5 H5 k ((s13.trans s4).trans s5) R5 q
            · have e : (fun b => ∃ k, D.bl b = .bl k ∧ K k M4) = fun k => K k M4 := by
                funext b
                refine propext ⟨fun ⟨k, e, q⟩ => ?_, fun q => ⟨b, rfl, q⟩⟩
                cases e
                exact q
              show cpD c2 y z4 M4 fun b => ∃ k, D.bl b = .bl k ∧ K k M4
              rw [e]; exact q
          | false =>
            simp only [Bool.false_eq_true, if_false] at q ⊢
            exact l w3 M3 H3 false s13 R3 q
        · have e : (fun b => ∃ k, D.bl b = .bl k ∧ M2 = M2 ∧ if k = true then (rd Φ κ d).1 Ed sd M2 fun z M3 => cpD c2 y z M3 fun k => K k M3 else K false M2) = fun k => if k = true then (rd Φ κ d).1 Ed sd M2 fun z M3 => cpD c2 y z M3 fun k => K k M3 else K false M2 := by
            funext b
            refine propext ⟨fun ⟨k, e, _, q⟩ => ?_, fun q => ⟨b, rfl, rfl, q⟩⟩
            cases e
            exact q
          show cpD c1 x y M2 fun b => ∃ k, D.bl b = .bl k ∧ M2 = M2 ∧ if k = true then (rd Φ κ d).1 Ed sd M2 fun z M3 => cpD c2 y z M3 fun k => K k M3 else K false M2
          rw [e]; exact q
      refine .tst (peI (pe_chain (cp_sound O.K O.pg O.wl O.hu c1) (cp_sound O.K O.pg O.wl O.hu c2) ia.pe ib.pe ic.pe lm) fun σ H Q q => ?_) (ptI (pt_chain (cp_sound O.K O.pg O.wl O.hu c1) (cp_sound O.K O.pg O.wl O.hu c2) ia.pe ib.pe ic.pe lm) fun σ H Q q => ?_) (by intro _ _ _ z; cases z)
      · obtain ⟨w, M, sd, Qd, Ed, R, rs, l, lx, q⟩ := q
        exact key ⟨w, M, sd, Ed, R, rs, lkT_of l, lx, q⟩
      · obtain ⟨w, M, sd, Qd, Ed, R, rs, l, lx, q⟩ := q
        exact key (Q := fun x H => ∃ k, x = .bl k ∧ Q k H) ⟨w, M, sd, Ed, R, rs, fun w' M' H' b s R' q => ⟨b, rfl, l w' M' H' b s R' q⟩, lx, q⟩
    · cases h
  | .ife c a b, X, C, W, e, O, tk, h => by
    unfold chkE at h
    split at h
    · simp only [Bool.and_eq_true] at h
      have ic := sE c O tk h.1.1
      have ia := sE a O tk h.1.2
      have ib := sE b O tk h.2
      refine ⟨peI (pe_ifExp ic.pt ia.pe ib.pe) fun σ H Q q => ?_, ⟨fun pins s σ H Q I q => ?_⟩, by intro _ _ _ z; cases z⟩
      · obtain ⟨w, M, sd, Qd, Ed, R, rs, l, lx, q⟩ := q
        refine ⟨w, M, sd, _, Ed, R, rs, fun w' M' H' k s R' q => ?_, lx, q⟩
        cases k with
        | true => simp only [if_true] at q ⊢; exact ⟨w', M', sd, Qd, Ed, R', rs.mono s.le, l.on s, lx.on s, q⟩
        | false => simp only [Bool.false_eq_true, if_false] at q ⊢; exact ⟨w', M', sd, Qd, Ed, R', rs.mono s.le, l.on s, lx.on s, q⟩
      · obtain ⟨w, M, sd, Qd, Ed, R, rs, l, lx, q⟩ := q
        exact False.elim q
    · cases h
  | .tup es, X, C, W, e, O, tk, h => by
    unfold chkE at h
    split at h
    · refine .val O (peI (pe_tup (sEs es O tk h)) fun σ H Q q => ?_) rfl
      obtain ⟨w, M, sd, Qd, Ed, R, rs, l, lx, q⟩ := q
      exact ⟨w, M, sd, _, Ed, R, rs, fun w' M' H' ds vs s R' r q => ⟨by rw [r.length]; exact q.1, fun p hp => (l.on s).tup R' r hp q.2⟩, lx, q⟩
    · cases h
  | .lst m es, X, C, W, e, O, tk, h => by
    unfold chkE at h
    split at h
    · refine .val O (peI (pe_lst (sEs es O tk h)) fun σ H Q q => ?_) rfl
      obtain ⟨w, M, sd, Qd, Ed, R, rs, l, lx, q⟩ := q
      refine ⟨w, M, sd, _, Ed, R, rs, fun w' M' H' ds vs s R' r q => ⟨by rw [r.length]; exact q.1, fun p hp => ?_⟩, lx, q⟩
      cases m with
      | true => exact (l.on s).cell R' r hp q.2
      | false => exact (l.on s).lst R' r hp q.2
    · cases h
  | .idx a b, X, C, W, e, O, tk, h => by
    unfold chkE at h
    split at h
    · simp only [Bool.and_eq_true] at h
      exact .val O (peI (pe_ix (ix_sound O.K O.pg O.wl O.hu) (sE a O tk h.1.2).pe (sE b O tk h.2).pe (plain_ix h.1.1)) (liE_op (o := ixD))) rfl
    · cases h
  | .slc m a lo hi, X, C, W, e, O, tk, h => by
    unfold chkE at h
    split at h
    · simp only [Bool.and_eq_true] at h
      refine .val O (peI (pe_slice (sl_sound O.K m) (sE a O tk h.1.1).pe (sO lo O tk h.1.2) (sO hi O tk h.2)) fun σ H Q q => ?_) rfl
      obtain ⟨w, M, sd, Qd, Ed, R, rs, l, lx, q⟩ := q
      refine ⟨w, M, sd, _, Ed, R, rs, fun w1 M1 H1 d v s1 R1 r1 q => ?_, lx, q⟩
      refine ⟨w1, M1, sd, _, Ed, R1, rs.mono s1.le, fun w2 M2 H2 o s2 R2 q => ?_, lx.on s1, q⟩
      refine ⟨w2, M2, sd, _, Ed, R2, (rs.mono s1.le).mono s2.le, fun w3 M3 H3 o3 s3 R3 q => ?_, (lx.on s1).on s2, q⟩
      exact ⟨w3, M3, d, Qd, R3, (r1.mono s2.le).mono s3.le, ((l.on s1).on s2).on s3, q⟩
    · cases h
  | .call f es, X, C, W, e, O, tk, h => by
    unfold chkE at h
    split at h
    · rename_i x p ys pos
      simp only [Bool.and_eq_true] at h
      obtain ⟨⟨h1, h2⟩, h3⟩ := h
      split at h2
      · rename_i g hg
        rw [beq_iff_eq] at h2
        subst h2
        obtain ⟨k, a, fd, ps, hm, hk, F, hr, hb⟩ := O.fun_ x f hg
        obtain ⟨g1, g2⟩ := glob_of O h1
        cases ys with
        | nil =>
          have he : es = .nil := by
            cases es with
            | nil => rfl
            | cons c cs => simp [chkEs] at h3
          subst he
          refine .val O (peI (pe_call0S F hr g1 hm hk hb (fun σ => passAt tk σ) g2) fun σ H Q q => ?_) rfl
          obtain ⟨w, M, sd, Qd, Ed, R, rs, l, lx, q⟩ := q
          exact ⟨w, M, [], Qd, Ed, R, rfl, l, lx, q⟩
        | cons y ys =>
        have hy : plainE y = true := by
          cases es with
          | nil => simp [chkEs] at h3
          | cons c cs => simp only [chkEs, Bool.and_eq_true] at h3; exact h3.1.1
        have hpl : (backTo pos (starEach ys X.env)).any (·.1) = false := by
          cases es with
          | nil => simp [chkEs] at h3
          | cons c cs => simp only [chkEs, Bool.and_eq_true] at h3; exact plains h3.2
        refine .val O (peI (pe_callS F hr g1 hm hk hb (fun σ => passAt tk σ) (sEs es O tk h3) g2 (star_of hy) hpl) fun σ H Q q => ?_) rfl
        obtain ⟨w, M, sd, Qd, Ed, R, rs, l, lx, q⟩ := q
        exact ⟨w, M, sd, _, Ed, R, rs, fun w1 M1 H1 ds vs s R1 r q => ⟨w1, M1, ds, Qd, Ed, R1, r, l.on s, lx.on s, q⟩, lx, q⟩
      · cases h2
    · cases h
  | .calln i n js es, X, C, W, e, O, tk, h => by
    unfold chkE at h
    split at h
    · rename_i x p y ys pos
      simp only [Bool.and_eq_true] at h
      obtain ⟨⟨h1, h2⟩, h3⟩ := h
      obtain ⟨v1, v2, v3, v4⟩ := vis_of O h1
      have hy : plainE y = true := by
        cases es with
        | nil => simp [chkEs] at h3
        | cons c cs => simp only [chkEs, Bool.and_eq_true] at h3; exact h3.1.1
      have hpl : (backTo pos (starEach ys X.env)).any (·.1) = false := by
        cases es with
        | nil => simp [chkEs] at h3
        | cons c cs => simp only [chkEs, Bool.and_eq_true] at h3; exact plains h3.2
      refine .val O (peI (pe_callD (r := fun f σ vs H Q => ∃ cvs, js.map (NdefX.slotAt σ) = cvs.map some ∧ liSp P (Φ n) (.ref f :: (cvs ++ vs)) H Q (WE W σ)) (fun pins s σ H us vs Q f I rv ⟨cvs, q1, q⟩ => O.nst (n, js) (List.elem_iff.mp h2) cvs _ pins σ H s us vs f Q (passAt tk σ) I rv q1 q) v1 v2 (sEs es O tk h3) v3 v4 (star_of hy) hpl) fun σ H Q q => ?_) rfl
      obtain ⟨w, M, sd, Qd, Ed, R, rs, l, lx, q⟩ := q
      split at q
      · rename_i k cs hk hcs
        obtain ⟨v, hv, f, ev, hf⟩ := rs.2 i _ hk
        subst ev
        obtain ⟨q1, q⟩ := q
        have key : ∀ {w' M' H'}, RepM P w' M' H' → w'.r[k]? = some f → isFn M' k n → ∃ F, H' f = some (NdefX.FnO f F) := fun {w' M' H'} R' hf' z => by
          unfold isFn at z
          split at z
          · rename_i F m _ _ hm
            exact ⟨F, (R'.cell k _ f hm hf').2.1⟩
          · exact z.elim
        obtain ⟨F, hF⟩ := key R hf q1
        obtain ⟨cvs, hc1, hc2⟩ := capsD_at rs hcs
        refine ⟨f, F, hv, hF, w, M, sd, _, Ed, R, rs, fun w1 M1 H1 ds vs s1 R1 r1 q => ?_, lx, q⟩
        have hf1 := s1.le.r _ _ hf
        exact ⟨key R1 hf1 q.1, cvs, hc1, w1, M1, .ref k :: (cs ++ ds), Qd, Ed, R1, ⟨.ref f, cvs ++ vs, rfl, ⟨f, rfl, hf1⟩, (hc2.mono s1.le).append r1⟩, l.on s1, lx.on s1, q.2⟩
      · exact q.elim
    · cases h
  | .rev m a, X, C, W, e, O, tk, h => by
    unfold chkE at h
    split at h
    · rename_i x k p1 p2 p3 pos
      refine .val O (peI (pe_revL (sE a O tk h).pe) fun σ H Q q => ?_) rfl
      obtain ⟨w, M, sd, Qd, Ed, R, rs, l, lx, q⟩ := q
      refine ⟨w, M, sd, _, Ed, R, rs, fun w1 M1 H1 d v s1 R1 r1 q => ?_, lx, q⟩
      split at q
      · rename_i ds hl
        obtain ⟨p, vs, e1, e2, e3⟩ := lstOf_at R1 r1 hl
        refine ⟨p, vs, e1, SqL.of e2, fun q' hq => ?_⟩
        cases m with
        | true =>
          rw [if_pos rfl] at q
          exact (l.on s1).cell R1 e3.reverse hq q
        | false =>
          rw [if_neg Bool.false_ne_true] at q
          exact (l.on s1).lst R1 e3.reverse hq q
      · exact q.elim
    · cases h
  | .meth c m n o es, X, C, W, e, O, tk, h => by
    unfold chkE at h
    split at h
    · rename_i x g ap ys pos
      simp only [Bool.and_eq_true, beq_iff_eq, decide_eq_true_eq] at h
      obtain ⟨⟨⟨⟨⟨⟨h1, h2⟩, h3⟩, h4⟩, h5⟩, h6⟩, h7⟩ := h
      subst h1
      obtain ⟨k, f, fd, ps, hc, hm, F, hr, hb⟩ := O.mt _ (List.elem_iff.mp h5)
      have hpl0 : (backTo pos (starEach ys X.env)).any (·.1) = false := plains h7
      have hform : methodCallForm (ys.length + ([] : List Keyword).length) (backTo pos (starEach ys X.env)) (backToKw pos (keywordEach [] X.env)) = true := by
        have e1 : (backTo pos (starEach ys X.env)).all (fun x => !x.1) = true := by
          rw [List.all_eq_true]
          intro z hz
          have := List.any_eq_false.mp hpl0 z hz
          simpa using this
        show (((backTo pos (starEach ys X.env)).all (fun x => !x.1) && true) && decide (ys.length + 0 + 0 < 30)) = true
        rw [e1]
        simpa using h4
      have ht := meth_eq (o := x) (m := g) (apos := ap) (pos := pos) (args := ys) (env := X.env) (base_of h2) hform (beq_iff_eq.mpr h3)
      have look := @obj_look P c g
      cases ys with
      | nil =>
        have he : es = .nil := by
          cases es with
          | nil => rfl
          | cons c cs => simp [chkEs] at h7
        subst he
        refine .val O (peI (pe_methO0 (sE o O tk h6).pe hc hm F hr hb (fun σ => passAt tk σ) ht) fun σ H Q q => ?_) rfl
        obtain ⟨w, M, sd, Qd, Ed, R, rs, l, lx, q⟩ := q
        refine ⟨w, M, sd, _, Ed, R, rs, fun w1 M1 H1 d v s1 R1 r1 q => ?_, lx, q⟩
        obtain ⟨z, q⟩ := q
        obtain ⟨a, dx, fs, e1, e2, e3⟩ := look R1 r1 z
        exact ⟨a, dx, fs, e1, e2, e3, w1, M1, [d], Qd, Ed, R1, ⟨v, [], rfl, r1, rfl⟩, l.on s1, lx.on s1, q⟩
      | cons y ys =>
        have hy : plainE y = true := by
          cases es with
          | nil => simp [chkEs] at h7
          | cons c cs => simp only [chkEs, Bool.and_eq_true] at h7; exact h7.1.1
        have hpl : (backTo pos (starEach ys X.env)).any (·.1) = false := by
          cases es with
          | nil => simp [chkEs] at h7
          | cons c cs => simp only [chkEs, Bool.and_eq_true] at h7; exact plains h7.2
        refine .val O (peI (pe_methO (sE o O tk h6).pe hc hm F hr hb (fun σ => passAt tk σ) (sEs es O tk h7) (star_of hy) hpl ht) fun σ H Q q => ?_) rfl
        obtain ⟨w, M, sd, Qd, Ed, R, rs, l, lx, q⟩ := q
        refine ⟨w, M, sd, _, Ed, R, rs, fun w1 M1 H1 d v s1 R1 r1 q => ?_, lx, q⟩
        obtain ⟨z, q⟩ := q
        obtain ⟨a, dx, fs, e1, e2, e3⟩ := look R1 r1 z
        refine ⟨a, dx, fs, e1, e2, e3, w1, M1, sd, _, Ed, R1, rs.mono s1.le, fun w2 M2 H2 ds vs s2 R2 r2 q => ?_, lx.on s1, q⟩
        exact ⟨w2, M2, d :: ds, Qd, Ed, R2, ⟨v, vs, rfl, r1.mono s2.le, r2⟩, (l.on s1).on s2, (lx.on s1).on s2, q⟩
    · cases h
  | .blt b es, X, C, W, e, O, tk, h => by
    by_cases hT : ∃ T, b = .isi T
    · obtain ⟨T, hT⟩ := hT
      subst hT
      unfold chkE at h
      split at h
      · rename_i x p y z pz pos
        simp only [Bool.and_eq_true] at h
        obtain ⟨⟨⟨h1, h2⟩, h3⟩, h4⟩ := h
        split at h4
        · rename_i c
          rw [Bool.and_eq_true] at h4
          obtain ⟨n1, g1, d1, m1, _⟩ := blt_of O h1
          obtain ⟨n2, g2, d2, m2, k2⟩ := blt_of O h2
          rw [beq_iff_eq] at h3
          have hz : PE X (.Name z pz) (tC (.ty T)) := by
            exact pe_bltn g2 m2 h3 rfl k2 d2
          subst n1
          refine .val O (peI (pe_callB (bt_isi (T := T) O.K) g1 m1 (by show bootBuiltins "isinstance" = _; decide +kernel) (pa_cons (sE c O tk h4.2).pe (pa_cons hz pa_nil) (star_of h4.1)) (by decide) d1 (star_of h4.1)) fun σ H Q q => ?_) rfl
          obtain ⟨w, M, sd, Qd, Ed, R, rs, l, lx, q⟩ := q
          refine ⟨w, M, sd, _, Ed, R, rs, fun w1 M1 H1 d v s R1 r q => ?_, lx, q⟩
          exact ⟨v, rfl, w1, M1, [d], Qd, R1, .cons r .nil, l.on s, q⟩
        · cases h4
      · cases h
    · have hb : ∀ T, b ≠ .isi T := fun T z => hT ⟨T, z⟩
      have h' := (chkE_blt hb).symm.trans h
      split at h'
      · rename_i x p y ys pos
        rw [Bool.and_eq_true] at h'
        have hy : plainE y = true := by
          cases es with
          | nil => have := h'.2; simp [chkEs] at this
          | cons c cs => have := h'.2; simp only [chkEs, Bool.and_eq_true] at this; exact this.1.1
        have hpl : (backTo pos (starEach ys X.env)).any (·.1) = false := by
          cases es with
          | nil => have := h'.2; simp [chkEs] at this
          | cons c cs => have := h'.2; simp only [chkEs, Bool.and_eq_true] at this; exact plains this.2
        exact .val O (sBt O hb h'.1 hy hpl (sEs es O tk h'.2)) rfl
      · cases h'
  | .mth m o es, X, C, W, e, O, tk, h => by
    unfold chkE at h
    split at h
    · rename_i x n ap ys pos
      simp only [Bool.and_eq_true, beq_iff_eq] at h
      obtain ⟨⟨⟨⟨⟨h1, h2⟩, h3⟩, h4⟩, h5⟩, h6⟩ := h
      subst h1
      have io := sE o O tk h5
      have ies := sEs es O tk h6
      have fin : ∀ σ H Q, liE P W (rd Φ κ (.mth m o es)).1 σ H Q → liE P W (rd Φ κ o).1 σ H fun x H1 => tyV X.K (mtT m) x H1 ∧ liA P W (rds Φ κ es) σ H1 fun xs H2 => liM P m x xs H2 Q := fun σ H Q q => by
        obtain ⟨w, M, sd, Qd, Ed, R, rs, l, lx, q⟩ := q
        refine ⟨w, M, sd, _, Ed, R, rs, fun w1 M1 H1 d v s1 R1 r1 q => ⟨mtK_at O.K R1 r1 q.1, ?_⟩, lx, q⟩
        refine ⟨w1, M1, sd, _, Ed, R1, rs.mono s1.le, fun w2 M2 H2 ds vs s2 R2 r2 q => ?_, lx.on s1, q.2⟩
        exact ⟨w2, M2, d, ds, Qd, R2, r1.mono s2.le, r2, (l.on s1).on s2, q⟩
      cases ys with
      | nil =>
        have he : es = .nil := by
          cases es with
          | nil => rfl
          | cons c cs => simp [chkEs] at h6
        subst he
        refine .val O (peI (pe_bm0 (mt_pa m) (mt_slot m) (mt_type m) (mt_sound O.K m) io.pe (base_of h2) (beq_iff_eq.mpr h3)) fun σ H Q q => ?_) rfl
        obtain ⟨w, M, sd, Qd, Ed, R, rs, l, lx, q⟩ := q
        refine ⟨w, M, sd, _, Ed, R, rs, fun w1 M1 H1 d v s1 R1 r1 q => ⟨mtK_at O.K R1 r1 q.1, ?_⟩, lx, q⟩
        exact ⟨w1, M1, d, [], Qd, R1, r1, rfl, l.on s1, q.2⟩
      | cons y ys =>
        have hy : plainE y = true := by
          cases es with
          | nil => simp [chkEs] at h6
          | cons c cs => simp only [chkEs, Bool.and_eq_true] at h6; exact h6.1.1
        have hpl : (backTo pos (starEach ys X.env)).any (·.1) = false := by
          cases es with
          | nil => simp [chkEs] at h6
          | cons c cs => simp only [chkEs, Bool.and_eq_true] at h6; exact plains h6.2
        refine .val O (peI (pe_bm (mt_pa m) (mt_slot m) (mt_type m) (mt_sound O.K m) io.pe ies (base_of h2) ?_ (beq_iff_eq.mpr h3) (star_of hy) hpl) fin) rfl
        rw [star_of hy]
        have e1 : (backTo pos (starEach ys X.env)).all (fun x => !x.1) = true := by
          rw [List.all_eq_true]
          intro z hz
          have := List.any_eq_false.mp hpl z hz
          simpa using this
        have e2 : (y :: ys).length < 30 := by rw [h4]; cases m <;> decide
        show (((true && (backTo pos (starEach ys X.env)).all (fun x => !x.1)) && true) && decide ((y :: ys).length + 0 + 0 < 30)) = true
        rw [e1]
        simpa using e2
    · cases h
  | .comp m elt t it ifs own, X, C, W, e, O, tk, h => by
    unfold chkE at h
    split at h
    · rename_i x tg iter fs scope pos
      simp only [Bool.and_eq_true] at h
      obtain ⟨⟨⟨⟨⟨⟨⟨h1, h2⟩, h3⟩, h4⟩, h5⟩, h6⟩, h7⟩, h8⟩ := h
      exact .val O (sComp O tk h1 h2 h3 h4 (fun s H A cl fp => pgc_of (O.blk s H scope A cl fp) h5) (sI it O tk h6) (fun s H A cl fp => (sE elt (O.blk s H scope A cl fp) takes0 h7).pe) (fun s H A cl fp => sF ifs (O.blk s H scope A cl fp) takes0 h8)) rfl
    · cases h
  | .fld c a f, X, C, W, e, O, tk, h => by
    unfold chkE at h
    split at h
    · simp only [Bool.and_eq_true, beq_iff_eq] at h
      obtain ⟨⟨⟨h1, h2⟩, h3⟩, h4⟩ := h
      subst h1
      obtain ⟨hc, hn⟩ := O.fl _ (List.elem_iff.mp h2)
      refine .val O (peI (pe_fld (sE a O tk h4).pe (base_of h3)) fun σ H Q q => ?_) rfl
      obtain ⟨w, M, sd, Qd, Ed, R, rs, l, lx, q⟩ := q
      refine ⟨w, M, sd, _, Ed, R, rs, fun w1 M1 H1 d v s1 R1 r1 z => ?_, lx, q⟩
      clear q
      unfold fldD at z
      split at z
      · rename_i k
        obtain ⟨p, e1, hp⟩ := r1
        subst e1
        split at z
        · rename_i c' fs hm
          obtain ⟨q1, z⟩ := z
          subst q1
          split at z
          · rename_i x hx
            obtain ⟨hF, dx, us, e2, hs⟩ := R1.cell k _ p hm hp
            obtain ⟨v, hv, rv⟩ := relKs_look hs hx
            exact ⟨p, _, dx, us, v, rfl, e2, hc, hn, hv, (l.on s1) w1 M1 H1 _ _ (.refl _ _) R1 rv z⟩
          · exact z.elim
        · exact z.elim
      · rename_i c' ns ds
        obtain ⟨p, dx, vs, e1, hp, hl, hs⟩ := r1
        obtain ⟨q1, z⟩ := z
        subst q1; subst e1
        split at z
        · rename_i x hx
          obtain ⟨v, hv, rv⟩ := relDs_look hl hs hx
          exact ⟨p, _, dx, ns.zip vs, v, rfl, R1.sub _ _ hp, hc, hn, hv, (l.on s1) w1 M1 H1 _ _ (.refl _ _) R1 rv z⟩
        · exact z.elim
      · exact z.elim
    · cases h
  | .make m n c es, X, C, W, e, O, tk, h => by
    unfold chkE at h
    split at h
    · rename_i x p ys pos
      simp only [Bool.and_eq_true] at h
      obtain ⟨⟨h1, h2⟩, h3⟩ := h
      obtain ⟨k, f, fd, ps, hm, mk, F, hr, hb⟩ := O.mkr _ (List.elem_iff.mp h2)
      obtain ⟨g1, g2⟩ := glob_of O h1
      have fin : ∀ {w : Wd} {H : Hp} {Q : VK} {Qd : QE} {Ed : EX} {E' : XK} {w1 : Wd} {M1 : Md} {H1 : Hp} {ds : List D} {vs : List V}, Lk P w H Qd Q → LkX P w H Ed E' → Step w H w1 H1 → RepM P w1 M1 H1 → RelDs P w1 ds vs → _ → _ := fun l lx s1 R1 r q => make_fin (n := n) (c := c) (m := m) (Φ := Φ) l lx s1 R1 r q
      cases ys with
      | nil =>
        have he : es = .nil := by
          cases es with
          | nil => rfl
          | cons c cs => simp [chkEs] at h3
        subst he
        refine .val O (peI (pe_makeO0 mk F hr g1 hm hb (fun σ => passAt tk σ) g2) fun σ H Q q => ?_) rfl
        obtain ⟨w, M, sd, Qd, Ed, R, rs, l, lx, q⟩ := q
        exact fin (ds := []) (vs := []) l lx (.refl _ _) R RelDs.nil q
      | cons y ys =>
        have hy : plainE y = true := by
          cases es with
          | nil => simp [chkEs] at h3
          | cons c cs => simp only [chkEs, Bool.and_eq_true] at h3; exact h3.1.1
        have hpl : (backTo pos (starEach ys X.env)).any (·.1) = false := by
          cases es with
          | nil => simp [chkEs] at h3
          | cons c cs => simp only [chkEs, Bool.and_eq_true] at h3; exact plains h3.2
        refine .val O (peI (pe_makeO mk F hr g1 hm hb (fun σ => passAt tk σ) (sEs es O tk h3) g2 (star_of hy) hpl) fun σ H Q q => ?_) rfl
        obtain ⟨w, M, sd, Qd, Ed, R, rs, l, lx, q⟩ := q
        exact ⟨w, M, sd, _, Ed, R, rs, fun w1 M1 H1 ds vs s1 R1 r q => fin l lx s1 R1 r q, lx, q⟩
    · cases h
  | .callK f j es ks zs df, X, C, W, e, O, tk, h => by
    unfold chkE at h
    split at h
    · rename_i x p y ys kws pos
      simp only [Bool.and_eq_true, beq_iff_eq] at h
      obtain ⟨⟨⟨⟨h1, h5⟩, h2⟩, h3⟩, h4⟩ := h
      obtain ⟨k, a, fd, ps, g, hm, hk, F, hr, hb⟩ := O.kf _ (List.elem_iff.mp h2)
      obtain ⟨g1, g2⟩ := glob_of O h1
      have hy : plainE y = true := by
        cases es with
        | nil => simp [chkEs] at h3
        | cons c cs => simp only [chkEs, Bool.and_eq_true] at h3; exact h3.1.1
      have hpl := plains (env := X.env) (pos := pos) h3
      obtain ⟨k1, k2, k3⟩ := chkKs_at (env := X.env) (pos := pos) (ks := ks) h4
      refine .val O (peI (pe_callKO F hr g1 hm hk hb (fun σ => passAt tk σ) (sEs es O tk h3) (sKs zs O tk h4) k1 k2 g2 (star_of hy) (by rw [hpl, k3]; rfl)) fun σ H Q q => ?_) rfl
      obtain ⟨w, M, sd, Qd, Ed, R, rs, l, lx, q⟩ := q
      refine ⟨w, M, sd, _, Ed, R, rs, fun w1 M1 H1 ds vs s1 R1 r q => ?_, lx, q⟩
      obtain ⟨l1, q⟩ := q
      refine ⟨w1, M1, sd, _, Ed, R1, rs.mono s1.le, fun w2 M2 H2 us zs s2 R2 r2 q => ?_, lx.on s1, q⟩
      obtain ⟨l2, q⟩ := q
      exact ⟨by rw [r.length]; exact l1, by rw [r2.length]; exact l2, w2, M2, _, Qd, Ed, R2, (r.mono s2.le).append (r2.append RelDs.scs), (l.on s1).on s2, (lx.on s1).on s2, q⟩
    · cases h
  | .makeK m n c j es ks zs df, X, C, W, e, O, tk, h => by
    unfold chkE at h
    split at h
    · rename_i x p y ys kws pos
      simp only [Bool.and_eq_true, beq_iff_eq] at h
      obtain ⟨⟨⟨⟨h1, h5⟩, h2⟩, h3⟩, h4⟩ := h
      obtain ⟨k, f, fd, ps, g, hm, mk, F, hr, hb⟩ := O.km _ (List.elem_iff.mp h2)
      obtain ⟨g1, g2⟩ := glob_of O h1
      have hy : plainE y = true := by
        cases es with
        | nil => simp [chkEs] at h3
        | cons c cs => simp only [chkEs, Bool.and_eq_true] at h3; exact h3.1.1
      have hpl := plains (env := X.env) (pos := pos) h3
      obtain ⟨k1, k2, k3⟩ := chkKs_at (env := X.env) (pos := pos) (ks := ks) h4
      refine .val O (peI (pe_makeKO mk F hr g1 hm hb (fun σ => passAt tk σ) (sEs es O tk h3) (sKs zs O tk h4) k1 k2 g2 (star_of hy) (by rw [hpl, k3]; rfl)) fun σ H Q q => ?_) rfl
      obtain ⟨w, M, sd, Qd, Ed, R, rs, l, lx, q⟩ := q
      refine ⟨w, M, sd, _, Ed, R, rs, fun w1 M1 H1 ds vs s1 R1 r q => ?_, lx, q⟩
      obtain ⟨l1, q⟩ := q
      refine ⟨w1, M1, sd, _, Ed, R1, rs.mono s1.le, fun w2 M2 H2 us zs s2 R2 r2 q => ?_, lx.on s1, q⟩
      obtain ⟨l2, q⟩ := q
      refine ⟨by rw [r.length]; exact l1, by rw [r2.length]; exact l2, ?_⟩
      exact make_fin (n := n) (c := c) (m := m) (Φ := Φ) l lx (s1.trans s2) R2 ((r.mono s2.le).append (r2.append RelDs.scs)) q
    · cases h
  | .methK c m n o j es ks zs df, X, C, W, e, O, tk, h => by
    unfold chkE at h
    split at h
    · rename_i x g ap y ys kws pos
      simp only [Bool.and_eq_true, beq_iff_eq, decide_eq_true_eq] at h
      obtain ⟨⟨⟨⟨⟨⟨⟨⟨h1, h2⟩, h3⟩, h4⟩, h9⟩, h5⟩, h6⟩, h7⟩, h8⟩ := h
      subst h1
      obtain ⟨k, f, fd, ps, gg, hc, hm, F, hr, hb⟩ := O.kt _ (List.elem_iff.mp h5)
      have hy : plainE y = true := by
        cases es with
        | nil => simp [chkEs] at h7
        | cons c cs => simp only [chkEs, Bool.and_eq_true] at h7; exact h7.1.1
      have hpl := plains (env := X.env) (pos := pos) h7
      obtain ⟨k1, k2, k3⟩ := chkKs_at (env := X.env) (pos := pos) (ks := ks) h8
      have ht := meth_eqK (o := x) (m := g) (apos := ap) (pos := pos) (args := y :: ys) (kws := kws) (env := X.env) (base_of h2) (kwform hpl k1 h4) (beq_iff_eq.mpr h3)
      refine .val O (peI (pe_methKO (sE o O tk h6).pe hc hm F hr hb (fun σ => passAt tk σ) (sEs es O tk h7) (sKs zs O tk h8) k1 k2 (star_of hy) (by rw [hpl, k3]; rfl) ht) fun σ H Q q => ?_) rfl
      obtain ⟨w, M, sd, Qd, Ed, R, rs, l, lx, q⟩ := q
      refine ⟨w, M, sd, _, Ed, R, rs, fun w1 M1 H1 d v s1 R1 r1 q => ?_, lx, q⟩
      obtain ⟨z, q⟩ := q
      obtain ⟨a, dx, fs, e1, e2, e3⟩ := obj_look R1 r1 z
      refine ⟨a, dx, fs, e1, e2, e3, w1, M1, sd, _, Ed, R1, rs.mono s1.le, fun w2 M2 H2 ds vs s2 R2 r2 q => ?_, lx.on s1, q⟩
      obtain ⟨l1, q⟩ := q
      refine ⟨w2, M2, sd, _, Ed, R2, (rs.mono s1.le).mono s2.le, fun w3 M3 H3 us zs s3 R3 r3 q => ?_, (lx.on s1).on s2, q⟩
      obtain ⟨l2, q⟩ := q
      refine ⟨by rw [r2.length]; exact l1, by rw [r3.length]; exact l2, w3, M3, d :: (ds ++ (us ++ df.map Sc.d)), Qd, Ed, R3, ⟨v, _, rfl, (r1.mono s2.le).mono s3.le, ?_⟩, ((l.on s1).on s2).on s3, ((lx.on s1).on s2).on s3, q⟩
      exact (r2.mono s3.le).append (r3.append RelDs.scs)
    · cases h
  | .listRg m a, X, C, W, e, O, tk, h => by
    unfold chkE at h
    split at h
    · simp only [Bool.and_eq_true] at h
      obtain ⟨⟨⟨h1, h2⟩, h3⟩, h4⟩ := h
      obtain ⟨hn, hg, hd, hm, _⟩ := blt_of O h1
      obtain ⟨hn2, hg2, hd2, hm2, _⟩ := blt_of O h2
      subst hn; subst hn2
      refine .val O (peI (pe_listRg O.calm hg hm (prg_1 hg2 hm2 (sE a O tk h4).pe (star_of h3)) rfl) fun σ H Q q => ?_) rfl
      obtain ⟨w, M, sd, Qd, Ed, R, rs, l, lx, q⟩ := q
      refine ⟨w, M, sd, _, Ed, R, rs, fun w1 M1 H1 d v s1 R1 r1 q => ?_, lx, q⟩
      cases d with
      | int j =>
        have r1 : v = .int j := r1
        subst r1
        obtain ⟨q1, q2, q⟩ := q
        refine ⟨j, rfl, ⟨by omega, by omega, by omega, by omega, by omega⟩, fun p hp => ?_⟩
        cases m with
        | true => exact (l.on s1).cell R1 (relDs_rg 0 j) hp q
        | false => exact (l.on s1).lst R1 (relDs_rg 0 j) hp q
      | _ => exact q.elim
    · cases h
  | .dnew, X, C, W, e, O, tk, h => by
    unfold chkE at h
    split at h
    · refine .val O (peI pe_dnewF fun σ H Q q => ?_) rfl
      obtain ⟨w, M, sd, Qd, Ed, R, rs, l, lx, q⟩ := q
      intro p hp
      rw [← O.pg, ← O.wl]
      have le : Le w { w with r := w.r ++ [p] } := ⟨fun _ _ e => e, fun k q e => by
        show (w.r ++ [p])[k]? = some q
        rw [List.getElem?_append_left (List.getElem?_eq_some_iff.mp e).1]; exact e⟩
      obtain ⟨R', s⟩ := R.newC hp (FD P.pg P.wl p []) (.dct []) .fd ⟨R.Fnone hp, [], upd_same, rfl⟩
      exact l _ _ _ (.ref M.length) _ s R' ⟨p, rfl, by show (w.r ++ [p])[M.length]? = some p; rw [R.len]; simp⟩ q
    · cases h
  | .dget o k x, X, C, W, e, O, tk, h => by
    unfold chkE at h
    split at h
    · rename_i y n ap a b pos
      simp only [Bool.and_eq_true, beq_iff_eq] at h
      obtain ⟨⟨⟨⟨⟨⟨⟨h1, h2⟩, h3⟩, h4⟩, h5⟩, h6⟩, h7⟩, h8⟩ := h
      subst h1
      have sb : starEach [a, b] X.env = [(false, eval a X.env), (false, eval b X.env)] := by rw [star_of h4, star_of h5]; rfl
      refine .val O (peI (pe_fget2 (by have := O.hu; omega) (sE o O tk h6).pe (sE k O tk h7).pe (sE x O tk h8).pe ⟨base_of h2, by rw [sb]; rfl, beq_iff_eq.mpr h3, by rw [sb]; rfl⟩) fun σ H Q q => ?_) rfl
      obtain ⟨w, M, sd, Qd, Ed, R, rs, l, lx, q⟩ := q
      refine ⟨w, M, sd, _, Ed, R, rs, fun w1 M1 H1 d v s1 R1 r1 q => ?_, lx, q⟩
      obtain ⟨⟨i, kvs, ed, hm⟩, q⟩ := q
      subst ed
      obtain ⟨p, ev, hp⟩ := r1
      obtain ⟨hF, us, e2, _⟩ := R1.cell i _ p hm hp
      rw [O.pg, O.wl] at e2
      refine ⟨p, us, ev, e2, ?_⟩
      refine ⟨w1, M1, sd, _, Ed, R1, rs.mono s1.le, fun w2 M2 H2 y v2 s2 R2 r2 q => ?_, lx.on s1, q⟩
      refine ⟨w2, M2, sd, _, Ed, R2, (rs.mono s1.le).mono s2.le, fun w3 M3 H3 z v3 s3 R3 r3 q => ?_, (lx.on s1).on s2, q⟩
      have hp3 : w3.r[i]? = some p := s3.le.2 _ _ (s2.le.2 _ _ hp)
      unfold dgetD at q
      dsimp only at q
      split at q
      · rename_i kvs3 hm3
        split at q
        · rename_i ky hk
          obtain ⟨hF3, us3, e3, hs3⟩ := R3.cell i _ p hm3 hp3
          have hv := keyD_at (r2.mono s3.le) hk
          rw [O.pg, O.wl] at e3
          refine ⟨us3, ky, e3, hv, ?_⟩
          exact (((l.on s1).on s2).on s3).same R3 (relKs_getD hs3 r3) q
        · exact q.elim
      · exact q.elim
    · cases h
  | .dlit ks es, X, C, W, e, O, tk, h => by
    unfold chkE at h
    split at h
    · rename_i keys vs pos
      simp only [Bool.and_eq_true, decide_eq_true_eq] at h
      obtain ⟨⟨h1, h2⟩, h3⟩ := h
      obtain ⟨g1, g2, g3⟩ := chkDs_len es h3
      refine .val O (peI (pe_dlitF (sDs es O tk h3) g3 (by rw [g1, g2]) (fun z => by rw [z] at g1; cases ks with
        | nil => cases h1
        | cons _ _ => cases g1) (by rw [g1]; exact h2) h2) fun σ H Q q => ?_) rfl
      obtain ⟨w, M, sd, Qd, Ed, R, rs, l, lx, q⟩ := q
      intro p hp
      rw [← O.pg, ← O.wl]
      have le : Le w { w with r := w.r ++ [p] } := ⟨fun _ _ e => e, fun k q e => by
        show (w.r ++ [p])[k]? = some q
        rw [List.getElem?_append_left (List.getElem?_eq_some_iff.mp e).1]; exact e⟩
      obtain ⟨R', s⟩ := R.newC hp (FD P.pg P.wl p []) (.dct []) .fd ⟨R.Fnone hp, [], upd_same, rfl⟩
      have hpw : ({ w with r := w.r ++ [p] } : Wd).r[M.length]? = some p := by show (w.r ++ [p])[M.length]? = some p; rw [R.len]; simp
      refine ⟨_, _, sd, _, Ed, R', rs.mono s.le, fun w2 M2 H2 ds us s2 R2 r2 q => ?_, lx.on s, q⟩
      obtain ⟨hm, q⟩ := q
      have hp2 : w2.r[M.length]? = some p := s2.le.2 _ _ hpw
      obtain ⟨hF, us0, e2, hs⟩ := R2.cell M.length _ p hm hp2
      have hs : us0 = [] := hs
      subst hs
      obtain ⟨R3, s3⟩ := R2.write (o := FD P.pg P.wl p (fPut (ks.zip us) [])) (m' := .dct (dlitP ks ds [])) hm hF hp2 .fd ⟨hF, _, upd_same, relKs_lit rfl r2⟩
      exact ⟨e2, l _ _ _ (.ref M.length) _ (s.trans (s2.trans s3)) R3 ⟨p, rfl, hp2⟩ q⟩
    · cases h
  | .dnewT, X, C, W, e, O, tk, h => by
    unfold chkE at h
    split at h
    · refine .val O (peI pe_dnewT fun σ H Q q => ?_) rfl
      obtain ⟨w, M, sd, Qd, Ed, R, rs, l, lx, q⟩ := q
      intro p hp
      rw [← O.pg, ← O.wl]
      have le : Le w { w with r := w.r ++ [p] } := ⟨fun _ _ e => e, fun k q e => by
        show (w.r ++ [p])[k]? = some q
        rw [List.getElem?_append_left (List.getElem?_eq_some_iff.mp e).1]; exact e⟩
      obtain ⟨R', s⟩ := R.newC hp (TD P.pg P.wl p []) (.dctT []) .td ⟨R.Fnone hp, [], upd_same, rfl⟩
      exact l _ _ _ (.ref M.length) _ s R' ⟨p, rfl, by show (w.r ++ [p])[M.length]? = some p; rw [R.len]; simp⟩ q
    · cases h
theorem sEs : ∀ (cs : CEs) {X : Cx} {C : Ctx} {W : WX} {es : List Expr}, EnvOk X P C Φ κ → Takes X W → chkEs C cs es = true → PA X es (liA P W (rds Φ κ cs))
  | .nil, X, C, W, es, O, tk, h => by
    unfold chkEs at h
    split at h
    · refine paI pa_nil fun σ H Q q => ?_
      obtain ⟨w, M, sd, Qd, Ed, R, rs, l, lx, q⟩ := q
      exact l w M H [] [] (.refl _ _) R rfl q
    · cases h
  | .cons c cs, X, C, W, es, O, tk, h => by
    unfold chkEs at h
    split at h
    · simp only [Bool.and_eq_true] at h
      refine paI (pa_cons (sE c O tk h.1.2).pe (sEs cs O tk h.2) (star_of h.1.1)) fun σ H Q q => ?_
      obtain ⟨w, M, sd, Qd, Ed, R, rs, l, lx, q⟩ := q
      refine ⟨w, M, sd, _, Ed, R, rs, fun w1 M1 H1 d v s1 R1 r1 q => ?_, lx, q⟩
      refine ⟨w1, M1, sd, _, Ed, R1, rs.mono s1.le, fun w2 M2 H2 ds vs s2 R2 r2 q => ?_, lx.on s1, q⟩
      exact l w2 M2 H2 (d :: ds) (v :: vs) (s1.trans s2) R2 (.cons (r1.mono s2.le) r2) q
    · cases h
theorem sKs : ∀ (cs : CEs) {X : Cx} {C : Ctx} {W : WX} {ks : List Str} {kws : List Keyword}, EnvOk X P C Φ κ → Takes X W → chkKs C ks cs kws = true → PK X kws (liA P W (rds Φ κ cs))
  | .nil, X, C, W, ks, kws, O, tk, h => by
    unfold chkKs at h
    split at h
    · refine ⟨fun pos pins s σ H Q I q => pk_nil.run pos pins s σ H Q I ?_⟩
      obtain ⟨w, M, sd, Qd, Ed, R, rs, l, lx, q⟩ := q
      exact l w M H [] [] (.refl _ _) R rfl q
    · cases h
  | .cons c cs, X, C, W, ks, kws, O, tk, h => by
    unfold chkKs at h
    split at h
    · simp only [Bool.and_eq_true] at h
      refine ⟨fun pos pins s σ H Q I q => (pk_cons (sE c O tk h.1.2).pe (sKs cs O tk h.2)).run pos pins s σ H Q I ?_⟩
      obtain ⟨w, M, sd, Qd, Ed, R, rs, l, lx, q⟩ := q
      refine ⟨w, M, sd, _, Ed, R, rs, fun w1 M1 H1 d v s1 R1 r1 q => ?_, lx, q⟩
      refine ⟨w1, M1, sd, _, Ed, R1, rs.mono s1.le, fun w2 M2 H2 ds vs s2 R2 r2 q => ?_, lx.on s1, q⟩
      exact l w2 M2 H2 (d :: ds) (v :: vs) (s1.trans s2) R2 (.cons (r1.mono s2.le) r2) q
    · cases h
theorem sDs : ∀ (cs : CEs) {X : Cx} {C : Ctx} {W : WX} {ks : List Str} {keys : List (Option Expr)} {vs : List Expr}, EnvOk X P C Φ κ → Takes X W → chkDs C ks cs keys vs = true → PD X ks keys vs (liA P W (rds Φ κ cs))
  | .nil, X, C, W, ks, keys, vs, O, tk, h => by
    unfold chkDs at h
    split at h
    · refine ⟨fun pos pins s σ H Q I q => pd_nil.run pos pins s σ H Q I ?_⟩
      obtain ⟨w, M, sd, Qd, Ed, R, rs, l, lx, q⟩ := q
      exact l w M H [] [] (.refl _ _) R rfl q
    · cases h
  | .cons c cs, X, C, W, ks, keys, vs, O, tk, h => by
    unfold chkDs at h
    split at h
    · simp only [Bool.and_eq_true, beq_iff_eq] at h
      obtain ⟨⟨h1, h2⟩, h3⟩ := h
      subst h1
      refine ⟨fun pos pins s σ H Q I q => (pd_cons (sE c O tk h2).pe (sDs cs O tk h3)).run pos pins s σ H Q I ?_⟩
      obtain ⟨w, M, sd, Qd, Ed, R, rs, l, lx, q⟩ := q
      refine ⟨w, M, sd, _, Ed, R, rs, fun w1 M1 H1 d v s1 R1 r1 q => ?_, lx, q⟩
      refine ⟨w1, M1, sd, _, Ed, R1, rs.mono s1.le, fun w2 M2 H2 ds vs s2 R2 r2 q => ?_, lx.on s1, q⟩
      exact l w2 M2 H2 (d :: ds) (v :: vs) (s1.trans s2) R2 (.cons (r1.mono s2.le) r2) q
    · cases h
theorem sO : ∀ (c : CO) {X : Cx} {C : Ctx} {W : WX} {e : Option Expr}, EnvOk X P C Φ κ → Takes X W → chkO C c e = true → PO X e (liO P W (rdo Φ κ c))
  | .none, X, C, W, e, O, tk, h => by
    unfold chkO at h
    split at h
    · refine poI po_none fun σ H Q q => ?_
      obtain ⟨w, M, sd, Qd, Ed, R, rs, l, lx, q⟩ := q
      exact l w M H none (.refl _ _) R q
    · cases h
  | .some c, X, C, W, e, O, tk, h => by
    unfold chkO at h
    split at h
    · refine poI (po_some (sE c O tk h).pe) fun σ H Q q => ?_
      obtain ⟨w, M, sd, Qd, Ed, R, rs, l, lx, q⟩ := q
      refine ⟨w, M, sd, _, Ed, R, rs, fun w1 M1 H1 d v s1 R1 r1 q => ?_, lx, q⟩
      cases d with
      | int i =>
        have r1 : v = .int i := r1
        exact ⟨i, r1, l w1 M1 H1 (some i) s1 R1 q⟩
      | _ => exact q.elim
    · cases h
theorem sF : ∀ (c : CO) {X : Cx} {C : Ctx} {W : WX} {e : List Expr}, EnvOk X P C Φ κ → Takes X W → chkF C c e = true → PTs X e (liT P W (rdt Φ κ c))
  | .none, X, C, W, e, O, tk, h => by
    unfold chkF at h
    split at h
    · refine ⟨fun pins s σ H Q I q => pts_nil.run pins s σ H Q I ?_⟩
      obtain ⟨w, M, sd, Qd, Ed, R, rs, l, lx, q⟩ := q
      exact l w M H true (.refl _ _) R q
    · cases h
  | .some c, X, C, W, e, O, tk, h => by
    unfold chkF at h
    split at h
    · exact pts_one (sE c O tk h).pt
    · cases h
theorem sI : ∀ (c : CI) {X : Cx} {C : Ctx} {W : WX} {tg e : Expr}, EnvOk X P C Φ κ → Takes X W → chkI C c e = true → PI X tg e (liI P X.K W (rdi Φ κ c))
  | .seq c, X, C, W, tg, e, O, tk, h => by
    unfold chkI at h
    rw [Bool.and_eq_true] at h
    refine piI (pi_seq (sE c O tk h.2).pe) fun σ H Q q => ?_
    obtain ⟨w, M, sd, Qd, Ed, R, rs, l, lx, q⟩ := q
    refine ⟨w, M, sd, _, Ed, R, rs, fun w1 M1 H1 d v s1 R1 r1 q => ?_, lx, q⟩
    split at q
    · rename_i ds hds
      obtain ⟨a, e1, z⟩ := itOk_seq O.K R1 r1 hds
      refine ⟨a, e1, ?_⟩
      rcases z with ⟨z1, z2⟩ | ⟨z1, z2⟩
      · exact .inl ⟨z1, l w1 M1 H1 _ _ _ s1 R1 z2 q⟩
      · exact .inr ⟨z1, l w1 M1 H1 _ _ _ s1 R1 z2 q⟩
    · exact q.elim
  | .chars c, X, C, W, tg, e, O, tk, h => by
    unfold chkI at h
    rw [Bool.and_eq_true] at h
    refine piI (pi_str (sE c O tk h.2).pe) fun σ H Q q => ?_
    obtain ⟨w, M, sd, Qd, Ed, R, rs, l, lx, q⟩ := q
    refine ⟨w, M, sd, _, Ed, R, rs, fun w1 M1 H1 d v s1 R1 r1 q => ?_, lx, q⟩
    cases d with
    | str z =>
      have r1 : v = .str z := r1
      exact ⟨z, r1, l w1 M1 H1 _ _ _ s1 R1 (.chr rfl) q⟩
    | _ => exact q.elim
  | .rng1 c, X, C, W, tg, e, O, tk, h => by
    unfold chkI at h
    split at h
    · simp only [Bool.and_eq_true] at h
      obtain ⟨hn, hg, hd, hm, _⟩ := blt_of O h.1.1
      subst hn
      refine piI (pi_range1 hg hm (pa_cons (sE c O tk h.2).pe pa_nil (star_of h.1.2)) (star_of h.1.2)) fun σ H Q q => ?_
      obtain ⟨w, M, sd, Qd, Ed, R, rs, l, lx, q⟩ := q
      refine ⟨w, M, sd, _, Ed, R, rs, fun w1 M1 H1 d v s1 R1 r1 q => ?_, lx, q⟩
      cases d with
      | int j =>
        have r1 : v = .int j := r1
        subst r1
        refine ⟨j, rfl, q.1, q.2.1, ?_⟩
        have z := l w1 M1 H1 _ _ _ s1 R1 (.rng (i := 0) (j := j) rfl) q.2.2
        simpa using z
      | _ => exact q.elim
    · cases h
  | .rng2 c c2, X, C, W, tg, e, O, tk, h => by
    unfold chkI at h
    split at h
    · simp only [Bool.and_eq_true] at h
      obtain ⟨hn, hg, hd, hm, _⟩ := blt_of O h.1.1.1.1
      subst hn
      refine piI (pi_range2 hg hm (pa_cons (sE c O tk h.1.2).pe (pa_cons (sE c2 O tk h.2).pe pa_nil (star_of h.1.1.2)) (star_of h.1.1.1.2)) (by rw [star_of h.1.1.1.2, star_of h.1.1.2]; rfl) (by rw [star_of h.1.1.2]; rfl)) fun σ H Q q => ?_
      obtain ⟨w, M, sd, Qd, Ed, R, rs, l, lx, q⟩ := q
      refine ⟨w, M, sd, _, Ed, R, rs, fun w1 M1 H1 d v s1 R1 r1 q => ?_, lx, q⟩
      refine ⟨w1, M1, sd, _, Ed, R1, rs.mono s1.le, fun w2 M2 H2 d2 v2 s2 R2 r2 q => ?_, lx.on s1, q⟩
      cases d <;> cases d2 <;> first | exact False.elim q | skip
      have r1 : v = .int _ := r1
      have r2 : v2 = .int _ := r2
      subst r1; subst r2
      obtain ⟨q1, q2, q3, q4, q⟩ := q
      exact ⟨_, _, rfl, ⟨q1, q2, q3, q4⟩, l w2 M2 H2 _ _ _ (s1.trans s2) R2 (.rng rfl) q⟩
    · cases h
end
end
end DL

/-! DL: statements, defs -/
namespace DL
open PySem L2
theorem swaps_cell {e : Expr} {x : Str} {p : Pos} {l : Nat} {env : Env} (h : env.scope.names.lookup x = some .cell) : swapsWith e (some (.Name x p)) l env = pure false := by
  have k : env.kindOf x = some .cell := h
  cases e <;> first
    | rfl
    | (unfold swapsWith; simp only [k]; cases hb : (env.blockKind == ScopeKind.function) <;> rfl)
    | (unfold swapsWith; simp only [k]; cases hb : (env.blockKind == ScopeKind.function) <;> simp; done)
theorem sole_tuple {t e : Expr} {l : Nat} {env : Env} (ht : ∀ x p, t ≠ .Name x p) : swapsWithSole [t] e l env = pure false := by
  cases t <;> first
    | exact absurd rfl (ht _ _)
    | (cases e <;> rfl)
theorem swst_none {t e : Expr} {env : Env} (h : notTuple e = true) : swappedStores [t] e env = pure none := by
  cases e <;> first
    | (exfalso; simp [notTuple] at h; done)
    | (unfold swappedStores; cases t <;> rfl)
theorem swst_many {t e : Expr} {env : Env} (h : manyTuple e = true) : swappedStores [t] e env = pure none := by
  cases e with
  | Tuple vs k p =>
    have h : 3 < vs.length := of_decide_eq_true h
    unfold swappedStores
    cases t with
    | Tuple ts k2 p2 =>
      dsimp only
      have e1 : (!(ts.length == 2 || ts.length == 3) || vs.length != ts.length || env.blockKind != ScopeKind.function) = true := by
        by_cases h2 : ts.length = 2
        · have : (vs.length != ts.length) = true := by simp; omega
          rw [this]; simp
        · by_cases h3 : ts.length = 3
          · have : (vs.length != ts.length) = true := by simp; omega
            rw [this]; simp
          · have : (ts.length == 2 || ts.length == 3) = false := by simp [h2, h3]
            rw [this]; simp
      rw [if_pos e1]
    | List ts p2 =>
      dsimp only
      have e1 : (!(ts.length == 2 || ts.length == 3) || vs.length != ts.length || env.blockKind != ScopeKind.function) = true := by
        by_cases h2 : ts.length = 2
        · have : (vs.length != ts.length) = true := by simp; omega
          rw [this]; simp
        · by_cases h3 : ts.length = 3
          · have : (vs.length != ts.length) = true := by simp; omega
            rw [this]; simp
          · have : (ts.length == 2 || ts.length == 3) = false := by simp [h2, h3]
            rw [this]; simp
      rw [if_pos e1]
    | _ => rfl
  | _ => exact swst_none rfl
theorem starF {vs : List Expr} (h : vs.all plainE = true) : (vs.any fun | .Starred .. => true | _ => false) = false := by
  rw [List.any_eq_false]
  intro e he
  have := List.all_eq_true.mp h e he
  cases e <;> simp [plainE] at this ⊢
theorem swst_two {x y : Str} {px py kt pt : _} {a b : Expr} {k2 pt2 : _} {env : Env} (hk : env.blockKind = .function) (hx : env.kindOf x = some .local) (hy : env.kindOf y = some .local) (hl : (py.line == px.line) = true) (hn : (x == y) = false) (hp : parOk [a, b] = true) :
    swappedStores [.Tuple [.Name x px, .Name y py] kt pt] (.Tuple [a, b] k2 pt2) env = pure (some [x, y]) := by
  unfold parOk at hp
  simp only [Bool.and_eq_true, Bool.not_eq_true'] at hp
  obtain ⟨⟨h1, h2⟩, h3⟩ := hp
  have h4 := starF h1
  have e2 : ([x, y] : List Str).eraseDups.length = 2 := by
    have : (y == x) = false := by rw [beq_eq_false_iff_ne] at hn ⊢; exact fun z => hn z.symm
    simp [List.eraseDups, List.eraseDupsBy, List.eraseDupsBy.loop, this]
  have hl' : py.line = px.line := beq_iff_eq.mp hl
  unfold swappedStores
  simp [hk, h4, hx, hy, hl', e2, h2, h3, Expr.pos]
  intro z
  exfalso
  rcases z with z | z
  · cases a <;> first | (simp [plainE] at h1; done) | cases z
  · cases b <;> first | (simp [plainE] at h1; done) | cases z
theorem swst_three {x y z : Str} {px py pz kt pt : _} {a b c : Expr} {k2 pt2 : _} {env : Env} (hk : env.blockKind = .function) (hx : env.kindOf x = some .local) (hy : env.kindOf y = some .local) (hz : env.kindOf z = some .local) (hl : (py.line == px.line) = true) (hl2 : (pz.line == px.line) = true)
    (hn : (x == y) = false) (hn2 : (x == z) = false) (hn3 : (y == z) = false) (hp : parOk [a, b, c] = true) :
    swappedStores [.Tuple [.Name x px, .Name y py, .Name z pz] kt pt] (.Tuple [a, b, c] k2 pt2) env = pure (some [x, y, z]) := by
  unfold parOk at hp
  simp only [Bool.and_eq_true, Bool.not_eq_true'] at hp
  obtain ⟨⟨h1, h2⟩, h3⟩ := hp
  have h4 := starF h1
  have e2 : ([x, y, z] : List Str).eraseDups.length = 3 := by
    have t1 : (y == x) = false := by rw [beq_eq_false_iff_ne] at hn ⊢; exact fun w => hn w.symm
    have t2 : (z == x) = false := by rw [beq_eq_false_iff_ne] at hn2 ⊢; exact fun w => hn2 w.symm
    have t3 : (z == y) = false := by rw [beq_eq_false_iff_ne] at hn3 ⊢; exact fun w => hn3 w.symm
    simp [List.eraseDups, List.eraseDupsBy, List.eraseDupsBy.loop, t1, t2, t3]
  have hl' : py.line = px.line := beq_iff_eq.mp hl
  have hl2' : pz.line = px.line := beq_iff_eq.mp hl2
  unfold swappedStores
  simp [hk, h4, hx, hy, hz, hl', hl2', e2, h2, h3, Expr.pos]
  intro z
  exfalso
  rcases z with z | z | z
  · cases a <;> first | (simp [plainE] at h1; done) | cases z
  · cases b <;> first | (simp [plainE] at h1; done) | cases z
  · cases c <;> first | (simp [plainE] at h1; done) | cases z
section
variable {X : Cx} {P : Pm} {C : Ctx} {Φ : Nat → SpD} {κ : Nat → D} {W : WX}
theorem relTs_any {w : Wd} {k : NestedKey} : ∀ {kvs : List (D × D)} {es : List (NestedKey × Addr × V)}, RelTs P w kvs es → (es.any fun x => decide (x.1 = k)) = (kvs.any fun kv => decide (keyN kv.1 = some k))
  | [], es, r => by
    have r : es = [] := r
    subst r; rfl
  | (kd, d) :: kvs, es, ⟨j, b, v, es', e, h1, h2, h3, h4, h5⟩ => by
    subst e
    rw [List.any_cons, List.any_cons, relTs_any h5, h1]
    congr 1
    simp
theorem relTs_put {w : Wd} {k : NestedKey} {kd d : D} {b : Addr} {v : V} (r1 : RelD P w kd (.ref b)) (hk : keyN kd = some k) (hd : k.depth ≤ 8) (r : RelD P w d v) {kvs : List (D × D)} {es : List (NestedKey × Addr × V)} (h : RelTs P w kvs es) : RelTs P w (dctPutT kvs kd k d) (tPut es k b v) := by
  unfold dctPutT tPut
  rw [relTs_any h]
  split
  · next hc =>
    clear hc
    induction kvs generalizing es with
    | nil => have h : es = [] := h; subst h; rfl
    | cons p kvs ih =>
      obtain ⟨kd', d'⟩ := p
      obtain ⟨j, b', v', es', e, h1, h2, h3, h4, h5⟩ := h
      subst e
      rw [List.map_cons, List.map_cons]
      by_cases hj : j = k
      · simp only [h1, hj, if_true]
        exact ⟨k, b', v, _, rfl, hj ▸ h1, hj ▸ h2, h3, r, ih h5⟩
      · have : ¬ keyN kd' = some k := by rw [h1]; intro z; exact hj (Option.some.inj z)
        simp only [this, hj, if_false]
        exact ⟨j, b', v', _, rfl, h1, h2, h3, h4, ih h5⟩
  · next hc =>
    clear hc
    induction kvs generalizing es with
    | nil => have h : es = [] := h; subst h; exact ⟨k, b, v, [], rfl, hk, hd, r1, r, rfl⟩
    | cons p kvs ih =>
      obtain ⟨kd', d'⟩ := p
      obtain ⟨j, b', v', es', e, h1, h2, h3, h4, h5⟩ := h
      subst e
      exact ⟨j, b', v', _, rfl, h1, h2, h3, h4, ih h5⟩
/-- o[i] = v below -/
def setIxD (x y d : D) (M : Md) (Q : Md → Prop) : Prop := match x with
    | .ref k => match M[k]?, y with
      | some (.lst ds), .int j => match ixN ds.length j with
        | some j => Q (M.set k (.lst (ds.set j d)))
        | none => False
      | some (.dct kvs), y => match keyD y with
        | some ky => kvs.length < sizeLine ∧ Q (M.set k (.dct (dctPut kvs ky d)))
        | none => False
      | some (.dctT kvs), y => match tKey y with
        | some ky => kvs.length < sizeLine ∧ Q (M.set k (.dctT (dctPutT kvs y ky d)))
        | none => False
      | _, _ => False
    | _ => False
def rSetIx (P : Pm) : V → V → V → Hp → (Hp → Prop) → Prop := fun o i v H Q => ∃ w M x y d, RepM P w M H ∧ RelD P w x o ∧ RelD P w y i ∧ RelD P w d v ∧
  setIxD x y d M fun M' => ∀ H', Step w H w H' → RepM P w M' H' → Q H'
theorem setIx_sound (O : EnvOk X P C Φ κ) : PSet X (rSetIx P) := by
  intro pins s σ H o i v ov iv u Q I ro ri rv q
  obtain ⟨w, M, x, y, d, R, rx, ry, rd, q⟩ := q
  unfold setIxD at q
  split at q
  · rename_i k
    obtain ⟨p, e, hp⟩ := rx
    subst e
    split at q
    · rename_i ds j hm
      split at q
      · rename_i j' hj
        obtain ⟨hF, vs, e2, hs⟩ := R.cell k _ p hm hp
        have ry : i = .int j := ry
        obtain ⟨R', s'⟩ := R.write (o := .lst (vs.set j' v)) (m' := .lst (ds.set j' d)) hm hF hp .lst ⟨hF, _, upd_same, hs.set j' rd⟩
        exact set_list pins s σ H _ i v ov iv u Q I ro ri rv ⟨p, vs, j, j', rfl, ry, e2, by rw [hs.length]; exact hj, q _ s' R'⟩
      · exact q.elim
    · rename_i kvs hm
      split at q
      · rename_i ky hk
        obtain ⟨hF, us, e2, hs⟩ := R.cell k _ p hm hp
        have hv := keyD_at ry hk
        subst hv
        obtain rfl : ov = Value.ref p := ro
        obtain ⟨R', s'⟩ := R.write (o := FD P.pg P.wl p (putK us ky v)) (m' := .dct (dctPut kvs ky d)) hm hF hp .fd ⟨hF, _, upd_same, relKs_put hs rd⟩
        rw [O.pg, O.wl] at e2
        refine fd_setItem I e2 (by rw [hs.length]; exact q.1) ri rv fun s2 I2 => ⟨_, I2, ?_⟩
        rw [← O.pg, ← O.wl]
        exact q.2 _ s' R'
      · exact q.elim
    · rename_i kvs hm
      split at q
      · rename_i ky hk
        obtain ⟨hF, es, e2, hs⟩ := R.cell k _ p hm hp
        obtain ⟨⟨ds, hd⟩, k1, k2⟩ := tKey_at hk
        have hn := nest_of O.K I R ry ri k1
        subst hd
        obtain ⟨b, vs, ev, _, _⟩ := id ry
        subst ev
        obtain rfl : iv = Value.ref b := ri
        obtain rfl : ov = Value.ref p := ro
        obtain ⟨R', s'⟩ := R.write (o := TD P.pg P.wl p (tPut es ky b v)) (m' := .dctT (dctPutT kvs (.tup ds) ky d)) hm hF hp .td ⟨hF, _, upd_same, relTs_put ry k1 k2 rd hs⟩
        rw [O.pg, O.wl] at e2
        refine td_setItem (by have := O.hu; omega) I e2 (keysAt_of O.K I R hs) ⟨hn, k2⟩ (by rw [hs.length]; exact q.1) rv fun s2 I2 => ⟨_, I2, ?_⟩
        rw [← O.pg, ← O.wl]
        exact q.2 _ s' R'
      · exact q.elim
    · exact q.elim
  · exact q.elim

/-- o.f = .., as one of several targets -/
def gFld (K : PySem.W.Frag) (ta : TE) (f : Str) : TG := fun v σ H Q => ta σ H fun x H1 => ∃ a C dx fs, x = .ref a ∧ H1 a = some (.ins C dx fs) ∧ Cls K C ∧ NoAttr K C f ∧ fs.length < 1000 ∧ Q σ (upd H1 a (.ins C dx (putF f v fs)))
theorem pg_fld {o : Expr} {f : Str} {pos : Pos} {ta : TE} (ha : PE X o ta) : PG X (.Attribute o f pos) (gFld X.K ta f) := by
  refine ⟨fun pins s σ H v u Q I r h => ?_⟩
  show wpAny _ _ (do
    let ov ← holding [u] (eval o X.env)
    standAt pos.atName
    holding [u, ov] (setAttr ov f u)
    release [u, ov] []) _ _ s
  refine wpAny_bind (wpAny_holding (thn (ha.run pins s σ H _ I h) fun ov s1 ⟨x, H1, I1, rx, a, C, dx, fs, ex, ea, c, n, l, q⟩ => ?_))
  subst ex
  obtain rfl : ov = Value.ref a := rx
  refine wpAny_bind (wpAny_standAt (wpAny_bind (wpAny_holding (setattr_ok I1 ea c n l r fun s3 I3 => ?_))))
  exact wpAny_release ⟨σ, _, I3, q⟩
theorem sTF : ∀ (os : CEs) {X : Cx} {C : Ctx} {W : WX} {cf : List (Str × Str)} {es : List Expr}, EnvOk X P C Φ κ → Takes X W → chkTF C cf os es = true → ∃ t, PGs X es t ∧ (assignEach es X.env).length = cf.length ∧ (assignEach es X.env).findIdx? (·.1) = none ∧
    ∀ {w M H sd σ ds vs} {Qd : Md → Prop} {Ed : EX} {Q : L2.St → Hp → Prop}, RepM P w M H → RelSt P w sd σ → RelDs P w ds vs → (∀ w' M' H', Step w H w' H' → RepM P w' M' H' → RelSt P w' sd σ → Qd M' → Q σ H') → LkX P w H Ed (WE W σ) → setTFd Φ κ Ed sd cf os ds M Qd → t vs σ H Q
  | .nil, X, C, W, cf, es, O, tk, h => by
    unfold chkTF at h
    split at h
    · refine ⟨_, pgs_nil, rfl, rfl, fun {w M H sd σ ds vs Qd Ed Q} R rs r l lx q => ?_⟩
      cases ds with
      | nil => exact ⟨r, l w M H (.refl _ _) R rs q⟩
      | cons d ds => exact q.elim
    · rename_i z; cases z
    · cases h
  | .cons o os, X, C, W, cf, es, O, tk, h => by
    unfold chkTF at h
    split at h
    · rename_i z; cases z
    · rename_i c f r o' os' a g pa es' z
      cases z
      simp only [Bool.and_eq_true, beq_iff_eq] at h
      obtain ⟨⟨⟨h1, h2⟩, h3⟩, h4⟩ := h
      subst h1
      obtain ⟨hc, hn⟩ := O.fl _ (List.elem_iff.mp h2)
      obtain ⟨t, g1, g2, g3, g4⟩ := sTF os O tk h4
      refine ⟨_, pgs_cons (pg_fld (sE o O tk h3).pe) g1 rfl, ?_, ?_, fun {w M H sd σ ds vs Qd Ed Q} R rs rr l lx q => ?_⟩
      · show (assignEach es' X.env).length + 1 = _
        rw [g2]; rfl
      · show List.findIdx? (·.1) ((false, _) :: assignEach es' X.env) = none
        rw [List.findIdx?_cons, g3]; rfl
      · cases ds with
        | nil => exact q.elim
        | cons d ds =>
          obtain ⟨v, us, e, r1, r2⟩ := rr
          refine ⟨v, us, e, w, M, sd, _, Ed, R, rs, fun w1 M1 H1 x vx s1 R1 rx z => ?_, lx, q⟩
          clear q
          cases x with
          | ref k =>
            obtain ⟨p, e1, hp2⟩ := rx
            subst e1
            unfold setFD at z
            dsimp only at z
            cases hM : M1[k]? with
            | none => rw [hM] at z; exact z.elim
            | some mo =>
              rw [hM] at z
              cases mo with
              | ins c' fs =>
                obtain ⟨q1, q2, z⟩ := z
                subst q1
                obtain ⟨hF, dx, vs', e2, hs⟩ := R1.cell k _ p hM hp2
                have hl : vs'.length < 1000 := by rw [hs.length]; exact q2
                have ry := r1.mono s1.le
                obtain ⟨R', s'⟩ := R1.write (o := .ins (P.cls _) dx (putF f v vs')) (m' := .ins _ (putFD f d fs)) hM hF hp2 .ins ⟨hF, dx, _, upd_same, relKs_putF ry hs⟩
                refine ⟨p, _, dx, vs', rfl, e2, hc, hn, hl, ?_⟩
                have s12 := s1.trans s'
                exact g4 R' (rs.mono s12.le) (r2.mono s12.le) (fun w2 M2 H2 s2 R2 rs2 q2 => l w2 M2 H2 (s12.trans s2) R2 rs2 q2) (lx.on s12) z
              | _ => exact z.elim
          | _ => exact z.elim
    · cases h
mutual
theorem sS : ∀ (c : CS) {X : Cx} {C : Ctx} {W : WX} {s : Stmt}, EnvOk X P C Φ κ → C.sc.kind = .function → Takes X W → PassesOwn (model X.prog X.w) X.A X.env X.xe → chkS C c s = true → PS X s (liS P W (rS Φ κ c))
  | .setFld c o f v, X, C, W, s, O, hk, tk, hp, h => by
    unfold chkS at h
    split at h
    · rename_i a g ps e pos
      simp only [Bool.and_eq_true, beq_iff_eq] at h
      obtain ⟨⟨⟨h1, h2⟩, h4⟩, h5⟩ := h
      subst h1
      obtain ⟨hc, hn⟩ := O.fl _ (List.elem_iff.mp h2)
      refine psI (ps_fld (sE o O tk h4).pe (sE v O tk h5).pe ?_) fun K σ H q => ?_
      · cases e <;> rfl
      · obtain ⟨w, M, sd, Kd, Ed, R, rs, l, lx, q⟩ := q
        refine ⟨w, M, sd, _, _, R, rs, fun w1 M1 H1 d y s1 R1 r1 q => ?_, lx.at rs, q⟩
        refine ⟨w1, M1, sd, _, _, R1, rs.mono s1.le, fun w2 M2 H2 x vx s2 R2 r2 z => ?_, (lx.on s1).at (rs.mono s1.le), q⟩
        clear q
        unfold setFD at z
        split at z
        · rename_i k
          obtain ⟨p, e1, hp2⟩ := r2
          subst e1
          split at z
          · rename_i c' fs hm
            obtain ⟨q1, q2, z⟩ := z
            subst q1
            obtain ⟨hF, dx, us, e2, hs⟩ := R2.cell k _ p hm hp2
            have hl : us.length < 1000 := by rw [hs.length]; exact q2
            have ry := r1.mono s2.le
            obtain ⟨R', s'⟩ := R2.write (o := .ins (P.cls _) dx (putF f y us)) (m' := .ins _ (putFD f d fs)) hm hF hp2 .ins ⟨hF, dx, _, upd_same, relKs_putF ry hs⟩
            exact ⟨p, _, dx, us, rfl, e2, hc, hn, hl, l.nx _ _ _ _ _ ((s1.trans s2).trans s') R' (((rs.mono s1.le).mono s2.le).mono s'.le) z⟩
          · exact z.elim
        · exact z.elim
    · cases h
  | .set i c, X, C, W, s, O, hk, tk, hp, h => by
    unfold chkS at h
    split at h
    · rename_i x px e pos
      simp only [Bool.and_eq_true, Bool.or_eq_true] at h
      obtain ⟨⟨h1, h2⟩, h3⟩ := h
      obtain ⟨t1, t2, t3⟩ := tgt_of O h1
      have he := (sE c O tk h2).pe
      have fin : ∀ K σ H, liS P W (rS Φ κ (.set i c)) K σ H → tAsg (liE P W (rd Φ κ c).1) (gName i) K σ H := fun K σ H q => by
        obtain ⟨w, M, sd, Kd, Ed, R, rs, l, lx, q⟩ := q
        exact ⟨w, M, sd, _, _, R, rs, fun w1 M1 H1 d v s1 R1 r1 q => l.nx w1 M1 H1 _ _ s1 R1 (relSt_set (rs.mono s1.le) i r1) q, lx.at rs, q⟩
      have nd : X.N.Nodup := by rw [O.N]; exact O.nd
      rcases h3 with (h3 | h3) | h3
      · exact psI (ps_set nd t1 t2 he (swaps_of h3) t3) fin
      · unfold lcSwap at h3
        split at h3
        · rename_i elt gs scope lpos
          simp only [Bool.and_eq_true, beq_iff_eq, Bool.not_eq_true'] at h3
          obtain ⟨⟨k1, k2⟩, k3⟩ := h3
          have hl : X.env.scope.names.lookup x = some .local := by rw [O.sc]; exact k1
          cases c with
          | comp m elt' t it ifs own =>
            unfold chkE at h2
            split at h2
            · rename_i x' tg iter fs scope' pos' heq
              cases heq
              simp only [Bool.and_eq_true] at h2
              obtain ⟨⟨⟨⟨⟨⟨⟨g1, g2⟩, g3⟩, g4⟩, g5⟩, g6⟩, g7⟩, g8⟩ := h2
              have e : (own.filterMap fun i => (C.N[i]?).map fun n => (n, i)).map (·.2) = own := by
                clear g1 g3 he fin
                induction own with
                | nil => rfl
                | cons i is ih =>
                  rw [List.all_cons, Bool.and_eq_true, decide_eq_true_eq] at g2
                  rw [List.filterMap_cons, List.getElem?_eq_getElem g2.1]
                  simp only [Option.map_some, List.map_cons]
                  rw [ih g2.2]
              refine psI (ps_setLc (own := own.filterMap fun i => (C.N[i]?).map fun n => (n, i)) O.calm nd t1 hl (sw_true (by rw [O.sc]; exact hk) hl (beq_iff_eq.mpr k2) k3) (sI it O tk g6) (blkOk_by (by rw [O.N, O.sc]; exact g1))
                (fun s H A cl fp => pgc_of (O.blk s H scope A cl fp) g5) (fun s H A cl fp => sF ifs (O.blk s H scope A cl fp) takes0 g8) (fun s H A cl fp => (sE elt' (O.blk s H scope A cl fp) takes0 g7).pe) (folded_of g4)) fun K σ H q => ?_
              rw [e]
              exact comp_lift (fun j hj => List.elem_iff.mp (List.all_eq_true.mp g3 j hj)) σ H _ (by
                obtain ⟨w, M, sd, Kd, Ed, R, rs, l, lx, q⟩ := q
                exact ⟨w, M, sd, _, _, R, rs, fun w1 M1 H1 d v s1 R1 r1 q => l.nx w1 M1 H1 _ _ s1 R1 (relSt_set (rs.mono s1.le) i r1) q, lx.at rs, q⟩)
            · cases h2
          | blt b es =>
            by_cases hT : ∃ T, b = .isi T
            · obtain ⟨T, hT⟩ := hT
              subst hT
              unfold chkE at h2
              cases h2
            · have := (chkE_blt (fun T z => hT ⟨T, z⟩)).symm.trans h2
              cases this
          | _ => unfold chkE at h2; cases h2
        · cases h3
      · rw [beq_iff_eq] at h3
        exact psI (ps_set nd t1 t2 he (swaps_cell (by rw [O.sc]; exact h3)) t3) fin
    · cases h
  | .setT is c, X, C, W, s, O, hk, tk, hp, h => by
    unfold chkS at h
    split at h
    · rename_i tg e pos
      simp only [Bool.and_eq_true] at h
      obtain ⟨⟨h1, h2⟩, h3⟩ := h
      have hn : ∀ x p, tg ≠ .Name x p := fun x p z => by subst z; simp [okTg] at h1
      have ha : (assignEach [tg] X.env).map (·.2) = [assign tg X.env] := by
        cases tg with
        | Tuple _ _ _ => rfl
        | _ => simp [okTg] at h1
      refine psI (ps_asg (sE c O tk h2).pe (pg_of O h1) (sole_tuple hn) (swst_many h3) ha) fun K σ H q => ?_
      obtain ⟨w, M, sd, Kd, Ed, R, rs, l, lx, q⟩ := q
      exact ⟨w, M, sd, _, _, R, rs, fun w1 M1 H1 d v s1 R1 r1 q => ⟨w1, M1, sd, d, Kd.nx, R1, rs.mono s1.le, r1, l.nx.on s1, q⟩, lx.at rs, q⟩
    · cases h
  | .setP is es, X, C, W, s, O, hk, tk, hp, h => by
    unfold chkS at h
    have hbk : X.env.blockKind = .function := by
      have e : X.env.scope.kind = .function := by rw [O.sc]; exact hk
      unfold Env.blockKind
      rw [e]; rfl
    have loc : ∀ {i : Nat} {x : Str}, okLoc C i x = true → X.N[i]? = some x ∧ X.env.scope.names.lookup x = some .local := fun {i x} h => by
      unfold okLoc at h
      simp only [Bool.and_eq_true, beq_iff_eq] at h
      exact ⟨by rw [O.N]; exact h.1, by rw [O.sc]; exact h.2⟩
    have nd : X.N.Nodup := by rw [O.N]; exact O.nd
    split at h
    · rename_i x px y py kt pt a b k2 pt2 pos
      split at h
      · rename_i i j
        simp only [Bool.and_eq_true, decide_eq_true_eq, Bool.not_eq_true'] at h
        obtain ⟨⟨⟨⟨⟨⟨h1, h2⟩, h3⟩, h4⟩, h5⟩, h6⟩, h7⟩ := h
        obtain ⟨a1, a2⟩ := loc h1
        obtain ⟨b1, b2⟩ := loc h2
        refine psI (ps_par O.calm nd a1 b1 h3 a2 b2 (sEs es O tk h7) (swst_two hbk a2 b2 h5 h4 h6)) fun K σ H q => ?_
        obtain ⟨w, M, sd, Kd, Ed, R, rs, l, lx, q⟩ := q
        refine ⟨w, M, sd, _, _, R, rs, fun w1 M1 H1 ds vs s1 R1 r1 q => ?_, lx.at rs, q⟩
        obtain ⟨hl, q⟩ := q
        match ds, hl, r1, q with
        | [d1, d2], _, r1, q =>
          obtain ⟨v1, t1, e1, ra, v2, t2, e2, rb, e3⟩ := r1
          subst e3 e2 e1
          exact ⟨v1, v2, rfl, l.nx w1 M1 H1 _ _ s1 R1 (relSt_set (relSt_set (rs.mono s1.le) i ra) j rb) q⟩
      · cases h
    · rename_i x px y py z pz kt pt a b c k2 pt2 pos
      split at h
      · rename_i i j k
        simp only [Bool.and_eq_true, decide_eq_true_eq, Bool.not_eq_true'] at h
        obtain ⟨⟨⟨⟨⟨⟨⟨⟨⟨⟨⟨⟨h1, h2⟩, h3⟩, h4⟩, h5⟩, h6⟩, h7⟩, h8⟩, h9⟩, g1⟩, g2⟩, g3⟩, g4⟩ := h
        obtain ⟨a1, a2⟩ := loc h1
        obtain ⟨b1, b2⟩ := loc h2
        obtain ⟨c1, c2⟩ := loc h3
        refine psI (ps_par3 O.calm nd a1 b1 c1 h4 h5 h6 a2 b2 c2 (sEs es O tk g4) (swst_three hbk a2 b2 c2 g1 g2 h7 h8 h9 g3)) fun K σ H q => ?_
        obtain ⟨w, M, sd, Kd, Ed, R, rs, l, lx, q⟩ := q
        refine ⟨w, M, sd, _, _, R, rs, fun w1 M1 H1 ds vs s1 R1 r1 q => ?_, lx.at rs, q⟩
        obtain ⟨hl, q⟩ := q
        match ds, hl, r1, q with
        | [d1, d2, d3], _, r1, q =>
          obtain ⟨v1, t1, e1, ra, v2, t2, e2, rb, v3, t3, e3, rc, e4⟩ := r1
          subst e4 e3 e2 e1
          exact ⟨v1, v2, v3, rfl, l.nx w1 M1 H1 _ _ s1 R1 (relSt_set (relSt_set (relSt_set (rs.mono s1.le) i ra) j rb) k rc) q⟩
      · cases h
    · cases h
  | .setTF cf os e, X, C, W, s, O, hk, tk, hp, h => by
    unfold chkS at h
    split at h
    · rename_i ts kt pt v pos
      simp only [Bool.and_eq_true] at h
      obtain ⟨⟨h1, h2⟩, h3⟩ := h
      obtain ⟨t, g1, g2, g3, g4⟩ := sTF os O tk h1
      refine psI (ps_asg (sE e O tk h2).pe (pg_tup O.calm g1 g2 g3) (sole_tuple (fun x p z => by cases z)) (swst_none h3) rfl) fun K σ H q => ?_
      obtain ⟨w, M, sd, Kd, Ed, R, rs, l, lx, q⟩ := q
      refine ⟨w, M, sd, _, _, R, rs, fun w1 M1 H1 d y s1 R1 r1 q => ?_, lx.at rs, q⟩
      cases d with
      | tup ds =>
        obtain ⟨q1, q⟩ := q
        obtain ⟨p, vs, e1, hp1, hs⟩ := r1
        refine ⟨p, vs, e1, O.K ▸ sqT_mono R1.sub hp1, by rw [hs.length]; exact q1, ?_⟩
        exact g4 R1 (rs.mono s1.le) hs (fun w2 M2 H2 s2 R2 rs2 q2 => l.nx w2 M2 H2 _ _ (s1.trans s2) R2 rs2 q2) ((lx.on s1).at (rs.mono s1.le)) q
      | _ => exact q.elim
    · cases h
  | .aug i e, X, C, W, s, O, hk, tk, hp, h => by
    unfold chkS at h
    split at h
    · rename_i x px v pos
      rw [Bool.and_eq_true] at h
      obtain ⟨t1, t2, t3⟩ := tgt_of O h.1
      have nd : X.N.Nodup := by rw [O.N]; exact O.nd
      refine psI (ps_aug nd t1 t2 (sE e O tk h.2).pe iop_add t3) fun K σ H q => ?_
      obtain ⟨w, M, sd, Kd, Ed, R, rs, l, lx, q⟩ := q
      have q : (match sd[i]? with
        | some (some x) => rE Φ κ e (fun x => Ed x sd) sd M fun y M1 => addI x y fun z => Kd.nx (sd.set i (some z)) M1
        | _ => False) := q
      split at q
      · rename_i d hd
        obtain ⟨x, hx, rx⟩ := rs.2 i d hd
        refine ⟨x, hx, w, M, sd, _, _, R, rs, fun w1 M1 H1 y vy s1 R1 r1 z => ?_, lx.at rs, q⟩
        clear q
        cases d with
        | int i1 =>
          cases y with
          | int i2 =>
            have rx : x = .int i1 := rx
            have r1 : vy = .int i2 := r1
            exact ⟨i1, i2, rx, r1, l.nx w1 M1 H1 _ _ s1 R1 (relSt_set (rs.mono s1.le) i (d := .int (i1 + i2)) rfl) z⟩
          | _ => exact z.elim
        | _ => exact z.elim
      · exact q.elim
    · cases h
  | .augF c o f e, X, C, W, s, O, hk, tk, hp, h => by
    unfold chkS at h
    split at h
    · rename_i a g pa v pos
      simp only [Bool.and_eq_true, beq_iff_eq] at h
      obtain ⟨⟨⟨h1, h2⟩, h4⟩, h5⟩ := h
      subst h1
      obtain ⟨hc, hn⟩ := O.fl _ (List.elem_iff.mp h2)
      refine psI (ps_fldaug (sE o O tk h4).pe (sE e O tk h5).pe in_add) fun K σ H q => ?_
      obtain ⟨w, M, sd, Kd, Ed, R, rs, l, lx, q⟩ := q
      refine ⟨w, M, sd, _, _, R, rs, fun w1 M1 H1 x vx s1 R1 r1 z => ?_, lx.at rs, q⟩
      clear q
      cases x with
      | ref k =>
        have z := z.2
        obtain ⟨p, e1, hp2⟩ := r1
        subst e1
        unfold fldD at z
        dsimp only at z
        cases hM : M1[k]? with
        | none => rw [hM] at z; exact z.elim
        | some mo =>
          rw [hM] at z
          cases mo with
          | ins c' fs =>
            obtain ⟨q1, z⟩ := z
            subst q1
            obtain ⟨hF, dx, us, e2, hs⟩ := R1.cell k _ p hM hp2
            cases hlk : fs.lookup f with
            | none => simp only [hlk] at z
            | some d =>
              simp only [hlk] at z
              obtain ⟨v0, hv0, r0⟩ := relKs_look hs hlk
              refine ⟨p, _, dx, us, v0, rfl, e2, hc, hn, hv0, w1, M1, sd, _, _, R1, rs.mono s1.le, fun w2 M2 H2 y vy s2 R2 r2 z' => ?_, (lx.on s1).at (rs.mono s1.le), z⟩
              clear z
              cases d with
              | int i1 =>
                cases y with
                | int i2 =>
                  have r0 : v0 = .int i1 := r0
                  have r2 : vy = .int i2 := r2
                  refine ⟨i1, i2, r0, r2, ?_⟩
                  have hp3 := s2.le.r _ _ hp2
                  have z' : setFD c' f (.ref k) (.int (i1 + i2)) M2 (fun M' => Kd.nx sd M') := z'
                  unfold setFD at z'
                  dsimp only at z'
                  cases hM2 : M2[k]? with
                  | none => rw [hM2] at z'; exact z'.elim
                  | some mo =>
                    rw [hM2] at z'
                    cases mo with
                    | ins c2 fs2 =>
                      obtain ⟨q1, q2, z'⟩ := z'
                      subst q1
                      obtain ⟨hF2, dx2, us2, e3, hs2⟩ := R2.cell k _ p hM2 hp3
                      have hl : us2.length < 1000 := by rw [hs2.length]; exact q2
                      have ry : RelD P w2 (.int (i1 + i2)) (.int (i1 + i2)) := rfl
                      obtain ⟨R', s'⟩ := R2.write (o := .ins (P.cls _) dx2 (putF f (.int (i1 + i2)) us2)) (m' := .ins _ (putFD f (.int (i1 + i2)) fs2)) hM2 hF2 hp3 .ins ⟨hF2, dx2, _, upd_same, relKs_putF ry hs2⟩
                      exact ⟨dx2, us2, e3, hl, l.nx _ _ _ _ _ ((s1.trans s2).trans s') R' (((rs.mono s1.le).mono s2.le).mono s'.le) z'⟩
                    | _ => exact z'.elim
                | _ => exact z'.elim
              | _ => exact z'.elim
          | _ => exact z.elim
      | _ => exact z.1.elim
    · cases h
  | .setIx o i c, X, C, W, s, O, hk, tk, hp, h => by
    unfold chkS at h
    split at h
    · rename_i a b pb e pos
      simp only [Bool.and_eq_true] at h
      obtain ⟨⟨⟨h1, h2⟩, h3⟩, h4⟩ := h
      refine psI (ps_asg (sE c O tk h4).pe (pg_sub (sE o O tk h2).pe (sE i O tk h3).pe (setIx_sound O) ?_) (sole_tuple (by intro _ _ z; cases z)) ?_ rfl) fun K σ H q => ?_
      · intro v
        cases b <;> first | rfl | (exfalso; simp [plainE] at h1; done)
      · unfold swappedStores
        cases e <;> rfl
      · obtain ⟨w, M, sd, Kd, Ed, R, rs, l, lx, q⟩ := q
        refine ⟨w, M, sd, _, _, R, rs, fun w1 M1 H1 d v s1 R1 r1 q => ?_, lx.at rs, q⟩
        refine ⟨w1, M1, sd, _, _, R1, rs.mono s1.le, fun w2 M2 H2 x vx s2 R2 r2 q => ?_, (lx.on s1).at (rs.mono s1.le), q⟩
        refine ⟨w2, M2, sd, _, _, R2, (rs.mono s1.le).mono s2.le, fun w3 M3 H3 y vy s3 R3 r3 q => ?_, ((lx.on s1).on s2).at ((rs.mono s1.le).mono s2.le), q⟩
        refine ⟨w3, M3, x, y, d, R3, r2.mono s3.le, r3, (r1.mono s2.le).mono s3.le, ?_⟩
        have s13 := (s1.trans s2).trans s3
        have key : ∀ {Q Q' : Md → Prop}, (∀ M, Q M → Q' M) → setIxD x y d M3 Q → setIxD x y d M3 Q' := fun {Q Q'} f q => by
          unfold setIxD at q ⊢
          cases x <;> first | exact q.elim | skip
          rename_i k
          simp only at q ⊢
          split at q
          · split at q
            · exact f _ q
            · exact q.elim
          · split at q
            · exact ⟨q.1, f _ q.2⟩
            · exact q.elim
          · split at q
            · exact ⟨q.1, f _ q.2⟩
            · exact q.elim
          · exact q.elim
        exact key (fun M' qm H' s4 R4 => l.nx w3 M' H' sd σ (s13.trans s4) R4 (rs.mono s13.le) qm) q
    · cases h
  | .expr c, X, C, W, s, O, hk, tk, hp, h => by
    unfold chkS at h
    split at h
    · rw [Bool.and_eq_true] at h
      refine psI (ps_expr (sE c O tk h.2).pe (swaps_of h.1)) fun K σ H q => ?_
      obtain ⟨w, M, sd, Kd, Ed, R, rs, l, lx, q⟩ := q
      exact ⟨w, M, sd, _, _, R, rs, fun w1 M1 H1 d v s1 R1 r1 q => l.nx w1 M1 H1 _ _ s1 R1 (rs.mono s1.le) q, lx.at rs, q⟩
    · cases h
  | .ret c, X, C, W, s, O, hk, tk, hp, h => by
    unfold chkS at h
    split at h
    · refine psI (ps_ret (sE c O tk h).pe) fun K σ H q => ?_
      obtain ⟨w, M, sd, Kd, Ed, R, rs, l, lx, q⟩ := q
      exact ⟨w, M, sd, _, _, R, rs, l.rt, lx.at rs, q⟩
    · cases h
  | .retN, X, C, W, s, O, hk, tk, hp, h => by
    unfold chkS at h
    split at h
    · refine psI ps_retN fun K σ H q => ?_
      obtain ⟨w, M, sd, Kd, Ed, R, rs, l, lx, q⟩ := q
      exact l.rt.same R (d := .non) rfl q
    · cases h
  | .pass, X, C, W, s, O, hk, tk, hp, h => by
    unfold chkS at h
    split at h
    · refine psI ps_pass fun K σ H q => ?_
      obtain ⟨w, M, sd, Kd, Ed, R, rs, l, lx, q⟩ := q
      exact l.nx w M H _ _ (.refl _ _) R rs q
    · cases h
  | .never, X, C, W, s, O, hk, tk, hp, h => by
    refine psI ps_never fun K σ H q => ?_
    obtain ⟨w, M, sd, Kd, Ed, R, rs, l, lx, q⟩ := q
    exact q
  | .brk, X, C, W, s, O, hk, tk, hp, h => by
    unfold chkS at h
    split at h
    · refine psI ps_break fun K σ H q => ?_
      obtain ⟨w, M, sd, Kd, Ed, R, rs, l, lx, q⟩ := q
      exact l.bk w M H _ _ (.refl _ _) R rs q
    · cases h
  | .cont, X, C, W, s, O, hk, tk, hp, h => by
    unfold chkS at h
    split at h
    · refine psI ps_continue fun K σ H q => ?_
      obtain ⟨w, M, sd, Kd, Ed, R, rs, l, lx, q⟩ := q
      exact l.ct w M H _ _ (.refl _ _) R rs q
    · cases h
  | .ifs c a b, X, C, W, s, O, hk, tk, hp, h => by
    unfold chkS at h
    split at h
    · simp only [Bool.and_eq_true] at h
      refine psI (ps_if (sE c O tk h.1.1).pt (sSs a O hk tk hp h.1.2) (sSs b O hk tk hp h.2)) fun K σ H q => ?_
      obtain ⟨w, M, sd, Kd, Ed, R, rs, l, lx, q⟩ := q
      refine ⟨w, M, sd, _, _, R, rs, fun w1 M1 H1 k s1 R1 q => ?_, lx.at rs, q⟩
      cases k with
      | true => simp only [if_true] at q ⊢; exact ⟨w1, M1, sd, Kd, Ed, R1, rs.mono s1.le, l.on s1, lx.on s1, q⟩
      | false => simp only [Bool.false_eq_true, if_false] at q ⊢; exact ⟨w1, M1, sd, Kd, Ed, R1, rs.mono s1.le, l.on s1, lx.on s1, q⟩
    · cases h
  | .fors t it body, X, C, W, s, O, hk, tk, hp, h => by
    unfold chkS at h
    split at h
    · simp only [Bool.and_eq_true] at h
      obtain ⟨⟨⟨h1, h2⟩, h3⟩, h4⟩ := h
      exact psI (ps_for hp O.calm (sI it O tk h3) (pg_of O h1) (sSs body O hk tk hp h4) (folded_of h2)) fun K σ H q => for_lift q
    · cases h
  | .whil c body, X, C, W, s, O, hk, tk, hp, h => by
    unfold chkS at h
    split at h
    · simp only [Bool.and_eq_true] at h
      exact psI (ps_while hp (sE c O tk h.1).pt (sSs body O hk tk hp h.2)) fun K σ H q => while_lift q
    · cases h
theorem sSs : ∀ (c : CSs) {X : Cx} {C : Ctx} {W : WX} {s : List Stmt}, EnvOk X P C Φ κ → C.sc.kind = .function → Takes X W → PassesOwn (model X.prog X.w) X.A X.env X.xe → chkSs C c s = true → PSs X s (liS P W (rSs Φ κ c))
  | .nil, X, C, W, s, O, hk, tk, hp, h => by
    unfold chkSs at h
    split at h
    · refine pssI pss_nil fun K σ H q => ?_
      obtain ⟨w, M, sd, Kd, Ed, R, rs, l, lx, q⟩ := q
      exact l.nx w M H _ _ (.refl _ _) R rs q
    · cases h
  | .cons c cs, X, C, W, s, O, hk, tk, hp, h => by
    unfold chkSs at h
    split at h
    · simp only [Bool.and_eq_true] at h
      refine pssI (pss_cons (sS c O hk tk hp h.1) (sSs cs O hk tk hp h.2)) fun K σ H q => ?_
      obtain ⟨w, M, sd, Kd, Ed, R, rs, l, lx, q⟩ := q
      exact ⟨w, M, sd, { Kd with nx := rSs Φ κ cs Ed Kd }, Ed, R, rs, ⟨fun w1 M1 H1 sd1 σ1 s1 R1 rs1 q => ⟨w1, M1, sd1, Kd, Ed, R1, rs1, l.on s1, lx.on s1, q⟩, l.rt, l.bk, l.ct⟩, lx, q⟩
    · cases h
end
end

/-! ### defs -/
/-- what the text's defs and constants are, for calls k deep -/
structure Tab (Pg : Program) (w : World) (K : PySem.W.Frag) (mg : Str → Option Value) (base : Heap) (P : Pm) (G : List (Str × GD)) (B : List Str) (Φ : Nat → SpD) (κ : Nat → D) (k : Nat) : Prop where
  fun_ : ∀ x f, G.lookup x = some (.fn f) → ∃ j a fd ps, j ≤ k ∧ mg x = some (.ref a) ∧ PySem.W.keepIn K (.ref a) = true ∧ FnOk Pg w K mg base (L2.CX Pg w) j a fd ps (liSp P (Φ f)) ∧ Binds K fd ps []
  cst : ∀ x g, G.lookup x = some (.cst g) → ∃ u v, mg x = some u ∧ RelV v u ∧ ∀ w, RelD P w (κ g) v
  blt : ∀ x ∈ B, mg x = none
def startD (n : Nat) (ds : List D) : Std := ds.map some ++ List.replicate (n - ds.length) none
def endsD (n0 : Nat) (Q : QE) : EndsD := ⟨fun _ M => Fin n0 Q .non M, fun d M => Fin n0 Q d M, fun _ _ => False, fun _ _ => False⟩
theorem relSt_start {P : Pm} {w : Wd} {ds : List D} {vs : List V} (N : List Str) (r : RelDs P w ds vs) : RelSt P w (startD N.length ds) (L2.start N vs) := by
  have hl := r.length
  refine ⟨by unfold startD L2.start; rw [List.length_append, List.length_append, List.length_map, List.length_map, List.length_replicate, List.length_replicate, hl], fun i d h => ?_⟩
  unfold startD at h
  unfold L2.start
  by_cases hi : i < ds.length
  · rw [List.getElem?_append_left (by simpa using hi), List.getElem?_map] at h
    rw [List.getElem?_append_left (by rw [List.length_map, hl]; exact hi), List.getElem?_map]
    cases e : ds[i]? with
    | none => rw [e] at h; cases h
    | some d' =>
      rw [e] at h
      cases h
      obtain ⟨v, hv, rv⟩ := r.get e
      exact ⟨v, by rw [hv]; rfl, rv⟩
  · rw [List.getElem?_append_right (by simpa using hi), List.getElem?_replicate] at h
    split at h <;> cases h
/-- THE RULE of a def: its code fits the text; the code's reading gives what is promised -/
theorem def_ok {Pg : Program} {w : World} {K : PySem.W.Frag} {mg : Str → Option Value} {base : Heap} {P : Pm} {G : List (Str × GD)} {B : List Str} {Φ : Nat → SpD} {κ : Nat → D} {k : Nat} {x qual : Str} {st : Stmt} {f : Addr} {fd : FuncData} {N ps : List Str} {code : CSs} {sp : SpD}
    (hK : P.K = K) (hpg : P.pg = Pg) (hwl : P.wl = w) (T : Tab Pg w K mg base P G B Φ κ k) (F : Fun K x qual st f fd) (S : FnScope N ps (defScope st)) (hc : chkSs ⟨N, defScope st, fun _ => true, G, B, [], [], [], [], [], [], []⟩ code (defBody st) = true)
    (len : ∀ ds M Q E, sp ds M Q E → ds.length = ps.length)
    (body : ∀ ds M Q E, MOk M → RLts M.length ds → sp ds M Q E → rSs Φ κ code (fun x _ M => E x M) (endsD M.length Q) (startD N.length ds) M) :
    FnOk Pg w K mg base (L2.CX Pg w) (k + 1) f fd ps (liSp P sp) := by
  refine F.okX S (fun vs H Q E h => ?_) (fun cdv A outer s H vs Q E hr h => ?_)
  · obtain ⟨w, M, ds, Qd, Ed, R, r, l, lx, q⟩ := h
    rw [r.length]; exact len _ _ _ _ q
  · obtain ⟨wd, M, ds, Qd, Ed, R, r, l, lx, q⟩ := h
    have O : EnvOk (cxOf (L2.CX Pg w) Pg w K mg base N qual (defScope st) f cdv A outer s H E) P ⟨N, defScope st, fun _ => true, G, B, [], [], [], [], [], [], []⟩ Φ κ := by
      refine ⟨hK, hpg, hwl, rfl, rfl, S.nd, rfl, fun _ _ => rfl, ?_, fun x f hx => ?_, T.cst, T.blt, fun _ h => (by cases h), fun _ h => (by cases h), fun _ h => (by cases h), fun _ h => (by cases h), fun _ h => (by cases h), fun _ h => (by cases h), fun _ h => (by cases h)⟩
      · have := hr.un
        show (A.deeper (PyProof.Rows.envOfC qual (defScope st) s.heap.objs.size f cdv)).units + 65 < cLine
        omega
      · obtain ⟨j, a, fd, ps, hj, h1, h2, h3, h4⟩ := T.fun_ x f hx
        exact ⟨j, a, fd, ps, h1, h2, h3, hr.mono hj, h4⟩
    refine ⟨_, sSs code (W := fun cls d _ H => E cls d H) O S.kind (takes_of rfl rfl rfl rfl) (passes_of rfl) hc, ?_⟩
    have ok := R.ok
    have rl := r.rlt
    rw [← R.len] at rl
    refine ⟨wd, M, _, endsD M.length Qd, fun x _ M => Ed x M, R, relSt_start N r, ⟨?_, ?_, ?_, ?_⟩, fun w' M' H' sd σ x cls dd s' R' rs' rx q => lx w' M' H' x cls dd s' R' rx q, body ds M Qd Ed ok rl q⟩
    · intro w' M' H' sd σ s' R' rs' q
      obtain ⟨d', M2, w2, s2, R2, r2, q2⟩ := Fin.run (d := .non) (v := .non) q (Nat.le_of_eq R.len.symm) s' R' rfl
      exact l w2 M2 H' d' .non s2 R2 r2 q2
    · intro w' M' H' d v s' R' r' q
      obtain ⟨d', M2, w2, s2, R2, r2, q2⟩ := Fin.run q (Nat.le_of_eq R.len.symm) s' R' r'
      exact l w2 M2 H' d' v s2 R2 r2 q2
    · intro w' M' H' sd σ s' R' rs' q
      exact q.elim
    · intro w' M' H' sd σ s' R' rs' q
      exact q.elim
end DL

/-! DL: rows for reading code -/
namespace DL
open PySem L2
section
variable {Φ : Nat → SpD} {κ : Nat → D} {E : EX} {EE : EXS} {K : EndsD} {σ : Std} {M : Md} {Q : QE} {QT : Bool → Md → Prop} {QA : List D → Md → Prop} {QO : Option Int → Md → Prop} {QI : List D → Option Nat → Md → Prop}
def nxt (Φ : Nat → SpD) (κ : Nat → D) (r : CSs) (E : EXS) (K : EndsD) : Std → Md → Prop := rSs Φ κ r E K
theorem nxt_eq {r : CSs} : nxt Φ κ r EE K σ M = rSs Φ κ r EE K σ M := rfl
theorem nxt_nil : nxt Φ κ .nil EE K σ M = K.nx σ M := rfl
theorem rSs_nil : rSs Φ κ .nil EE K σ M = K.nx σ M := rfl
theorem rSs_cons {s r} : rSs Φ κ (.cons s r) EE K σ M = rS Φ κ s EE ⟨nxt Φ κ r EE K, K.rt, K.bk, K.ct⟩ σ M := rfl
theorem rSs_one {s} : rSs Φ κ (.cons s .nil) EE K σ M = rS Φ κ s EE ⟨K.nx, K.rt, K.bk, K.ct⟩ σ M := rfl
theorem rS_set {i e} : rS Φ κ (.set i e) EE K σ M = rE Φ κ e (fun x => EE x σ) σ M fun d M1 => K.nx (σ.set i (some d)) M1 := rfl
theorem rS_setP {is es} : rS Φ κ (.setP is es) EE K σ M = rds Φ κ es (fun x => EE x σ) σ M fun ds M1 => ds.length = is.length ∧ K.nx (setAll σ is ds) M1 := rfl
def tupQ (d : D) (n : Nat) (f : List D → Prop) : Prop := match d with
  | .tup ds => ds.length = n ∧ f ds
  | _ => False
theorem tupQ_tup {ds : List D} {n : Nat} {f : List D → Prop} : tupQ (.tup ds) n f = (ds.length = n ∧ f ds) := rfl
theorem rS_setTF {cf os e} : rS Φ κ (.setTF cf os e) EE K σ M = rE Φ κ e (fun x => EE x σ) σ M fun d M1 => tupQ d cf.length fun ds => setTFd Φ κ (fun x => EE x σ) σ cf os ds M1 fun M2 => K.nx σ M2 := rfl
theorem setTFd_nil {E : EX} {QM : Md → Prop} : setTFd Φ κ E σ [] .nil [] M QM = QM M := rfl
theorem setTFd_cons {E : EX} {QM : Md → Prop} {c f : Str} {r : List (Str × Str)} {o os} {d : D} {ds : List D} : setTFd Φ κ E σ ((c, f) :: r) (.cons o os) (d :: ds) M QM = rE Φ κ o E σ M fun x M1 => setFD c f x d M1 fun M2 => setTFd Φ κ E σ r os ds M2 QM := rfl
theorem rS_aug {i e} : rS Φ κ (.aug i e) EE K σ M = match σ[i]? with
    | some (some x) => rE Φ κ e (fun x => EE x σ) σ M fun y M1 => addI x y fun z => K.nx (σ.set i (some z)) M1
    | _ => False := rfl
theorem rS_augF {c o f e} : rS Φ κ (.augF c o f e) EE K σ M = rE Φ κ o (fun x => EE x σ) σ M fun x M1 => isRef x ∧ fldD c f x M1 fun v M2 => rE Φ κ e (fun x => EE x σ) σ M2 fun y M3 => addI v y fun z => setFD c f x z M3 fun M' => K.nx σ M' := rfl
theorem isRef_ref {k : Nat} : isRef (.ref k) = True := rfl
theorem addI_int {a b : Int} {f : D → Prop} : addI (.int a) (.int b) f = f (.int (a + b)) := rfl
theorem rS_setT {is e} : rS Φ κ (.setT is e) EE K σ M = rE Φ κ e (fun x => EE x σ) σ M fun d M1 => asgT (.tp is) d σ M1 K.nx := rfl
theorem rS_setIx {o i v} : rS Φ κ (.setIx o i v) EE K σ M = rE Φ κ v (fun x => EE x σ) σ M fun d M1 => rE Φ κ o (fun x => EE x σ) σ M1 fun x M2 => rE Φ κ i (fun x => EE x σ) σ M2 fun y M3 => setIxD x y d M3 fun M' => K.nx σ M' := by
  have e : ∀ x y d (M3 : Md), (match x with
    | .ref k => match M3[k]?, y with
      | some (.lst ds), .int j => match ixN ds.length j with
        | some j => K.nx σ (M3.set k (.lst (ds.set j d)))
        | none => False
      | some (.dct kvs), y => match keyD y with
        | some ky => kvs.length < sizeLine ∧ K.nx σ (M3.set k (.dct (dctPut kvs ky d)))
        | none => False
      | some (.dctT kvs), y => match tKey y with
        | some ky => kvs.length < sizeLine ∧ K.nx σ (M3.set k (.dctT (dctPutT kvs y ky d)))
        | none => False
      | _, _ => False
    | _ => False) = setIxD x y d M3 fun M' => K.nx σ M' := fun x y d M3 => rfl
  rfl
theorem rS_expr {e} : rS Φ κ (.expr e) EE K σ M = rE Φ κ e (fun x => EE x σ) σ M fun _ M1 => K.nx σ M1 := rfl
theorem rS_ret {e} : rS Φ κ (.ret e) EE K σ M = rE Φ κ e (fun x => EE x σ) σ M K.rt := rfl
theorem rS_retN : rS Φ κ .retN EE K σ M = K.rt .non M := rfl
theorem rS_pass : rS Φ κ .pass EE K σ M = K.nx σ M := rfl
theorem rS_brk : rS Φ κ .brk EE K σ M = K.bk σ M := rfl
theorem rS_cont : rS Φ κ .cont EE K σ M = K.ct σ M := rfl
theorem rS_ifs {c a b} : rS Φ κ (.ifs c a b) EE K σ M = rT Φ κ c (fun x => EE x σ) σ M fun k M1 => if k = true then rSs Φ κ a EE K σ M1 else rSs Φ κ b EE K σ M1 := rfl
theorem rS_fors {t it body} : rS Φ κ (.fors t it body) EE K σ M = rdi Φ κ it (fun x => EE x σ) σ M fun ds lk M1 => loopD lk ds (asgT t) (rSs Φ κ body EE) K ds σ M1 := rfl
theorem rS_whil {c body} : rS Φ κ (.whil c body) EE K σ M = ∃ n, whilD (fun σ M Q => rT Φ κ c (fun x => EE x σ) σ M Q) (rSs Φ κ body EE) K n σ M := rfl
theorem rE_var {i} : rE Φ κ (.var i) E σ M Q = match σ[i]? with
    | some (some d) => Q d M
    | _ => False := rfl
theorem rE_int {i} : rE Φ κ (.int i) E σ M Q = Q (.int i) M := rfl
theorem rE_str {i} : rE Φ κ (.str i) E σ M Q = Q (.str i) M := rfl
theorem rE_bl {i} : rE Φ κ (.bl i) E σ M Q = Q (.bl i) M := rfl
theorem rE_non : rE Φ κ .non E σ M Q = Q .non M := rfl
theorem rE_glob {g} : rE Φ κ (.glob g) E σ M Q = Q (κ g) M := rfl
theorem rE_bin {o a b} : rE Φ κ (.bin o a b) E σ M Q = rE Φ κ a E σ M fun x M1 => rE Φ κ b E σ M1 fun y M2 => opD o x y M2 Q := rfl
def negD (x : D) (M : Md) (Q : QE) : Prop := match x with
    | .int i => Q (.int (-i)) M
    | _ => False
theorem rE_neg {a} : rE Φ κ (.neg a) E σ M Q = rE Φ κ a E σ M fun x M1 => negD x M1 Q := rfl
theorem negD_int {i : Int} : negD (.int i) M Q = Q (.int (-i)) M := rfl
theorem rE_not {a} : rE Φ κ (.not a) E σ M Q = rE Φ κ a E σ M fun x M1 => truD x M1 fun k => Q (.bl (!k)) M1 := rfl
theorem rE_and {a b} : rE Φ κ (.and a b) E σ M Q = rE Φ κ a E σ M fun x M1 => truD x M1 fun k => if k = true then rE Φ κ b E σ M1 Q else Q x M1 := rfl
theorem rE_or {a b} : rE Φ κ (.or a b) E σ M Q = rE Φ κ a E σ M fun x M1 => truD x M1 fun k => if k = true then Q x M1 else rE Φ κ b E σ M1 Q := rfl
theorem rE_cmp {c a b} : rE Φ κ (.cmp c a b) E σ M Q = rE Φ κ a E σ M fun x M1 => rE Φ κ b E σ M1 fun y M2 => cpD c x y M2 fun k => Q (.bl k) M2 := rfl
theorem rE_chain {c1 c2 a b d} : rE Φ κ (.chain c1 c2 a b d) E σ M Q = rE Φ κ a E σ M fun x M1 => rE Φ κ b E σ M1 fun y M2 => cpD c1 x y M2 fun k => if k = true then rE Φ κ d E σ M2 fun z M3 => cpD c2 y z M3 fun k => Q (.bl k) M3 else Q (.bl false) M2 := rfl
theorem rE_ife {c a b} : rE Φ κ (.ife c a b) E σ M Q = rT Φ κ c E σ M fun k M1 => if k = true then rE Φ κ a E σ M1 Q else rE Φ κ b E σ M1 Q := rfl
theorem rE_tup {es} : rE Φ κ (.tup es) E σ M Q = rds Φ κ es E σ M fun ds M1 => ds.length ≤ sizeLine ∧ Q (.tup ds) M1 := rfl
theorem rE_lst {es} : rE Φ κ (.lst false es) E σ M Q = rds Φ κ es E σ M fun ds M1 => ds.length ≤ sizeLine ∧ Q (.lst ds) M1 := rfl
theorem rE_lstM {es} : rE Φ κ (.lst true es) E σ M Q = rds Φ κ es E σ M fun ds M1 => ds.length ≤ sizeLine ∧ Q (.ref M1.length) (M1 ++ [.lst ds]) := rfl
theorem rE_idx {a b} : rE Φ κ (.idx a b) E σ M Q = rE Φ κ a E σ M fun x M1 => rE Φ κ b E σ M1 fun y M2 => ixD x y M2 Q := rfl
theorem rE_slc {m a lo hi} : rE Φ κ (.slc m a lo hi) E σ M Q = rE Φ κ a E σ M fun x M1 => rdo Φ κ lo E σ M1 fun l M2 => rdo Φ κ hi E σ M2 fun h M3 => slD m x l h M3 Q := rfl
theorem rE_call {f es} : rE Φ κ (.call f es) E σ M Q = rds Φ κ es E σ M fun ds M1 => Φ f ds M1 Q E := rfl
theorem rE_blt {b es} : rE Φ κ (.blt b es) E σ M Q = rds Φ κ es E σ M fun ds M1 => btD b ds M1 Q := rfl
def fnQ (o : Option (Option D)) (c : Option (List D)) (M : Md) (n : Nat) (K : Nat → List D → Prop) : Prop := match o, c with
  | some (some (.ref k)), some cs => isFn M k n ∧ K k cs
  | _, _ => False
theorem fnQ_ref {k n : Nat} {cs : List D} {K : Nat → List D → Prop} : fnQ (some (some (.ref k))) (some cs) M n K = (isFn M k n ∧ K k cs) := rfl
theorem rE_calln {i n js es} : rE Φ κ (.calln i n js es) E σ M Q = fnQ σ[i]? (capsD σ js) M n fun k cs => rds Φ κ es E σ M fun ds M1 => isFn M1 k n ∧ Φ n (.ref k :: (cs ++ ds)) M1 Q E := by
  show (match σ[i]?, capsD σ js with
    | some (some (.ref k)), some cs => isFn M k n ∧ rds Φ κ es E σ M fun ds M1 => isFn M1 k n ∧ Φ n (.ref k :: (cs ++ ds)) M1 Q E
    | _, _ => False) = _
  unfold fnQ
  rfl
def capQ (o : Option (Option D)) (c : Option (List D)) : Option (List D) := match o, c with
  | some (some d), some ds => some (d :: ds)
  | _, _ => none
theorem capQ_some {d : D} {ds : List D} : capQ (some (some d)) (some ds) = some (d :: ds) := rfl
theorem capsD_nil {σ : Std} : capsD σ [] = some [] := rfl
theorem capsD_cons {σ : Std} {j : Nat} {js : List Nat} : capsD σ (j :: js) = capQ σ[j]? (capsD σ js) := rfl
theorem rE_mth {m o es} : rE Φ κ (.mth m o es) E σ M Q = rE Φ κ o E σ M fun x M1 => mtK m x M1 ∧ rds Φ κ es E σ M1 fun ds M2 => mtD m x ds M2 Q := rfl
theorem rE_comp {elt t it ifs own} : rE Φ κ (.comp false elt t it ifs own) E σ M Q = rdi Φ κ it E σ M fun ds lk M1 =>
      compD lk ds (fun d k M => asgT t d (wipeD σ own) M k) (fun σ M Q => rdt Φ κ ifs (fun _ _ => False) σ M Q) (fun σ M Q => rE Φ κ elt (fun _ _ => False) σ M Q) (fun acc M => Q (.lst acc) M) ds [] M1 := rfl
theorem rE_compM {elt t it ifs own} : rE Φ κ (.comp true elt t it ifs own) E σ M Q = rdi Φ κ it E σ M fun ds lk M1 =>
      compD lk ds (fun d k M => asgT t d (wipeD σ own) M k) (fun σ M Q => rdt Φ κ ifs (fun _ _ => False) σ M Q) (fun σ M Q => rE Φ κ elt (fun _ _ => False) σ M Q) (fun acc M => Q (.ref M.length) (M ++ [.lst acc])) ds [] M1 := rfl
theorem rE_dnewT : rE Φ κ .dnewT E σ M Q = Q (.ref M.length) (M ++ [.dctT []]) := rfl
theorem rE_dlit {ks : List Str} {es : CEs} : rE Φ κ (.dlit ks es) E σ M Q = rds Φ κ es E σ (M ++ [.dct []]) fun ds M1 => M1[M.length]? = some (.dct []) ∧ Q (.ref M.length) (M1.set M.length (.dct (dlitP ks ds []))) := rfl
theorem rE_dget {o k x : CE} : rE Φ κ (.dget o k x) E σ M Q = rE Φ κ o E σ M fun d M1 => isDct d M1 ∧ rE Φ κ k E σ M1 fun y M2 => rE Φ κ x E σ M2 fun z M3 => dgetD d y z M3 Q := rfl
theorem rE_dnew : rE Φ κ .dnew E σ M Q = Q (.ref M.length) (M ++ [.dct []]) := rfl
def lrQ (d : D) (M : Md) (Q : QE) : Prop := match d with
    | .int j => -(2 ^ 62) ≤ j ∧ j ≤ 16777216 ∧ Q (.lst (rngD 0 j)) M
    | _ => False
theorem rE_fld {c a f} : rE Φ κ (.fld c a f) E σ M Q = rE Φ κ a E σ M fun d M1 => fldD c f d M1 Q := rfl
theorem rE_meth {c m n o es} : rE Φ κ (.meth c m n o es) E σ M Q = rE Φ κ o E σ M fun x M1 => objD c m x M1 ∧ rds Φ κ es E σ M1 fun ds M2 => Φ n (x :: ds) M2 Q E := rfl
theorem objD_obj {c m c' : Str} {ns : List Str} {ds : List D} : objD c m (.obj c' ns ds) M = (c' = c ∧ ns.contains m = false) := rfl
theorem rT_meth {c m n o es} : rT Φ κ (.meth c m n o es) E σ M QT = rE Φ κ (.meth c m n o es) E σ M fun d M1 => truD d M1 fun k => QT k M1 := rfl
theorem rE_callK {f j es ks zs df} : rE Φ κ (.callK f j es ks zs df) E σ M Q = rds Φ κ es E σ M fun ds M1 => ds.length = j ∧ rds Φ κ zs E σ M1 fun us M2 => us.length = ks.length ∧ Φ f (ds ++ (us ++ df.map Sc.d)) M2 Q E := rfl
theorem rE_methK {c m n o j es ks zs df} : rE Φ κ (.methK c m n o j es ks zs df) E σ M Q = rE Φ κ o E σ M fun x M1 => objD c m x M1 ∧ rds Φ κ es E σ M1 fun ds M2 => ds.length = j ∧ rds Φ κ zs E σ M2 fun us M3 => us.length = ks.length ∧ Φ n (x :: (ds ++ (us ++ df.map Sc.d))) M3 Q E := rfl
theorem rE_makeK {n c j es ks zs df} : rE Φ κ (.makeK true n c j es ks zs df) E σ M Q = rds Φ κ es E σ M fun ds M0 => ds.length = j ∧ rds Φ κ zs E σ M0 fun us M1 => us.length = ks.length ∧ Φ n (.ref M1.length :: (ds ++ (us ++ df.map Sc.d))) (M1 ++ [.ins c []]) (fun d M2 => d = .non ∧ Q (.ref M1.length) M2) E := rfl
theorem Sc_non : Sc.d .non = .non := rfl
theorem Sc_bl {b : Bool} : Sc.d (.bl b) = .bl b := rfl
theorem Sc_int {i : Int} : Sc.d (.int i) = .int i := rfl
theorem Sc_str {i : Str} : Sc.d (.str i) = .str i := rfl
theorem rE_make {n c es} : rE Φ κ (.make true n c es) E σ M Q = rds Φ κ es E σ M fun ds M1 => Φ n (.ref M1.length :: ds) (M1 ++ [.ins c []]) (fun d M2 => d = .non ∧ Q (.ref M1.length) M2) E := rfl
def mkQ (c : Str) (M1 : Md) (Q : QE) (d : D) (M2 : Md) : Prop := d = .non ∧ ∃ fs, M2 = M1 ++ [.ins c fs] ∧ RLtM M1.length (.ins c fs) ∧ Q (.obj c (fs.map (·.1)) (fs.map (·.2))) M1
theorem rE_makeKS {n c j es ks zs df} : rE Φ κ (.makeK false n c j es ks zs df) E σ M Q = rds Φ κ es E σ M fun ds M0 => ds.length = j ∧ rds Φ κ zs E σ M0 fun us M1 => us.length = ks.length ∧ Φ n (.ref M1.length :: (ds ++ (us ++ df.map Sc.d))) (M1 ++ [.ins c []]) (mkQ c M1 Q) E := rfl
theorem rE_makeS {n c es} : rE Φ κ (.make false n c es) E σ M Q = rds Φ κ es E σ M fun ds M1 => Φ n (.ref M1.length :: ds) (M1 ++ [.ins c []]) (mkQ c M1 Q) E := rfl
def objQ (c c' f : Str) (ns : List Str) (ds : List D) (M : Md) (Q : QE) : Prop := c' = c ∧ match (ns.zip ds).lookup f with
    | some x => Q x M
    | none => False
theorem fld_obj {c c' f : Str} {ns : List Str} {ds : List D} : fldD c f (.obj c' ns ds) M Q = objQ c c' f ns ds M Q := rfl
theorem objQ_hd {c c' f : Str} {ns : List Str} {ds : List D} {d : D} : objQ c c' f (f :: ns) (d :: ds) M Q = (c' = c ∧ Q d M) := by
  unfold objQ
  rw [List.zip_cons_cons, List.lookup_cons, beq_self_eq_true]
theorem objQ_tl {c c' f g : Str} {ns : List Str} {ds : List D} {d : D} (h : (f == g) = false) : objQ c c' f (g :: ns) (d :: ds) M Q = objQ c c' f ns ds M Q := by
  unfold objQ
  rw [List.zip_cons_cons, List.lookup_cons, h]
theorem rS_setFld {c o f v} : rS Φ κ (.setFld c o f v) EE K σ M = rE Φ κ v (fun x => EE x σ) σ M fun d M1 => rE Φ κ o (fun x => EE x σ) σ M1 fun x M2 => setFD c f x d M2 fun M' => K.nx σ M' := rfl
theorem rE_listRg {a} : rE Φ κ (.listRg false a) E σ M Q = rE Φ κ a E σ M fun d M1 => lrQ d M1 Q := rfl
def lrQM (d : D) (M : Md) (Q : QE) : Prop := match d with
    | .int j => -(2 ^ 62) ≤ j ∧ j ≤ 16777216 ∧ Q (.ref M.length) (M ++ [.lst (rngD 0 j)])
    | _ => False
theorem rE_listRgM {a} : rE Φ κ (.listRg true a) E σ M Q = rE Φ κ a E σ M fun d M1 => lrQM d M1 Q := rfl
theorem lrQM_int {j : Int} : lrQM (.int j) M Q = (-(2 ^ 62) ≤ j ∧ j ≤ 16777216 ∧ Q (.ref M.length) (M ++ [.lst (rngD 0 j)])) := rfl
theorem lrQ_int {j : Int} : lrQ (.int j) M Q = (-(2 ^ 62) ≤ j ∧ j ≤ 16777216 ∧ Q (.lst (rngD 0 j)) M) := rfl
theorem rds_nil : rds Φ κ .nil E σ M QA = QA [] M := rfl
theorem rds_cons {e es} : rds Φ κ (.cons e es) E σ M QA = rE Φ κ e E σ M fun d M1 => rds Φ κ es E σ M1 fun ds M2 => QA (d :: ds) M2 := rfl
theorem rdo_none : rdo Φ κ .none E σ M QO = QO none M := rfl
def intO (d : D) (M : Md) (Q : Option Int → Md → Prop) : Prop := match d with
    | .int i => Q (some i) M
    | _ => False
theorem intO_int {i : Int} : intO (.int i) M QO = QO (some i) M := rfl
theorem rdo_some {e} : rdo Φ κ (.some e) E σ M QO = rE Φ κ e E σ M fun d M1 => intO d M1 QO := rfl
theorem rdt_none : rdt Φ κ .none E σ M QT = QT true M := rfl
theorem rdt_some {e} : rdt Φ κ (.some e) E σ M QT = rT Φ κ e E σ M QT := rfl
def walkD (d : D) (M : Md) (Q : List D → Option Nat → Md → Prop) : Prop := match seqOf d M with
    | some ds => Q ds (lkOf d) M
    | none => False
def chrQ (d : D) (M : Md) (Q : List D → Option Nat → Md → Prop) : Prop := match d with
  | .str s => Q (charsD s) none M
  | _ => False
theorem chrQ_str {s : Str} : chrQ (.str s) M QI = QI (charsD s) none M := rfl
theorem rdi_chars {e} : rdi Φ κ (.chars e) E σ M QI = rE Φ κ e E σ M fun d M1 => chrQ d M1 QI := rfl
theorem rdi_seq {e} : rdi Φ κ (.seq e) E σ M QI = rE Φ κ e E σ M fun d M1 => walkD d M1 QI := rfl
theorem walkD_tup {ds} : walkD (.tup ds) M QI = QI ds none M := rfl
theorem walkD_lst {ds} : walkD (.lst ds) M QI = QI ds none M := rfl
theorem walkD_ref {k ds} (h : M[k]? = some (.lst ds)) : walkD (.ref k) M QI = QI ds (some k) M := by simp only [walkD, seqOf, h, lkOf]
def rngQ (d : D) (M : Md) (Q : List D → Option Nat → Md → Prop) : Prop := match d with
    | .int j => -(2 ^ 62) ≤ j ∧ j < 2 ^ 62 ∧ Q (rngD 0 j) none M
    | _ => False
theorem rdi_rng1 {e} : rdi Φ κ (.rng1 e) E σ M QI = rE Φ κ e E σ M fun d M1 => rngQ d M1 QI := rfl
theorem rngQ_int {j} : rngQ (.int j) M QI = (-(2 ^ 62) ≤ j ∧ j < 2 ^ 62 ∧ QI (rngD 0 j) none M) := rfl
def rngQ2 (d e : D) (M : Md) (Q : List D → Option Nat → Md → Prop) : Prop := match d, e with
    | .int i, .int j => -(2 ^ 62) ≤ i ∧ i < 2 ^ 62 ∧ -(2 ^ 62) ≤ j ∧ j < 2 ^ 62 ∧ Q (rngD i j) none M
    | _, _ => False
theorem rdi_rng2 {a b} : rdi Φ κ (.rng2 a b) E σ M QI = rE Φ κ a E σ M fun d M1 => rE Φ κ b E σ M1 fun e M2 => rngQ2 d e M2 QI := rfl
theorem rngQ2_int {i j} : rngQ2 (.int i) (.int j) M QI = (-(2 ^ 62) ≤ i ∧ i < 2 ^ 62 ∧ -(2 ^ 62) ≤ j ∧ j < 2 ^ 62 ∧ QI (rngD i j) none M) := rfl
theorem rT_not {a} : rT Φ κ (.not a) E σ M QT = rT Φ κ a E σ M fun k M1 => QT (!k) M1 := rfl
theorem rT_and {a b} : rT Φ κ (.and a b) E σ M QT = rT Φ κ a E σ M fun k M1 => if k = true then rT Φ κ b E σ M1 QT else QT false M1 := rfl
theorem rT_or {a b} : rT Φ κ (.or a b) E σ M QT = rT Φ κ a E σ M fun k M1 => if k = true then QT true M1 else rT Φ κ b E σ M1 QT := rfl
theorem rT_cmp {c a b} : rT Φ κ (.cmp c a b) E σ M QT = rE Φ κ a E σ M fun x M1 => rE Φ κ b E σ M1 fun y M2 => cpD c x y M2 fun k => QT k M2 := rfl
theorem rT_chain {c1 c2 a b d} : rT Φ κ (.chain c1 c2 a b d) E σ M QT = rE Φ κ a E σ M fun x M1 => rE Φ κ b E σ M1 fun y M2 => cpD c1 x y M2 fun k => if k = true then rE Φ κ d E σ M2 fun z M3 => cpD c2 y z M3 fun k => QT k M3 else QT false M2 := rfl
theorem rT_var {i} : rT Φ κ (.var i) E σ M QT = rE Φ κ (.var i) E σ M fun d M1 => truD d M1 fun k => QT k M1 := rfl
theorem rT_glob {i} : rT Φ κ (.glob i) E σ M QT = rE Φ κ (.glob i) E σ M fun d M1 => truD d M1 fun k => QT k M1 := rfl
theorem rT_bl {i} : rT Φ κ (.bl i) E σ M QT = QT i M := rfl
theorem rT_bin {o a b} : rT Φ κ (.bin o a b) E σ M QT = rE Φ κ (.bin o a b) E σ M fun d M1 => truD d M1 fun k => QT k M1 := rfl
theorem rT_idx {a b} : rT Φ κ (.idx a b) E σ M QT = rE Φ κ (.idx a b) E σ M fun d M1 => truD d M1 fun k => QT k M1 := rfl
theorem rT_fld {c f a} : rT Φ κ (.fld c a f) E σ M QT = rE Φ κ (.fld c a f) E σ M fun d M1 => truD d M1 fun k => QT k M1 := rfl
theorem rT_slc {m a b c} : rT Φ κ (.slc m a b c) E σ M QT = rE Φ κ (.slc m a b c) E σ M fun d M1 => truD d M1 fun k => QT k M1 := rfl
theorem rT_call {a b} : rT Φ κ (.call a b) E σ M QT = rE Φ κ (.call a b) E σ M fun d M1 => truD d M1 fun k => QT k M1 := rfl
theorem rT_blt {a b} : rT Φ κ (.blt a b) E σ M QT = rE Φ κ (.blt a b) E σ M fun d M1 => truD d M1 fun k => QT k M1 := rfl
theorem rT_mth {a b c} : rT Φ κ (.mth a b c) E σ M QT = rE Φ κ (.mth a b c) E σ M fun d M1 => truD d M1 fun k => QT k M1 := rfl
theorem rT_comp {m a b c d e} : rT Φ κ (.comp m a b c d e) E σ M QT = rE Φ κ (.comp m a b c d e) E σ M fun d M1 => truD d M1 fun k => QT k M1 := rfl
theorem opD_add {i j : Int} : opD .add (.int i) (.int j) M Q = Q (.int (i + j)) M := rfl
theorem opD_adds {s t : Str} : opD .add (.str s) (.str t) M Q = (s.length + t.length ≤ sizeLine ∧ Q (.str (s ++ t)) M) := rfl
theorem opD_addt {a b : List D} : opD .add (.tup a) (.tup b) M Q = (a.length + b.length ≤ sizeLine ∧ Q (.tup (a ++ b)) M) := rfl
theorem opD_addl {a b : List D} : opD .add (.lst a) (.lst b) M Q = (a.length + b.length ≤ sizeLine ∧ Q (.lst (a ++ b)) M) := rfl
theorem opD_addrl {k : Nat} {a b : List D} (h : M[k]? = some (.lst a)) : opD .add (.ref k) (.lst b) M Q = (a.length + b.length ≤ sizeLine ∧ Q (.lst (a ++ b)) M) := by
  show (match lstOf (.ref k) M, lstOf (.lst b) M with
    | some a, some b => a.length + b.length ≤ sizeLine ∧ Q (.lst (a ++ b)) M
    | _, _ => False) = _
  simp only [lstOf, h]
theorem opD_catl {a b : List D} : opD .cat (.lst a) (.lst b) M Q = (a.length + b.length ≤ sizeLine ∧ Q (.ref M.length) (M ++ [.lst (a ++ b)])) := rfl
theorem opD_sub {i j : Int} : opD .sub (.int i) (.int j) M Q = Q (.int (i - j)) M := rfl
theorem opD_muls {s : Str} {j : Int} : opD .mul (.str s) (.int j) M Q = (2 ≤ j ∧ 1 ≤ s.length ∧ s.length * j.toNat ≤ sizeLine ∧ Q (.str (repS s j.toNat)) M) := rfl
theorem opD_mul {i j : Int} : opD .mul (.int i) (.int j) M Q = (CMul i j ∧ Q (.int (i * j)) M) := rfl
theorem opD_fdiv {i j : Int} : opD .fdiv (.int i) (.int j) M Q = (CDiv i j ∧ Q (.int (i / j)) M) := rfl
theorem opD_mod {i j : Int} : opD .mod (.int i) (.int j) M Q = (0 < j ∧ Q (.int (i % j)) M) := rfl
theorem opD_pow {i j : Int} : opD .pow (.int i) (.int j) M Q = (CPow i j ∧ Q (.int (i ^ j.toNat)) M) := rfl
theorem opD_band {i j : Int} : opD .band (.int i) (.int j) M Q = Q (.int (Builtin.bitAnd i j)) M := rfl
section
variable {QB : Bool → Prop}
theorem cp_lt {i j : Int} : cpD .lt (.int i) (.int j) M QB = QB (decide (i < j)) := rfl
theorem cp_le {i j : Int} : cpD .le (.int i) (.int j) M QB = QB (decide (i ≤ j)) := rfl
theorem cp_gt {i j : Int} : cpD .gt (.int i) (.int j) M QB = QB (decide (j < i)) := rfl
theorem cp_ge {i j : Int} : cpD .ge (.int i) (.int j) M QB = QB (decide (j ≤ i)) := rfl
theorem cp_eq {i j : Int} : cpD .eq (.int i) (.int j) M QB = QB (decide (i = j)) := rfl
theorem cp_eqs {i j : Str} : cpD .eq (.str i) (.str j) M QB = QB (decide (i = j)) := rfl
theorem cp_eqb {i j : Bool} : cpD .eq (.bl i) (.bl j) M QB = QB (decide (i = j)) := rfl
theorem cp_eqn : cpD .eq .non .non M QB = QB true := rfl
theorem cp_eqni {i} : cpD .eq .non (.int i) M QB = QB false := rfl
theorem cp_eqin {i} : cpD .eq (.int i) .non M QB = QB false := rfl
theorem cp_ne {i j : Int} : cpD .ne (.int i) (.int j) M QB = QB (!decide (i = j)) := rfl
theorem cp_nes {i j : Str} : cpD .ne (.str i) (.str j) M QB = QB (!decide (i = j)) := rfl
theorem cp_neb {i j : Bool} : cpD .ne (.bl i) (.bl j) M QB = QB (!decide (i = j)) := rfl
theorem cp_nen : cpD .ne .non .non M QB = QB false := rfl
theorem cp_neni {i} : cpD .ne .non (.int i) M QB = QB true := rfl
theorem cp_nein {i} : cpD .ne (.int i) .non M QB = QB true := rfl
theorem cp_isN {d : D} : cpD .isN d .non M QB = QB (isNon d) := by
  show (isNon .non = true ∧ QB (isNon d)) = _
  exact propext ⟨fun h => h.2, fun h => ⟨rfl, h⟩⟩
theorem cp_notN {d : D} : cpD .notN d .non M QB = QB (!isNon d) := by
  show (isNon .non = true ∧ QB (!isNon d)) = _
  exact propext ⟨fun h => h.2, fun h => ⟨rfl, h⟩⟩
theorem cp_isB {a b : Bool} : cpD .isB (.bl a) (.bl b) M QB = QB (decide (a = b)) := rfl
theorem cp_notB {a b : Bool} : cpD .notB (.bl a) (.bl b) M QB = QB (!decide (a = b)) := rfl
theorem isNon_non : isNon .non = true := rfl
theorem isNon_int {i} : isNon (.int i) = false := rfl
theorem isNon_bl {i} : isNon (.bl i) = false := rfl
theorem isNon_str {i} : isNon (.str i) = false := rfl
theorem isNon_tup {i} : isNon (.tup i) = false := rfl
theorem isNon_lst {i} : isNon (.lst i) = false := rfl
theorem isNon_ref {i} : isNon (.ref i) = false := rfl
theorem tru_non : truD .non M QB = QB false := rfl
theorem tru_bl {b} : truD (.bl b) M QB = QB b := rfl
theorem tru_int {i} : truD (.int i) M QB = QB (i != 0) := rfl
theorem tru_str {s} : truD (.str s) M QB = (s.length ≤ sizeLine ∧ QB ((s.length : Int) != 0)) := rfl
theorem tru_tup {ds} : truD (.tup ds) M QB = QB (!ds.isEmpty) := rfl
theorem tru_lst {ds} : truD (.lst ds) M QB = QB (!ds.isEmpty) := rfl
theorem tru_ref {k ds} (h : M[k]? = some (.lst ds)) : truD (.ref k) M QB = QB (!ds.isEmpty) := by simp only [truD, h]
theorem cp_inn_flat {x y : D} {ds : List D} (h1 : seqOf y M = some ds) (h2 : dGet y x M = none) (hx : flatD x = true) (hf : ds.all flatD = true) (hs : ∀ s t, ¬ (x = .str s ∧ y = .str t)) : cpD .inn x y M QB = QB (ds.any fun d => eqF d x) := by
  show inD x y M QB = _
  unfold inD
  split
  · exact absurd ⟨rfl, rfl⟩ (hs _ _)
  · rw [h2]
    simp only [h1, hx, hf, Bool.and_self, if_true]
theorem cp_nin_flat {x y : D} {ds : List D} (h1 : seqOf y M = some ds) (h2 : dGet y x M = none) (hx : flatD x = true) (hf : ds.all flatD = true) (hs : ∀ s t, ¬ (x = .str s ∧ y = .str t)) : cpD .nin x y M QB = QB (!ds.any fun d => eqF d x) := by
  show inD x y M (fun b => QB (!b)) = _
  unfold inD
  split
  · exact absurd ⟨rfl, rfl⟩ (hs _ _)
  · rw [h2]
    simp only [h1, hx, hf, Bool.and_self, if_true]
theorem cp_inn_tup {x : D} {ds : List D} (hx : flatD x = true) (hf : ds.all flatD = true) : cpD .inn x (.tup ds) M QB = QB (ds.any fun d => eqF d x) := cp_inn_flat rfl rfl hx hf (by rintro s t ⟨_, h⟩; cases h)
theorem cp_inn_lst {x : D} {ds : List D} (hx : flatD x = true) (hf : ds.all flatD = true) : cpD .inn x (.lst ds) M QB = QB (ds.any fun d => eqF d x) := cp_inn_flat rfl rfl hx hf (by rintro s t ⟨_, h⟩; cases h)
theorem cp_nin_tup {x : D} {ds : List D} (hx : flatD x = true) (hf : ds.all flatD = true) : cpD .nin x (.tup ds) M QB = QB (!ds.any fun d => eqF d x) := cp_nin_flat rfl rfl hx hf (by rintro s t ⟨_, h⟩; cases h)
theorem cp_nin_lst {x : D} {ds : List D} (hx : flatD x = true) (hf : ds.all flatD = true) : cpD .nin x (.lst ds) M QB = QB (!ds.any fun d => eqF d x) := cp_nin_flat rfl rfl hx hf (by rintro s t ⟨_, h⟩; cases h)
theorem cp_inn_dct {k : Nat} {x : D} {kvs : List (Option Key × D)} {ky : Option Key} (h : M[k]? = some (.dct kvs)) (hk : keyD x = some ky) : cpD .inn x (.ref k) M QB = QB (dctVal kvs ky).isSome := by
  show inD x (.ref k) M QB = _
  unfold inD
  have e : dGet (.ref k) x M = some (dctVal kvs ky) := by simp only [dGet, h, hk, Option.map_some]
  cases x <;> simp only [e] <;> rfl
theorem cp_nin_dct {k : Nat} {x : D} {kvs : List (Option Key × D)} {ky : Option Key} (h : M[k]? = some (.dct kvs)) (hk : keyD x = some ky) : cpD .nin x (.ref k) M QB = QB (!(dctVal kvs ky).isSome) := by
  show inD x (.ref k) M (fun b => QB (!b)) = _
  unfold inD
  have e : dGet (.ref k) x M = some (dctVal kvs ky) := by simp only [dGet, h, hk, Option.map_some]
  cases x <;> simp only [e] <;> rfl
end
def atQ (ds : List D) (i : Int) (M : Md) (Q : QE) : Prop := match atI ds i with
  | some d => Q d M
  | none => False
theorem ix_tup' {ds i} : ixD (.tup ds) (.int i) M Q = atQ ds i M Q := rfl
theorem ix_lst' {ds i} : ixD (.lst ds) (.int i) M Q = atQ ds i M Q := rfl
theorem ix_scr {ns i} : ixD (.scr ns) (.int i) M Q = atQ (ns.map .int) i M Q := rfl
theorem ix_ref {k ds i} (h : M[k]? = some (.lst ds)) : ixD (.ref k) (.int i) M Q = atQ ds i M Q := by
  simp only [ixD, dGet, seqOf, h, atQ]
  try rfl
theorem ix_dct {k kvs x ky d} (h : M[k]? = some (.dct kvs)) (hk : keyD x = some ky) (hd : dctVal kvs ky = some d) : ixD (.ref k) x M Q = Q d M := by
  have e : dGet (.ref k) x M = some (some d) := by simp only [dGet, h, hk, Option.map_some, hd]
  cases x <;> simp only [ixD, e]
theorem atQ_some {ds : List D} {i : Int} {d : D} (h : atI ds i = some d) : atQ ds i M Q = Q d M := by simp only [atQ, h]
theorem atI_0 {α : Type} {x : α} {xs : List α} : atI (x :: xs) 0 = some x := by
  have : atI (x :: xs) ((0 : Nat) : Int) = some x := atI_nat rfl
  exact this
theorem atI_1 {α : Type} {x y : α} {xs : List α} : atI (x :: y :: xs) 1 = some y := by
  have : atI (x :: y :: xs) ((1 : Nat) : Int) = some y := atI_nat rfl
  exact this
theorem atI_2 {α : Type} {x y z : α} {xs : List α} : atI (x :: y :: z :: xs) 2 = some z := by
  have : atI (x :: y :: z :: xs) ((2 : Nat) : Int) = some z := atI_nat rfl
  exact this
theorem atI_3 {α : Type} {x y z u : α} {xs : List α} : atI (x :: y :: z :: u :: xs) 3 = some u := by
  have : atI (x :: y :: z :: u :: xs) ((3 : Nat) : Int) = some u := atI_nat rfl
  exact this
theorem atI_4 {α : Type} {x y z u v : α} {xs : List α} : atI (x :: y :: z :: u :: v :: xs) 4 = some v := by
  have : atI (x :: y :: z :: u :: v :: xs) ((4 : Nat) : Int) = some v := atI_nat rfl
  exact this
theorem atI_m1 {α : Type} {xs : List α} {x : α} : atI (xs ++ [x]) (-1) = some x := atI_last xs x
theorem atQ_0 {x : D} {xs} : atQ (x :: xs) 0 M Q = Q x M := atQ_some atI_0
theorem atQ_1 {x y : D} {xs} : atQ (x :: y :: xs) 1 M Q = Q y M := atQ_some atI_1
theorem atQ_2 {x y z : D} {xs} : atQ (x :: y :: z :: xs) 2 M Q = Q z M := atQ_some atI_2
theorem atQ_3 {x y z u : D} {xs} : atQ (x :: y :: z :: u :: xs) 3 M Q = Q u M := atQ_some atI_3
theorem atQ_4 {x y z u v : D} {xs} : atQ (x :: y :: z :: u :: v :: xs) 4 M Q = Q v M := atQ_some atI_4
theorem atQ_m1 {x : D} {xs} : atQ (xs ++ [x]) (-1) M Q = Q x M := atQ_some atI_m1
theorem atI_ofNat {α : Type} {xs : List α} {i : Int} {x : α} (h0 : 0 ≤ i) (h : xs[i.toNat]? = some x) : atI xs i = some x := by
  have : atI xs ((i.toNat : Nat) : Int) = some x := atI_nat h
  rwa [Int.toNat_of_nonneg h0] at this
section
variable {QM : Md → Prop}
theorem sx_lst {k ds i j d} (h : M[k]? = some (.lst ds)) (hj : ixN ds.length i = some j) : setIxD (.ref k) (.int i) d M QM = QM (M.set k (.lst (ds.set j d))) := by simp only [setIxD, h, hj]
theorem sx_dct {k kvs x ky d} (h : M[k]? = some (.dct kvs)) (hk : keyD x = some ky) : setIxD (.ref k) x d M QM = (kvs.length < sizeLine ∧ QM (M.set k (.dct (dctPut kvs ky d)))) := by simp only [setIxD, h, hk]
end
theorem bt_len_str {s : Str} : btD .len [.str s] M Q = (s.length ≤ sizeLine ∧ Q (.int s.length) M) := rfl
theorem bt_len_tup {ds} : btD .len [.tup ds] M Q = Q (.int ds.length) M := rfl
theorem bt_len_lst {ds} : btD .len [.lst ds] M Q = Q (.int ds.length) M := rfl
theorem bt_len_scr {ns} : btD .len [.scr ns] M Q = Q (.int ns.length) M := by
  show Q (.int (ns.map D.int).length) M = _
  rw [List.length_map]
theorem bt_len_ref {k ds} (h : M[k]? = some (.lst ds)) : btD .len [.ref k] M Q = Q (.int ds.length) M := by simp only [btD, seqOf, h]
theorem bt_list_tup {ds} : btD .list [.tup ds] M Q = Q (.lst ds) M := rfl
theorem bt_list_lst {ds} : btD .list [.lst ds] M Q = Q (.lst ds) M := rfl
theorem bt_list_ref {k ds} (h : M[k]? = some (.lst ds)) : btD .list [.ref k] M Q = Q (.lst ds) M := by simp only [btD, seqOf, h]
theorem bt_listM_tup {ds} : btD .listM [.tup ds] M Q = Q (.ref M.length) (M ++ [.lst ds]) := rfl
theorem bt_listM_lst {ds} : btD .listM [.lst ds] M Q = Q (.ref M.length) (M ++ [.lst ds]) := rfl
theorem bt_listM_ref {k ds} (h : M[k]? = some (.lst ds)) : btD .listM [.ref k] M Q = Q (.ref M.length) (M ++ [.lst ds]) := by simp only [btD, seqOf, h]
theorem bt_tuple_tup {ds} : btD .tuple [.tup ds] M Q = Q (.tup ds) M := rfl
theorem bt_tuple_lst {ds} : btD .tuple [.lst ds] M Q = Q (.tup ds) M := rfl
theorem bt_tuple_ref {k ds} (h : M[k]? = some (.lst ds)) : btD .tuple [.ref k] M Q = Q (.tup ds) M := by simp only [btD, seqOf, h]
theorem bt_max2 {i j : Int} : btD .max2 [.int i, .int j] M Q = Q (.int (if j > i then j else i)) M := rfl
theorem bt_min2 {i j : Int} : btD .min2 [.int i, .int j] M Q = Q (.int (if j < i then j else i)) M := rfl
theorem bt_int_int {i : Int} : btD .int [.int i] M Q = Q (.int i) M := rfl
theorem bt_int_bl {b} : btD .int [.bl b] M Q = Q (.int (if b then 1 else 0)) M := rfl
theorem bt_sorted_lst {ds} : btD .sorted [.lst ds] M Q = (SortOk ds ∧ Q (.lst (sortD ds)) M) := by
  show ((∀ es, D.lst ds ≠ .tup es) ∧ SortOk ds ∧ Q (.lst (sortD ds)) M) = _
  exact propext ⟨fun h => h.2, fun h => ⟨(by intro _ h; cases h), h⟩⟩
theorem bt_sorted_ref {k ds} (h : M[k]? = some (.lst ds)) : btD .sorted [.ref k] M Q = (SortOk ds ∧ Q (.lst (sortD ds)) M) := by
  show ((∀ es, D.ref k ≠ .tup es) ∧ match seqOf (.ref k) M with
    | some ds => SortOk ds ∧ Q (.lst (sortD ds)) M
    | none => False) = _
  simp only [seqOf, h]
  exact propext ⟨fun h => h.2, fun h => ⟨(by intro _ h; cases h), h⟩⟩
theorem bt_sum_lst {ds ns} (h : intsOf ds = some ns) : btD .sum [.lst ds] M Q = Q (.int ns.sum) M := by
  show ((∀ es, D.lst ds ≠ .tup es) ∧ match (some ds).bind intsOf with
    | some ns => Q (.int ns.sum) M
    | none => False) = _
  simp only [Option.bind_some, h]
  exact propext ⟨fun h => h.2, fun h => ⟨(by intro _ h; cases h), h⟩⟩
theorem bt_ord' {s : Str} : btD .ord [.str s] M Q = (s.length = 1 ∧ Q (.int (s.cps.getD 0 0 : Nat)) M) := rfl
theorem bt_str' {i : Int} : btD .str [.int i] M Q = (i.natAbs.log2 < 1920 ∧ Q (.str (toString i)) M) := rfl
def isiQ (t T : String) (M : Md) (Q : QE) : Prop := match kitB t T with
  | some b => Q (.bl b) M
  | none => False
theorem isi_non {T} : btD (.isi T) [.non] M Q = isiQ "NoneType" T M Q := rfl
theorem isi_bl {T b} : btD (.isi T) [.bl b] M Q = isiQ "bool" T M Q := rfl
theorem isi_int {T b} : btD (.isi T) [.int b] M Q = isiQ "int" T M Q := rfl
theorem isi_str {T b} : btD (.isi T) [.str b] M Q = isiQ "str" T M Q := rfl
theorem isi_tup {T b} : btD (.isi T) [.tup b] M Q = isiQ "tuple" T M Q := rfl
theorem isi_lst {T b} : btD (.isi T) [.lst b] M Q = isiQ "list" T M Q := rfl
theorem isi_ref {T k ds} (h : M[k]? = some (.lst ds)) : btD (.isi T) [.ref k] M Q = isiQ "list" T M Q := by
  simp only [btD, tyOf, h, isiQ]
  try rfl
theorem isiQ_eq {t T : String} {b : Bool} (h : kitB t T = some b) : isiQ t T M Q = Q (.bl b) M := by simp only [isiQ, h]
theorem kit_bb : kitB "bool" "bool" = some true := by decide +kernel
theorem kit_bi : kitB "bool" "int" = some true := by decide +kernel
theorem kit_bs : kitB "bool" "str" = some false := by decide +kernel
theorem kit_bt : kitB "bool" "tuple" = some false := by decide +kernel
theorem kit_bl : kitB "bool" "list" = some false := by decide +kernel
theorem kit_ib : kitB "int" "bool" = some false := by decide +kernel
theorem kit_ii : kitB "int" "int" = some true := by decide +kernel
theorem kit_is : kitB "int" "str" = some false := by decide +kernel
theorem kit_it : kitB "int" "tuple" = some false := by decide +kernel
theorem kit_il : kitB "int" "list" = some false := by decide +kernel
theorem kit_sb : kitB "str" "bool" = some false := by decide +kernel
theorem kit_si : kitB "str" "int" = some false := by decide +kernel
theorem kit_ss : kitB "str" "str" = some true := by decide +kernel
theorem kit_st : kitB "str" "tuple" = some false := by decide +kernel
theorem kit_sl : kitB "str" "list" = some false := by decide +kernel
theorem kit_tb : kitB "tuple" "bool" = some false := by decide +kernel
theorem kit_ti : kitB "tuple" "int" = some false := by decide +kernel
theorem kit_ts : kitB "tuple" "str" = some false := by decide +kernel
theorem kit_tt : kitB "tuple" "tuple" = some true := by decide +kernel
theorem kit_tl : kitB "tuple" "list" = some false := by decide +kernel
theorem kit_lb : kitB "list" "bool" = some false := by decide +kernel
theorem kit_li : kitB "list" "int" = some false := by decide +kernel
theorem kit_ls : kitB "list" "str" = some false := by decide +kernel
theorem kit_lt : kitB "list" "tuple" = some false := by decide +kernel
theorem kit_ll : kitB "list" "list" = some true := by decide +kernel
theorem kit_nb : kitB "NoneType" "bool" = some false := by decide +kernel
theorem kit_ni : kitB "NoneType" "int" = some false := by decide +kernel
theorem kit_ns : kitB "NoneType" "str" = some false := by decide +kernel
theorem kit_nt : kitB "NoneType" "tuple" = some false := by decide +kernel
theorem kit_nl : kitB "NoneType" "list" = some false := by decide +kernel
theorem mtK_ref {m : Mt} {k ds} (hm : mtT m = "list") (h : M[k]? = some (.lst ds)) : mtK m (.ref k) M = True := by
  unfold mtK
  rw [if_pos hm]
  simp only [seqOf, h]
  exact propext ⟨fun _ => trivial, fun _ => ⟨rfl, by intro _ h; cases h⟩⟩
theorem mtK_app {k ds} (h : M[k]? = some (.lst ds)) : mtK .append (.ref k) M = True := mtK_ref rfl h
theorem mtK_ext {k ds} (h : M[k]? = some (.lst ds)) : mtK .extend (.ref k) M = True := mtK_ref rfl h
theorem mtK_pop {k ds} (h : M[k]? = some (.lst ds)) : mtK .pop (.ref k) M = True := mtK_ref rfl h
theorem mt_app {k ds d} (h : M[k]? = some (.lst ds)) : mtD .append (.ref k) [d] M Q = (ds.length < sizeLine ∧ Q .non (M.set k (.lst (ds ++ [d])))) := by simp only [mtD, mutOf, h]
theorem mt_extl {k ds es} (h : M[k]? = some (.lst ds)) : mtD .extend (.ref k) [.lst es] M Q = (ds.length + es.length ≤ sizeLine ∧ Q .non (M.set k (.lst (ds ++ es)))) := by simp only [mtD, mutOf, lstOf, h]
theorem mt_extr {k j ds es} (h : M[k]? = some (.lst ds)) (h2 : M[j]? = some (.lst es)) : mtD .extend (.ref k) [.ref j] M Q = (ds.length + es.length ≤ sizeLine ∧ Q .non (M.set k (.lst (ds ++ es)))) := by simp only [mtD, mutOf, lstOf, h, h2]
theorem mtK_str {m : Mt} {s : Str} (hm : ¬ mtT m = "list") : mtK m (.str s) M = True := by
  unfold mtK
  rw [if_neg hm]
  exact propext ⟨fun _ => trivial, fun _ => ⟨s, rfl⟩⟩
theorem mtK_join {s} : mtK .join (.str s) M = True := mtK_str (by decide)
theorem mtK_find {s} : mtK .find (.str s) M = True := mtK_str (by decide)
theorem mtK_lower {s} : mtK .lower (.str s) M = True := mtK_str (by decide)
theorem mtK_upper {s} : mtK .upper (.str s) M = True := mtK_str (by decide)
theorem mt_joinl {s ds ys} (h : strsOf ds = some ys) : mtD .join (.str s) [.lst ds] M Q = ((ys.map (·.length)).sum + ys.length * s.length ≤ 16777216 ∧ Q (.str (Txt.join s ys)) M) := by simp only [mtD, seqOf, Option.bind_some, h]
theorem mt_find' {s t} : mtD .find (.str s) [.str t] M Q = Q (.int (Txt.find s t)) M := rfl
theorem mt_lower' {s} : mtD .lower (.str s) [] M Q = (s.length ≤ 5592405 ∧ Q (.str (Txt.lower s)) M) := rfl
theorem mt_upper' {s} : mtD .upper (.str s) [] M Q = (s.length ≤ 5592405 ∧ Q (.str (Txt.upper s)) M) := rfl
theorem sl_tup' {m ds lo hi} : slD m (.tup ds) lo hi M Q = Q (.tup (cutD ds lo hi)) M := rfl
theorem sl_lst' {ds lo hi} : slD false (.lst ds) lo hi M Q = Q (.lst (cutD ds lo hi)) M := rfl
theorem sl_str' {m s lo hi} : slD m (.str s) lo hi M Q = (s.length ≤ sizeLine ∧ Q (.str ⟨(cutD s.cps.toList lo hi).toArray⟩) M) := rfl
section
variable {QS : Std → Md → Prop}
theorem asg_nm {i d} : asgT (.nm i) d σ M QS = QS (σ.set i (some d)) M := rfl
theorem asg_tp {is ds} : asgT (.tp is) (.tup ds) σ M QS = (ds.length = is.length ∧ QS (setAll σ is ds) M) := rfl
theorem setAll_cons {i is d ds} : setAll σ (i :: is) (d :: ds) = setAll (σ.set i (some d)) is ds := rfl
theorem setAll_nil {ds} : setAll σ [] ds = σ := by cases ds <;> rfl
end
theorem at_new0 {l : Md} : (M ++ l)[M.length]? = l[0]? := by
  rw [List.getElem?_append_right (Nat.le_refl _), Nat.sub_self]
theorem at_new {l : Md} {i : Nat} : (M ++ l)[M.length + i]? = l[i]? := by
  rw [List.getElem?_append_right (Nat.le_add_right _ _), Nat.add_sub_cancel_left]
theorem at_old {l : Md} {k : Nat} {m : MO} (h : M[k]? = some m) : (M ++ l)[k]? = some m := by
  rw [List.getElem?_append_left (List.getElem?_eq_some_iff.mp h).1]; exact h
theorem at_set {k : Nat} {m m' : MO} (h : M[k]? = some m) : (M.set k m')[k]? = some m' := List.getElem?_set_self (List.getElem?_eq_some_iff.mp h).1
theorem at_set_ne {k j : Nat} {m m' : MO} (h : M[j]? = some m) (hn : k ≠ j) : (M.set k m')[j]? = some m := by rw [List.getElem?_set_ne hn]; exact h
theorem set_new0 {l : Md} {m : MO} : (M ++ l).set M.length m = M ++ l.set 0 m := by
  rw [List.set_append_right _ _ (Nat.le_refl _), Nat.sub_self]
theorem set_new {l : Md} {i : Nat} {m : MO} : (M ++ l).set (M.length + i) m = M ++ l.set i m := by
  rw [List.set_append_right _ _ (Nat.le_add_right _ _), Nat.add_sub_cancel_left]
theorem set_old {l : Md} {k : Nat} {m m' : MO} (h : M[k]? = some m) : (M ++ l).set k m' = M.set k m' ++ l := List.set_append_left _ _ (List.getElem?_eq_some_iff.mp h).1
theorem set_set' {k : Nat} {m m' : MO} : (M.set k m).set k m' = M.set k m' := List.set_set ..
theorem len_set {k : Nat} {m : MO} : (M.set k m).length = M.length := List.length_set ..
end
/-- own changing objects are let go -/
theorem Fin.tail {n0 : Nat} {Q : QE} {d : D} {M l : Md} (hn : M.length = n0) (hd : RLt M.length d) (hM : MOk M) (q : Q d M) : Fin n0 Q d (M ++ l) := by
  have e : (M ++ l).take M.length = M := by simp
  refine .drop M.length (by omega) (by simp) hd (by rw [e]; exact hM) ?_
  rw [e]
  exact .keep q
theorem MOk.set {M : Md} (h : MOk M) {k : Nat} {m : MO} (hm : RLtM M.length m) : MOk (M.set k m) := fun x hx => by
  rw [List.length_set]
  rcases List.mem_or_eq_of_mem_set hx with z | z
  · exact h x z
  · rw [z]; exact hm
/-! no changing object in it -/
mutual
def noRef : D → Bool
  | .ref _ => false
  | .tup ds => noRefs ds
  | .lst ds => noRefs ds
  | .obj _ _ ds => noRefs ds
  | _ => true
def noRefs : List D → Bool
  | [] => true
  | d :: ds => noRef d && noRefs ds
end
mutual
theorem noRef_lt {n : Nat} : ∀ {d : D}, noRef d = true → RLt n d
  | .ref _, h => by cases h
  | .tup ds, h => noRefs_lt (ds := ds) h
  | .lst ds, h => noRefs_lt (ds := ds) h
  | .non, _ => trivial
  | .bl _, _ => trivial
  | .int _, _ => trivial
  | .str _, _ => trivial
  | .scr _, _ => trivial
  | .obj _ _ ds, h => noRefs_lt (ds := ds) h
theorem noRefs_lt {n : Nat} : ∀ {ds : List D}, noRefs ds = true → RLts n ds
  | [], _ => trivial
  | d :: ds, h => by
    have h : (noRef d && noRefs ds) = true := h
    rw [Bool.and_eq_true] at h
    exact ⟨noRef_lt h.1, noRefs_lt h.2⟩
end
theorem noRefs_map {α : Type} {f : α → D} {xs : List α} (h : ∀ x ∈ xs, noRef (f x) = true) : noRefs (xs.map f) = true := by
  induction xs with
  | nil => rfl
  | cons x xs ih =>
    show (noRef (f x) && noRefs (xs.map f)) = true
    rw [h x List.mem_cons_self, ih fun y hy => h y (List.mem_cons_of_mem _ hy)]; rfl
end DL

/-! DL: a law's defs, its end -/
namespace DL
open PySem PySem.Spec PyProof.Rows L2
section
variable {Pg : Program} {w : World} {K : PySem.W.Frag} {mg : Str → Option Value} {base : Heap} {P : Pm} {Φ : Nat → SpD} {κ : Nat → D} {k : Nat}
abbrev OkD (Pg : Program) (w : World) (K : PySem.W.Frag) (mg : Str → Option Value) (base : Heap) (P : Pm) (k : Nat) (f : Addr) (fd : FuncData) (ps : List Str) (sp : SpD) : Prop := FnOk Pg w K mg base (L2.CX Pg w) k f fd ps (liSp P sp)
theorem OkD.no {f : Addr} {fd : FuncData} {ps : List Str} : OkD Pg w K mg base P k f fd ps fun _ _ _ _ => False :=
  ⟨fun _ _ _ _ ⟨_, _, _, _, _, _, _, _, _, q⟩ => q.elim, fun _ _ _ _ _ _ _ _ _ _ _ _ _ ⟨_, _, _, _, _, _, _, _, _, q⟩ => q.elim⟩
theorem OkD.imp {f : Addr} {fd : FuncData} {ps : List Str} {sp sp' : SpD} (F : OkD Pg w K mg base P k f fd ps sp) (h : ∀ ds M Q E, sp' ds M Q E → sp ds M Q E) : OkD Pg w K mg base P k f fd ps sp' :=
  FnOk.imp F fun _ _ _ _ ⟨w, M, ds, Qd, Ed, R, r, l, lx, q⟩ => ⟨w, M, ds, Qd, Ed, R, r, l, lx, h _ _ _ _ q⟩
theorem Tab.nil {B : List Str} (hB : ∀ x ∈ B, mg x = none) : Tab Pg w K mg base P [] B Φ κ k :=
  .mk (fun x f h => absurd h (by simp [List.lookup])) (fun x g h => absurd h (by simp [List.lookup])) hB
theorem Tab.consF {G : List (Str × GD)} {B : List Str} {x : Str} {n j : Nat} {a : Addr} {fd : FuncData} {ps : List Str} (T : Tab Pg w K mg base P G B Φ κ k) (hj : j ≤ k) (hg : mg x = some (.ref a)) (hk : PySem.W.keepIn K (.ref a) = true)
    (F : OkD Pg w K mg base P j a fd ps (Φ n)) (b : Binds K fd ps []) : Tab Pg w K mg base P ((x, .fn n) :: G) B Φ κ k := by
  refine ⟨fun y f h => ?_, fun y g h => ?_, T.blt⟩
  · rw [List.lookup_cons] at h
    split at h
    · next e =>
      cases h
      rw [eq_of_beq e]
      exact ⟨j, a, fd, ps, hj, hg, hk, F, b⟩
    · exact T.fun_ y f h
  · rw [List.lookup_cons] at h
    split at h
    · cases h
    · exact T.cst y g h
theorem Tab.consC {G : List (Str × GD)} {B : List Str} {x : Str} {n : Nat} (T : Tab Pg w K mg base P G B Φ κ k) (c : ∃ u v, mg x = some u ∧ RelV v u ∧ ∀ w, RelD P w (κ n) v) : Tab Pg w K mg base P ((x, .cst n) :: G) B Φ κ k := by
  refine ⟨fun y f h => ?_, fun y g h => ?_, T.blt⟩
  · rw [List.lookup_cons] at h
    split at h
    · cases h
    · exact T.fun_ y f h
  · rw [List.lookup_cons] at h
    split at h
    · next e =>
      cases h
      rw [eq_of_beq e]
      exact c
    · exact T.cst y g h
/-- THE RULE of a def, of a head's facts, with calls by keywords -/
theorem okDK {G : List (Str × GD)} {B : List Str} {x qual : Str} {params : Arguments} {bodyS : List Stmt} {scope : Scope} {f : Addr} {fd : FuncData} {dvs : List V} {kws : List (Str × V)} {N ps : List Str} {code : CSs} {sp : SpD} {FL : List (Str × Str)} {MK : List (Str × Nat × Str)} {MT : List (Str × Str × Nat)} {KF : List (Str × Nat × Nat × List Str × List Sc)} {KM : List (Str × (Nat × Str) × Nat × List Str × List Sc)} {KT : List ((Str × Str) × Nat × Nat × List Str × List Sc)}
    (hK : P.K = K) (hpg : P.pg = Pg) (hwl : P.wl = w) (T : Tab Pg w K mg base P G B Φ κ k) (F : FunD K x qual params bodyS scope dvs kws f fd) (S : FnScope N ps scope) (hc : chkSs ⟨N, scope, fun _ => true, G, B, FL, MK, MT, KF, KM, KT, []⟩ code bodyS = true)
    (hF : ∀ q ∈ FL, Cls K (P.cls q.1) ∧ NoAttr K (P.cls q.1) q.2) (hM : ∀ q ∈ MK, ∃ j f fd ps, j + 1 ≤ k ∧ mg q.1 = some (.ref (P.cls q.2.2)) ∧ Mk K (P.cls q.2.2) f ∧ OkD Pg w K mg base P j f fd ps (Φ q.2.1) ∧ Binds K fd ps [])
    (hT : ∀ q ∈ MT, ∃ j f fd ps, j ≤ k ∧ Cls K (P.cls q.1) ∧ Meth K (P.cls q.1) q.2.1 f ∧ OkD Pg w K mg base P j f fd ps (Φ q.2.2) ∧ Binds K fd ps [])
    (hKF : ∀ q ∈ KF, ∃ j a fd ps g, j ≤ k ∧ mg q.1 = some (.ref a) ∧ PySem.W.keepIn K (.ref a) = true ∧ OkD Pg w K mg base P j a fd ps (Φ q.2.1) ∧ KBn K fd ps q.2.2.1 q.2.2.2.1 g (fun vs zs => vs ++ (zs ++ q.2.2.2.2.map Sc.v)))
    (hKM : ∀ q ∈ KM, ∃ j f fd ps g, j + 1 ≤ k ∧ mg q.1 = some (.ref (P.cls q.2.1.2)) ∧ Mk K (P.cls q.2.1.2) f ∧ OkD Pg w K mg base P j f fd ps (Φ q.2.1.1) ∧ KBn K fd ps (q.2.2.1 + 1) q.2.2.2.1 g (fun vs zs => vs ++ (zs ++ q.2.2.2.2.map Sc.v)))
    (hKT : ∀ q ∈ KT, ∃ j f fd ps g, j ≤ k ∧ Cls K (P.cls q.1.1) ∧ Meth K (P.cls q.1.1) q.1.2 f ∧ OkD Pg w K mg base P j f fd ps (Φ q.2.1) ∧ KBn K fd ps (q.2.2.1 + 1) q.2.2.2.1 g (fun vs zs => vs ++ (zs ++ q.2.2.2.2.map Sc.v)))
    (len : ∀ ds M Q E, sp ds M Q E → ds.length = ps.length)
    (body : ∀ ds M Q E, MOk M → RLts M.length ds → sp ds M Q E → rSs Φ κ code (fun x _ M => E x M) (endsD M.length Q) (startD N.length ds) M) :
    OkD Pg w K mg base P (k + 1) f fd ps sp := by
  refine F.ok (CX := L2.CX Pg w) S (fun vs H Q E h => ?_) (fun cdv A outer s H vs Q E hr h => ?_)
  · obtain ⟨w, M, ds, Qd, Ed, R, r, l, lx, q⟩ := h
    rw [r.length]; exact len _ _ _ _ q
  · obtain ⟨wd, M, ds, Qd, Ed, R, r, l, lx, q⟩ := h
    have O : EnvOk (cxOf (L2.CX Pg w) Pg w K mg base N qual scope f cdv A outer s H E) P ⟨N, scope, fun _ => true, G, B, FL, MK, MT, KF, KM, KT, []⟩ Φ κ := by
      refine ⟨hK, hpg, hwl, rfl, rfl, S.nd, rfl, fun _ _ => rfl, ?_, fun x f hx => ?_, T.cst, T.blt, hF, fun q hq => ?_, fun q hq => ?_, fun q hq => ?_, fun q hq => ?_, fun q hq => ?_, fun _ h => by cases h⟩
      · have := hr.un
        show (A.deeper (envOfC qual scope s.heap.objs.size f cdv)).units + 65 < cLine
        omega
      · obtain ⟨j, a, fd, ps, hj, h1, h2, h3, h4⟩ := T.fun_ x f hx
        exact ⟨j, a, fd, ps, h1, h2, h3, hr.mono hj, h4⟩
      · obtain ⟨j, f, fd, ps, hj, h1, h2, h3, h4⟩ := hM q hq
        exact ⟨j, f, fd, ps, h1, h2, h3, hr.mono hj, h4⟩
      · obtain ⟨j, f, fd, ps, hj, h1, h2, h3, h4⟩ := hT q hq
        exact ⟨j, f, fd, ps, h1, h2, h3, hr.mono hj, h4⟩
      · obtain ⟨j, f, fd, ps, g, hj, h1, h2, h3, h4⟩ := hKF q hq
        exact ⟨j, f, fd, ps, g, h1, h2, h3, hr.mono hj, h4⟩
      · obtain ⟨j, f, fd, ps, g, hj, h1, h2, h3, h4⟩ := hKM q hq
        exact ⟨j, f, fd, ps, g, h1, h2, h3, hr.mono hj, h4⟩
      · obtain ⟨j, f, fd, ps, g, hj, h1, h2, h3, h4⟩ := hKT q hq
        exact ⟨j, f, fd, ps, g, h1, h2, h3, hr.mono hj, h4⟩
    refine ⟨_, sSs code (W := fun cls d _ H => E cls d H) O S.kind (takes_of rfl rfl rfl rfl) (passes_of rfl) hc, ?_⟩
    have ok := R.ok
    have rl := r.rlt
    rw [← R.len] at rl
    refine ⟨wd, M, _, endsD M.length Qd, fun x _ M => Ed x M, R, relSt_start N r, ⟨?_, ?_, ?_, ?_⟩, fun w' M' H' sd σ x cls dd s' R' rs' rx q => lx w' M' H' x cls dd s' R' rx q, body ds M Qd Ed ok rl q⟩
    · intro w' M' H' sd σ s' R' rs' q
      obtain ⟨d', M2, w2, s2, R2, r2, q2⟩ := Fin.run (d := .non) (v := .non) q (Nat.le_of_eq R.len.symm) s' R' rfl
      exact l w2 M2 H' d' .non s2 R2 r2 q2
    · intro w' M' H' d v s' R' r' q
      obtain ⟨d', M2, w2, s2, R2, r2, q2⟩ := Fin.run q (Nat.le_of_eq R.len.symm) s' R' r'
      exact l w2 M2 H' d' v s2 R2 r2 q2
    · intro w' M' H' sd σ s' R' rs' q
      exact q.elim
    · intro w' M' H' sd σ s' R' rs' q
      exact q.elim
/-- THE RULE of a def, of a head's facts -/
theorem okDM {G : List (Str × GD)} {B : List Str} {x qual : Str} {params : Arguments} {bodyS : List Stmt} {scope : Scope} {f : Addr} {fd : FuncData} {dvs : List V} {kws : List (Str × V)} {N ps : List Str} {code : CSs} {sp : SpD} {FL : List (Str × Str)} {MK : List (Str × Nat × Str)} {MT : List (Str × Str × Nat)}
    (hK : P.K = K) (hpg : P.pg = Pg) (hwl : P.wl = w) (T : Tab Pg w K mg base P G B Φ κ k) (F : FunD K x qual params bodyS scope dvs kws f fd) (S : FnScope N ps scope) (hc : chkSs ⟨N, scope, fun _ => true, G, B, FL, MK, MT, [], [], [], []⟩ code bodyS = true)
    (hF : ∀ q ∈ FL, Cls K (P.cls q.1) ∧ NoAttr K (P.cls q.1) q.2) (hM : ∀ q ∈ MK, ∃ j f fd ps, j + 1 ≤ k ∧ mg q.1 = some (.ref (P.cls q.2.2)) ∧ Mk K (P.cls q.2.2) f ∧ OkD Pg w K mg base P j f fd ps (Φ q.2.1) ∧ Binds K fd ps [])
    (hT : ∀ q ∈ MT, ∃ j f fd ps, j ≤ k ∧ Cls K (P.cls q.1) ∧ Meth K (P.cls q.1) q.2.1 f ∧ OkD Pg w K mg base P j f fd ps (Φ q.2.2) ∧ Binds K fd ps [])
    (len : ∀ ds M Q E, sp ds M Q E → ds.length = ps.length)
    (body : ∀ ds M Q E, MOk M → RLts M.length ds → sp ds M Q E → rSs Φ κ code (fun x _ M => E x M) (endsD M.length Q) (startD N.length ds) M) :
    OkD Pg w K mg base P (k + 1) f fd ps sp := okDK hK hpg hwl T F S hc hF hM hT (fun _ h => by cases h) (fun _ h => by cases h) (fun _ h => by cases h) len body
/-- the same, without methods -/
theorem okDC {G : List (Str × GD)} {B : List Str} {x qual : Str} {params : Arguments} {bodyS : List Stmt} {scope : Scope} {f : Addr} {fd : FuncData} {dvs : List V} {kws : List (Str × V)} {N ps : List Str} {code : CSs} {sp : SpD} {FL : List (Str × Str)} {MK : List (Str × Nat × Str)}
    (hK : P.K = K) (hpg : P.pg = Pg) (hwl : P.wl = w) (T : Tab Pg w K mg base P G B Φ κ k) (F : FunD K x qual params bodyS scope dvs kws f fd) (S : FnScope N ps scope) (hc : chkSs ⟨N, scope, fun _ => true, G, B, FL, MK, [], [], [], [], []⟩ code bodyS = true)
    (hF : ∀ q ∈ FL, Cls K (P.cls q.1) ∧ NoAttr K (P.cls q.1) q.2) (hM : ∀ q ∈ MK, ∃ j f fd ps, j + 1 ≤ k ∧ mg q.1 = some (.ref (P.cls q.2.2)) ∧ Mk K (P.cls q.2.2) f ∧ OkD Pg w K mg base P j f fd ps (Φ q.2.1) ∧ Binds K fd ps [])
    (len : ∀ ds M Q E, sp ds M Q E → ds.length = ps.length)
    (body : ∀ ds M Q E, MOk M → RLts M.length ds → sp ds M Q E → rSs Φ κ code (fun x _ M => E x M) (endsD M.length Q) (startD N.length ds) M) :
    OkD Pg w K mg base P (k + 1) f fd ps sp := okDM hK hpg hwl T F S hc hF hM (fun _ h => by cases h) len body
/-- the same, without classes -/
theorem okD {G : List (Str × GD)} {B : List Str} {x qual : Str} {params : Arguments} {bodyS : List Stmt} {scope : Scope} {f : Addr} {fd : FuncData} {dvs : List V} {kws : List (Str × V)} {N ps : List Str} {code : CSs} {sp : SpD}
    (hK : P.K = K) (hpg : P.pg = Pg) (hwl : P.wl = w) (T : Tab Pg w K mg base P G B Φ κ k) (F : FunD K x qual params bodyS scope dvs kws f fd) (S : FnScope N ps scope) (hc : chkSs ⟨N, scope, fun _ => true, G, B, [], [], [], [], [], [], []⟩ code bodyS = true)
    (len : ∀ ds M Q E, sp ds M Q E → ds.length = ps.length)
    (body : ∀ ds M Q E, MOk M → RLts M.length ds → sp ds M Q E → rSs Φ κ code (fun x _ M => E x M) (endsD M.length Q) (startD N.length ds) M) :
    OkD Pg w K mg base P (k + 1) f fd ps sp := okDC hK hpg hwl T F S hc (fun _ h => by cases h) (fun _ h => by cases h) len body
end
/-- no defaults: keywords behind what is written -/
theorem kbnN {K : PySem.W.Frag} {x qual : Str} {params : Arguments} {body : List Stmt} {scope : Scope} {f : Addr} {fd : FuncData} {ps : List Str} (F : FunD K x qual params body scope [] [] f fd) (n : Nat) (ks : List Str)
    (h : ∀ (kV doc pm : Value) (an : Option Addr) (cdv ct : Value) (us ws : List Value), us.length = n → ws.length = ks.length → bindArgs (PySem.W.fnOf x qual params body scope .none kV doc pm an cdv ct) ⟨us, ks.zip ws⟩ = pure (ps.zip (us ++ ws))) :
    ∃ g, KBn K fd ps n ks g (fun vs zs => vs ++ (zs ++ ([] : List Sc).map Sc.v)) := by
  obtain ⟨oc, od, dV, kV, doc, pm, an, cdv, ct, osl, rfl, lk, hcd, hD, hK⟩ := F.ex
  rcases hD with ⟨_, rfl⟩ | ⟨e, _⟩
  · exact ⟨fun us ws => us ++ (ws ++ []), fun s us ws X l1 l2 => by rw [List.append_nil]; exact .of_eq (h kV doc pm an cdv ct us ws l1 l2), fun r rz => r.append (rz.append .nil)⟩
  · exact absurd rfl e
/-- keyword-only defaults -/
theorem kbnK {K : PySem.W.Frag} {x qual : Str} {params : Arguments} {body : List Stmt} {scope : Scope} {kws : List (Str × V)} {f : Addr} {fd : FuncData} {ps : List Str} (F : FunD K x qual params body scope [] kws f fd) (n : Nat) (ks : List Str) (ms : List (Str × Sc)) (hk : kws ≠ []) (hms : ∀ q ∈ ms, (q.1, q.2.v) ∈ kws)
    (h : ∀ (D : Addr) (doc pm : Value) (an : Option Addr) (cdv ct : Value) (us mv ws : List Value), us.length = n → mv.length = ms.length → ws.length = ks.length →
      KwChain D ((ms.map (·.1)).zip mv) (bindArgs (PySem.W.fnOf x qual params body scope .none (.ref D) doc pm an cdv ct) ⟨us, ks.zip ws⟩) (ps.zip (us ++ (ws ++ mv)))) :
    ∃ g, KBn K fd ps n ks g (fun vs zs => vs ++ (zs ++ (ms.map (·.2)).map Sc.v)) := by
  have e1 : (ms.map fun q => (q.1, q.2.v)).map (·.1) = ms.map (·.1) := by rw [List.map_map]; rfl
  have e2 : (ms.map fun q => (q.1, q.2.v)).map (·.2) = (ms.map (·.2)).map Sc.v := by rw [List.map_map, List.map_map]; rfl
  obtain ⟨mv, k⟩ := F.kbinds0 n ks (ms.map fun q => (q.1, q.2.v)) (fun a m z => a ++ (z ++ m)) hk (fun q hq => by
    obtain ⟨p, hp, rfl⟩ := List.mem_map.mp hq
    exact hms p hp) (fun r1 r2 r3 => r1.append (r3.append r2)) (fun D doc pm an cdv ct us mv ws l1 l2 l3 => by rw [e1]; exact h D doc pm an cdv ct us mv ws l1 (by rw [l2, List.length_map]) l3)
  rw [e2] at k
  exact ⟨_, k⟩
/-- positional defaults behind n written values -/
theorem kbnD {K : PySem.W.Frag} {x qual : Str} {params : Arguments} {body : List Stmt} {scope : Scope} {dvs : List V} {kws : List (Str × V)} {f : Addr} {fd : FuncData} {ps : List Str} (F : FunD K x qual params body scope dvs kws f fd) (n j : Nat) (df : List Sc) (hd : dvs ≠ []) (hdf : dvs.drop j = df.map Sc.v) (hn : n + (dvs.length - j) = ps.length)
    (h : ∀ (T : Addr) (kV doc pm : Value) (an : Option Addr) (cdv ct : Value) (us its : List Value), us.length = n → its.length = dvs.length →
      ∃ k, bindArgs (PySem.W.fnOf x qual params body scope (.ref T) kV doc pm an cdv ct) ⟨us, []⟩ = seqItems? (.ref T) >>= k ∧ k (some its.toArray) = pure (ps.zip (us ++ its.drop j))) :
    ∃ g, KBn K fd ps n [] g (fun vs zs => vs ++ (zs ++ df.map Sc.v)) := by
  obtain ⟨ds, r, b⟩ := F.binds1 n j hd hn h
  have hl := r.length
  refine ⟨fun us ws => us ++ (ws ++ ds), fun s us ws X l1 l2 => ?_, fun r1 r2 => r1.append (r2.append (hdf ▸ r))⟩
  have e : ws = [] := List.length_eq_zero_iff.mp l2
  subst e
  rw [List.nil_append]
  exact b s us X (by rw [List.length_append, ← hl, List.length_drop, l1]; exact hn)
theorem hcInt {P : Pm} {mg : Str → Option Value} {x : Str} {i : Int} (h : ∃ t, mg x = some (.int i t)) : ∃ u v, mg x = some u ∧ RelV v u ∧ ∀ w, RelD P w (.int i) v :=
  let ⟨t, e⟩ := h; ⟨_, .int i, e, ⟨t, rfl⟩, fun _ => rfl⟩
theorem hcStr {P : Pm} {mg : Str → Option Value} {x z : Str} (h : ∃ t, mg x = some (.str z t)) : ∃ u v, mg x = some u ∧ RelV v u ∧ ∀ w, RelD P w (.str z) v :=
  let ⟨t, e⟩ := h; ⟨_, .str z, e, ⟨t, rfl⟩, fun _ => rfl⟩
/-- what a law's own def promises -/
def spLaw (n : Nat) : SpD := fun ds M Q _ => ∃ ns : List Int, ns.length ≤ n ∧ ds = [.scr ns] ∧ M = [] ∧ ∀ M', Q (.bl true) M'
theorem relScr {P : Pm} {H : Hp} {a : Addr} {ns : List Int} (hS : SqL P.K H a (ns.map V.int)) : ∃ F : Hp, (∀ b o, F b = some o → H b = some o) ∧ (∀ b ps, F b ≠ some (.tbl ps)) ∧ SqL P.K F a (ns.map V.int) := by
  rcases hS with (h | ⟨o, h⟩) | h
  · refine ⟨fun b => if b = a then H a else none, fun b o e => ?_, fun b ps e => ?_, .inl (.inl ((if_pos rfl).trans h))⟩
    · have e : (if b = a then H a else none) = some o := e
      by_cases hb : b = a
      · rw [if_pos hb] at e; rw [hb]; exact e
      · rw [if_neg hb] at e; cases e
    · have e : (if b = a then H a else none) = some (.tbl ps) := e
      by_cases hb : b = a
      · rw [if_pos hb, h] at e; cases e
      · rw [if_neg hb] at e; cases e
  · refine ⟨fun b => if b = a then H a else none, fun b o e => ?_, fun b ps e => ?_, .inl (.inr ⟨o, (if_pos rfl).trans h⟩)⟩
    · have e : (if b = a then H a else none) = some _ := e
      by_cases hb : b = a
      · rw [if_pos hb] at e; rw [hb]; exact e
      · rw [if_neg hb] at e; cases e
    · have e : (if b = a then H a else none) = some (.tbl ps) := e
      by_cases hb : b = a
      · rw [if_pos hb, h] at e; cases e
      · rw [if_neg hb] at e; cases e
  · exact ⟨fun _ => none, (fun _ _ e => by cases e), (fun _ _ e => by cases e), .inr h⟩
theorem liLaw {P : Pm} {n : Nat} {H : Hp} {a : Addr} {ns : List Int} (hl : ns.length ≤ n) (hT : P.T = []) (hS : SqL P.K H a (ns.map V.int)) : liSp P (spLaw n) [.ref a] H (fun v _ => v = .bl true) fun _ _ _ => False := by
  obtain ⟨F, hF, hn, hS⟩ := relScr hS
  refine ⟨⟨F, []⟩, [], [.scr ns], fun d _ => d = .bl true, fun _ _ => False, ⟨hF, rfl, .nil, (by intro p hp; cases hp), (fun k m p h => by cases h), ⟨fun t ht => (by rw [hT] at ht; cases ht), hn, (fun b hb => by cases hb)⟩⟩, ⟨.ref a, [], rfl, ⟨a, rfl, hS⟩, rfl⟩, fun w' M' H' d v _ _ r q => ?_, fun _ _ _ _ _ _ _ _ _ q => q.elim, ns, hl, rfl, rfl, fun _ => rfl⟩
  cases q
  exact r
/-- the same, with empty tables of code objects -/
theorem liLawT {P : Pm} {n : Nat} {H : Hp} {a : Addr} {ns : List Int} (hl : ns.length ≤ n) (hT : ∀ t ∈ P.T, H t.1 = some (.tbl #[])) (hS : SqL P.K H a (ns.map V.int)) : liSp P (spLaw n) [.ref a] H (fun v _ => v = .bl true) fun _ _ _ => False := by
  obtain ⟨F, hF, hn, hS⟩ := relScr hS
  refine ⟨⟨F, []⟩, [], [.scr ns], fun d _ => d = .bl true, fun _ _ => False, ⟨hF, rfl, .nil, (by intro p hp; cases hp), (fun k m p h => by cases h), ⟨fun t ht => ?_, hn, (fun b hb => by cases hb)⟩⟩, ⟨.ref a, [], rfl, ⟨a, rfl, hS⟩, rfl⟩, fun w' M' H' d v _ _ r q => ?_, fun _ _ _ _ _ _ _ _ _ q => q.elim, ns, hl, rfl, rfl, fun _ => rfl⟩
  · refine ⟨⟨(fun z => by cases z), ?_⟩, #[], hT t ht, True.intro, fun pos cv hc => ?_⟩
    · show F t.1 = none
      cases e : F t.1 with
      | none => rfl
      | some o =>
        have := hF _ _ e
        rw [hT t ht] at this
        cases this
        exact absurd e (hn _ _)
    · have z : codeAmong pos [] = some cv := hc
      simp [codeAmong] at z
  · cases q
    exact r
/-- a law's end: of the facts its def's promise over every base -/
theorem walk_ofX {l : PySem.W.OpenLaw} {n k : Nat} {q : Program} {loose : List Str} {XP : (Str → Option Value) → Heap → Prop} {YP : World → Heap → Prop} {d : DefRec} {x : Str}
    (hn : l.most = some n) (hn2 : n ≤ sizeLine) (hdf : d.params.defaults = []) (hr : Room k callerA)
    (F : ∀ (w : World) (mg : Str → Option Value) (fa : Addr) (h : Heap), YP w h → h.Ns mainGlobals mg → mg d.name = some (.ref fa) →
      ∃ (P : Pm) (fd : FuncData), P.T = [] ∧ P.K.In h ∧ (∀ (s : Shared) (u : Value), BindsTo s fd ⟨[u], []⟩ [(x, u)]) ∧ ∀ base : Heap, P.K.In base → base.Ns mainGlobals mg → OkD l.prog w P.K mg base P k fa fd [x] (spLaw n)) :
    PySem.W.WalkO q loose XP YP l.row.toRowW d [] (fun f vs => PySem.call f vs) :=
  Att.attach_call hn hdf fun w s₀ s₁ mg mb fa o pm cd doc a vs ns G Y ho hd hcd hmg hobj hints hlen hg => by
    obtain ⟨P, fd, hT, KX, hb, hF⟩ := F w mg fa _ Y G.T.g hmg
    exact law_call (sp := liSp P (spLaw n)) KX G.T.g G.T.b G.T.builtins G.T.nolimit hg hobj hints (Nat.le_trans hlen hn2) hr hF hb (fun H _ hS => liLaw hlen hT hS) fun H e s' h => by
      obtain ⟨_, _, _, _, _, _, _, _, _, _, _, _, q⟩ := h
      exact q
end DL

/-! DL: rules for loops of readings -/
namespace DL
open PySem L2
section
variable {lk : Option Nat} {all : List D} {asg : D → Std → Md → (Std → Md → Prop) → Prop} {body : EndsD → Std → Md → Prop} {K : EndsD}
theorem loop_list (Inv : List D → Std → Md → Prop) (hl : ∀ ds σ M, Inv ds σ M → lkOk lk all M)
    (step : ∀ d ds σ M (nx : Std → Md → Prop), Inv (d :: ds) σ M → (∀ σ' M', Inv ds σ' M' → nx σ' M') → asg d σ M fun σ1 M1 => body ⟨nx, K.rt, K.nx, nx⟩ σ1 M1)
    (fin : ∀ σ M, Inv [] σ M → K.nx σ M) : ∀ ds σ M, Inv ds σ M → loopD lk all asg body K ds σ M
  | [], σ, M, h => ⟨hl _ _ _ h, fin _ _ h⟩
  | d :: ds, σ, M, h => ⟨hl _ _ _ h, step d ds σ M _ h fun σ' M' h' => loop_list Inv hl step fin ds σ' M' h'⟩
theorem rngD_nil {a b : Int} (h : b ≤ a) : rngD a b = [] := by
  unfold rngD
  rw [Int.toNat_of_nonpos (by omega)]; rfl
theorem rngD_cons {a b : Int} (h : a < b) : rngD a b = .int a :: rngD (a + 1) b := by
  unfold rngD
  have e : (b - a).toNat = (b - (a + 1)).toNat + 1 := by omega
  rw [e, List.range_succ_eq_map, List.map_cons, List.map_map]
  congr 1
  · show D.int (a + ((0 : Nat) : Int)) = _
    simp
  · apply List.map_congr_left
    intro i _
    show D.int (a + ((i + 1 : Nat) : Int)) = D.int (a + 1 + (i : Int))
    congr 1
    push_cast
    omega
theorem loop_rng {b : Int} (Inv : Int → Std → Md → Prop) (hlk : lk = none)
    (step : ∀ j σ M (nx : Std → Md → Prop), j < b → Inv j σ M → (∀ σ' M', Inv (j + 1) σ' M' → nx σ' M') → asg (.int j) σ M fun σ1 M1 => body ⟨nx, K.rt, K.nx, nx⟩ σ1 M1)
    (fin : ∀ σ M, Inv b σ M → K.nx σ M) : ∀ (n : Nat) (a : Int) σ M, (b - a).toNat = n → a ≤ b → Inv a σ M → loopD lk all asg body K (rngD a b) σ M
  | 0, a, σ, M, hn, hab, h => by
    have e : a = b := by omega
    rw [e] at h
    rw [rngD_nil (by omega)]
    exact ⟨by rw [hlk]; trivial, fin _ _ h⟩
  | n + 1, a, σ, M, hn, hab, h => by
    have e : a < b := by omega
    rw [rngD_cons e]
    exact ⟨by rw [hlk]; trivial, step a σ M _ e h fun σ' M' h' => loop_rng Inv hlk step fin n (a + 1) σ' M' (by omega) (by omega) h'⟩
/-- a range from 0: the items are n -/
theorem loop_to {b : Int} (Inv : Int → Std → Md → Prop) {σ : Std} {M : Md} (hb : 0 ≤ b) (h0 : Inv 0 σ M)
    (step : ∀ j σ M (nx : Std → Md → Prop), 0 ≤ j → j < b → Inv j σ M → (∀ σ' M', Inv (j + 1) σ' M' → nx σ' M') → asg (.int j) σ M fun σ1 M1 => body ⟨nx, K.rt, K.nx, nx⟩ σ1 M1)
    (fin : ∀ σ M, Inv b σ M → K.nx σ M) : loopD none all asg body K (rngD 0 b) σ M :=
  loop_rng (fun j σ M => 0 ≤ j ∧ Inv j σ M) rfl (fun j σ M nx hj h hn => step j σ M nx h.1 hj h.2 fun σ' M' h' => hn σ' M' ⟨by omega, h'⟩) (fun σ M h => fin σ M h.2) _ 0 σ M rfl hb ⟨Int.le_refl 0, h0⟩
theorem loop_from {a b : Int} (Inv : Int → Std → Md → Prop) {σ : Std} {M : Md} (hb : a ≤ b) (h0 : Inv a σ M)
    (step : ∀ j σ M (nx : Std → Md → Prop), a ≤ j → j < b → Inv j σ M → (∀ σ' M', Inv (j + 1) σ' M' → nx σ' M') → asg (.int j) σ M fun σ1 M1 => body ⟨nx, K.rt, K.nx, nx⟩ σ1 M1)
    (fin : ∀ σ M, Inv b σ M → K.nx σ M) : loopD none all asg body K (rngD a b) σ M :=
  loop_rng (fun j σ M => a ≤ j ∧ Inv j σ M) rfl (fun j σ M nx hj h hn => step j σ M nx h.1 hj h.2 fun σ' M' h' => hn σ' M' ⟨by omega, h'⟩) (fun σ M h => fin σ M h.2) _ a σ M rfl hb ⟨Int.le_refl a, h0⟩
theorem loop_skip {a b : Int} (hb : b ≤ a) {σ : Std} {M : Md} (h : K.nx σ M) : loopD none all asg body K (rngD a b) σ M := by
  rw [rngD_nil hb]
  exact ⟨trivial, h⟩
end
section
variable {lk : Option Nat} {all : List D} {asg : D → (Std → Md → Prop) → Md → Prop} {tst : Std → Md → (Bool → Md → Prop) → Prop} {elt : Std → Md → QE → Prop} {Q : List D → Md → Prop}
theorem comp_inv (Inv : List D → List D → Md → Prop) (hl : ∀ ds acc M, Inv ds acc M → lkOk lk all M)
    (step : ∀ d ds acc M (C : List D → Md → Prop), Inv (d :: ds) acc M → (∀ acc' M', Inv ds acc' M' → C acc' M') →
      asg d (fun σ1 M1 => tst σ1 M1 fun k M2 => if k = true then elt σ1 M2 fun y M3 => acc.length < sizeLine ∧ C (acc ++ [y]) M3 else C acc M2) M)
    (fin : ∀ acc M, Inv [] acc M → Q acc M) : ∀ ds acc M, Inv ds acc M → compD lk all asg tst elt Q ds acc M
  | [], acc, M, h => ⟨hl _ _ _ h, fin _ _ h⟩
  | d :: ds, acc, M, h => ⟨hl _ _ _ h, step d ds acc M (fun a m => compD lk all asg tst elt Q ds a m) h fun acc' M' h' => comp_inv Inv hl step fin ds acc' M' h'⟩
/-- a pure comprehension -/
theorem comp_pure {ds0 : List D} {M : Md} (g : D → Option D) (hl : lkOk lk all M) (hs : ds0.length ≤ sizeLine)
    (step : ∀ d ∈ ds0, ∀ (yes : D → Md → Prop) (no : Md → Prop), (match g d with
        | some y => yes y M
        | none => no M) → asg d (fun σ1 M1 => tst σ1 M1 fun k M2 => if k = true then elt σ1 M2 yes else no M2) M)
    (fin : Q (ds0.filterMap g) M) : compD lk all asg tst elt Q ds0 [] M := by
  refine comp_inv (fun ds acc M' => M' = M ∧ acc.length + ds.length ≤ sizeLine ∧ (∀ d ∈ ds, d ∈ ds0) ∧ acc ++ ds.filterMap g = ds0.filterMap g) (fun ds acc M' h => by rw [h.1]; exact hl) ?_ ?_ ds0 [] M ⟨rfl, by simpa using hs, fun _ h => h, rfl⟩
  · rintro d ds acc M' C ⟨rfl, hlen, hm, he⟩ hC
    have hlen : acc.length + (ds.length + 1) ≤ sizeLine := hlen
    refine step d (hm d List.mem_cons_self) _ _ ?_
    cases e : g d with
    | none => exact hC _ _ ⟨rfl, by omega, fun x hx => hm x (List.mem_cons_of_mem _ hx), by rw [← he, List.filterMap_cons, e]⟩
    | some y => exact ⟨by omega, hC _ _ ⟨rfl, by rw [List.length_append]; show acc.length + 1 + ds.length ≤ sizeLine; omega, fun x hx => hm x (List.mem_cons_of_mem _ hx), by rw [← he, List.filterMap_cons, e, List.append_assoc]; rfl⟩⟩
  · rintro acc M' ⟨rfl, _, _, he⟩
    rw [← he] at fin
    simpa using fin
theorem comp_map {α : Type} {xs : List α} {M : Md} (enc : α → D) (f : α → D) (hl : lkOk lk all M) (hs : xs.length ≤ sizeLine)
    (step : ∀ x ∈ xs, ∀ (yes : D → Md → Prop) (no : Md → Prop), yes (f x) M → asg (enc x) (fun σ1 M1 => tst σ1 M1 fun k M2 => if k = true then elt σ1 M2 yes else no M2) M)
    (fin : Q (xs.map f) M) : compD lk all asg tst elt Q (xs.map enc) [] M := by
  have key : ∀ (ys : List α) (acc : List α), (∀ y ∈ ys, y ∈ xs) → acc.length + ys.length ≤ sizeLine → acc ++ ys = xs → compD lk all asg tst elt Q (ys.map enc) (acc.map f) M := by
    intro ys
    induction ys with
    | nil => intro acc _ _ e; rw [List.append_nil] at e; rw [e]; exact ⟨hl, fin⟩
    | cons y ys ih =>
      intro acc hm hlen e
      have hlen : acc.length + (ys.length + 1) ≤ sizeLine := hlen
      refine ⟨hl, step y (hm y List.mem_cons_self) _ _ ⟨by rw [List.length_map]; omega, ?_⟩⟩
      have := ih (acc ++ [y]) (fun z hz => hm z (List.mem_cons_of_mem _ hz)) (by rw [List.length_append]; show acc.length + 1 + ys.length ≤ _; omega) (by rw [← e, List.append_assoc]; rfl)
      rw [List.map_append] at this
      exact this
  exact key xs [] (fun _ h => h) (by simpa using hs) rfl
end
theorem endsD_nx {n : Nat} {Q : QE} {σ : Std} {M : Md} : (endsD n Q).nx σ M = Fin n Q .non M := rfl
theorem endsD_rt {n : Nat} {Q : QE} {d : D} {M : Md} : (endsD n Q).rt d M = Fin n Q d M := rfl
theorem Fin_of {n : Nat} {Q : QE} {d : D} {M : Md} (q : Q d M) : Fin n Q d M := .keep q
/-- a def's code reads as promised -/
def RdOk (Φ : Nat → SpD) (κ : Nat → D) (c : CSs) (n : Nat) (sp : SpD) : Prop := ∀ ds M Q E, MOk M → RLts M.length ds → sp ds M Q E → rSs Φ κ c (fun x _ M => E x M) (endsD M.length Q) (startD n ds) M
theorem rngD_eq (n : Nat) : rngD 0 (n : Int) = (List.range n).map fun i => D.int (i : Nat) := by
  unfold rngD
  simp
/-- what stands still to be run of a def -/
abbrev At (Φ : Nat → SpD) (κ : Nat → D) (E : EX) (n : Nat) (Q : QE) (c : CSs) (σ : Std) (M : Md) : Prop := nxt Φ κ c (fun x _ M => E x M) (endsD n Q) σ M
end DL

/-! DL: rows over places of changing objects -/
namespace DL
open PySem L2
section
variable {M R l : Md} {Q : QE} {QB : Bool → Prop} {QM : Md → Prop} {k : Nat} {ds es : List D} {kvs : List (Option Key × D)} {QI : List D → Option Nat → Md → Prop}
def optQ {α : Type} (o : Option α) (f : α → Prop) : Prop := match o with
  | some a => f a
  | none => False
theorem optQ_some {α : Type} {a : α} {f : α → Prop} : optQ (some a) f = f a := rfl
def seqQ (o : Option (List D)) (f : List D → Prop) : Prop := match o with
  | some ds => f ds
  | none => False
theorem seqQ_some {f : List D → Prop} : seqQ (some ds) f = f ds := rfl
theorem seqQ_of {o : Option (List D)} {f : List D → Prop} (h : o = some ds) : seqQ o f = f ds := by rw [h]; rfl
def intsQ (o : Option (List Int)) (f : List Int → Prop) : Prop := match o with
  | some ds => f ds
  | none => False
theorem intsQ_some {f : List Int → Prop} {ns} : intsQ (some ns) f = f ns := rfl
def blsQ (o : Option (List Bool)) (f : List Bool → Prop) : Prop := match o with
  | some ds => f ds
  | none => False
theorem blsQ_some {f : List Bool → Prop} {ns} : blsQ (some ns) f = f ns := rfl
def strQ (o : Option String) (f : String → Prop) : Prop := match o with
  | some ds => f ds
  | none => False
theorem strQ_some {f : String → Prop} {t} : strQ (some t) f = f t := rfl
def seqR (o : Option MO) : Option (List D) := match o with
  | some (.lst ds) => some ds
  | _ => none
theorem seqR_lst : seqR (some (.lst ds)) = some ds := rfl
theorem seqOf_R : seqOf (.ref k) M = seqR M[k]? := rfl
theorem lstOf_R : lstOf (.ref k) M = seqR M[k]? := rfl
def ixR (o : Option MO) (k : Nat) (y : D) (M : Md) (Q : QE) : Prop := match o, y with
  | some (.lst ds), .int i => atQ ds i M Q
  | some (.dct kvs), y => optQ (keyD y) fun ky => optQ (dctVal kvs ky) fun d => Q d M
  | some (.dctT kvs), y => optQ (tKey y) fun ky => optQ (dctValT kvs ky) fun d => Q d M
  | _, _ => ixD (.ref k) y M Q
theorem ix_R {y : D} : ixD (.ref k) y M Q = ixR M[k]? k y M Q := by
  unfold ixR
  cases h : M[k]? with
  | none => rfl
  | some m =>
    cases m with
    | lst ds =>
      cases y with
      | int i => exact ix_ref h
      | _ => rfl
    | dct kvs =>
      cases e : keyD y with
      | none => cases y <;> simp only [ixD, dGet, h, e, optQ, Option.map_none, seqOf]
      | some ky => cases e2 : dctVal kvs ky <;> cases y <;> simp only [ixD, dGet, h, e, optQ, Option.map_some, e2]
    | dctT kvs =>
      cases e : tKey y with
      | none => cases y <;> simp only [ixD, dGet, h, e, optQ, Option.map_none, seqOf]
      | some ky => cases e2 : dctValT kvs ky <;> cases y <;> simp only [ixD, dGet, h, e, optQ, Option.map_some, e2]
    | _ => rfl
theorem ixR_lst {i : Int} : ixR (some (.lst ds)) k (.int i) M Q = atQ ds i M Q := rfl
theorem ixR_dct {y : D} : ixR (some (.dct kvs)) k y M Q = optQ (keyD y) fun ky => optQ (dctVal kvs ky) fun d => Q d M := by
  cases y <;> rfl
theorem ixR_dctT {kvs : List (D × D)} {y : D} : ixR (some (.dctT kvs)) k y M Q = optQ (tKey y) fun ky => optQ (dctValT kvs ky) fun d => Q d M := by
  cases y <;> rfl
/-- x in a changing object -/
def inR (o : Option MO) (k : Nat) (x : D) (M : Md) (Q : Bool → Prop) : Prop := match o with
  | some (.dct kvs) => optQ (keyD x) fun ky => Q (dctVal kvs ky).isSome
  | some (.dctT kvs) => optQ (tKey x) fun ky => Q (dctValT kvs ky).isSome
  | _ => inD x (.ref k) M Q
theorem inD_R {x : D} : inD x (.ref k) M QB = inR M[k]? k x M QB := by
  unfold inR
  cases h : M[k]? with
  | none => rfl
  | some m =>
    cases m with
    | dct kvs =>
      cases e : keyD x with
      | none => cases x <;> simp only [inD, dGet, h, e, optQ, Option.map_none, seqOf]
      | some ky => cases x <;> simp only [inD, dGet, h, e, optQ, Option.map_some]
    | dctT kvs =>
      cases e : tKey x with
      | none => cases x <;> simp only [inD, dGet, h, e, optQ, Option.map_none, seqOf]
      | some ky => cases x <;> simp only [inD, dGet, h, e, optQ, Option.map_some]
    | _ => rfl
theorem cp_inn_R {x : D} : cpD .inn x (.ref k) M QB = inR M[k]? k x M QB := inD_R
theorem cp_nin_R {x : D} : cpD .nin x (.ref k) M QB = inR M[k]? k x M fun b => QB (!b) := inD_R (QB := fun b => QB (!b))
theorem inR_dct {x : D} : inR (some (.dct kvs)) k x M QB = optQ (keyD x) fun ky => QB (dctVal kvs ky).isSome := rfl
theorem inR_dctT {kvs : List (D × D)} {x : D} : inR (some (.dctT kvs)) k x M QB = optQ (tKey x) fun ky => QB (dctValT kvs ky).isSome := rfl
theorem inR_lst {x : D} : inR (some (.lst ds)) k x M QB = inD x (.ref k) M QB := rfl
theorem keyD_non : keyD .non = some none := rfl
theorem keyD_int {i : Int} : keyD (.int i) = some (some (.inl i)) := rfl
theorem keyD_str {i : Str} : keyD (.str i) = some (some (.inr i)) := rfl
def truR (o : Option MO) (QB : Bool → Prop) : Prop := match o with
  | some (.lst ds) => QB (!ds.isEmpty)
  | _ => False
theorem tru_R : truD (.ref k) M QB = truR M[k]? QB := rfl
theorem truR_lst : truR (some (.lst ds)) QB = QB (!ds.isEmpty) := rfl
theorem walk_R : walkD (.ref k) M QI = seqQ (seqR M[k]?) fun ds => QI ds (some k) M := rfl
theorem walk_scr {ns} : walkD (.scr ns) M QI = QI (ns.map .int) none M := rfl
theorem len_R : btD .len [.ref k] M Q = seqQ (seqR M[k]?) fun ds => Q (.int ds.length) M := rfl
theorem list_R : btD .list [.ref k] M Q = seqQ (seqR M[k]?) fun ds => Q (.lst ds) M := rfl
theorem listM_R : btD .listM [.ref k] M Q = seqQ (seqR M[k]?) fun ds => Q (.ref M.length) (M ++ [.lst ds]) := rfl
theorem tuple_R : btD .tuple [.ref k] M Q = seqQ (seqR M[k]?) fun ds => Q (.tup ds) M := rfl
theorem list_scr {ns} : btD .list [.scr ns] M Q = Q (.lst (ns.map .int)) M := rfl
theorem tuple_scr {ns} : btD .tuple [.scr ns] M Q = Q (.tup (ns.map .int)) M := rfl
theorem sorted_R : btD .sorted [.ref k] M Q = seqQ (seqR M[k]?) fun ds => SortOk ds ∧ Q (.lst (sortD ds)) M := by
  show ((∀ es, D.ref k ≠ .tup es) ∧ seqQ (seqR M[k]?) fun ds => SortOk ds ∧ Q (.lst (sortD ds)) M) = _
  exact propext ⟨fun h => h.2, fun h => ⟨(by intro _ h; cases h), h⟩⟩
theorem sortedM_lst : btD .sortedM [.lst ds] M Q = (SortOk ds ∧ Q (.ref M.length) (M ++ [.lst (sortD ds)])) := by
  show ((∀ es, D.lst ds ≠ .tup es) ∧ SortOk ds ∧ Q (.ref M.length) (M ++ [.lst (sortD ds)])) = _
  exact propext ⟨fun h => h.2, fun h => ⟨(by intro _ h; cases h), h⟩⟩
theorem sortedM_R : btD .sortedM [.ref k] M Q = seqQ (seqR M[k]?) fun ds => SortOk ds ∧ Q (.ref M.length) (M ++ [.lst (sortD ds)]) := by
  show ((∀ es, D.ref k ≠ .tup es) ∧ seqQ (seqR M[k]?) fun ds => SortOk ds ∧ Q (.ref M.length) (M ++ [.lst (sortD ds)])) = _
  exact propext ⟨fun h => h.2, fun h => ⟨(by intro _ h; cases h), h⟩⟩
theorem sum_lst : btD .sum [.lst ds] M Q = intsQ (intsOf ds) fun ns => Q (.int ns.sum) M := by
  show ((∀ es, D.lst ds ≠ .tup es) ∧ intsQ (intsOf ds) fun ns => Q (.int ns.sum) M) = _
  exact propext ⟨fun h => h.2, fun h => ⟨(by intro _ h; cases h), h⟩⟩
theorem any_lst : btD .any [.lst ds] M Q = blsQ (blsOf ds) fun bs => Q (.bl (bs.any id)) M := by
  show ((∀ es, D.lst ds ≠ .tup es) ∧ blsQ (blsOf ds) fun bs => Q (.bl (bs.any id)) M) = _
  exact propext ⟨fun h => h.2, fun h => ⟨(by intro _ h; cases h), h⟩⟩
theorem all_lst : btD .all [.lst ds] M Q = blsQ (blsOf ds) fun bs => Q (.bl (bs.all id)) M := by
  show ((∀ es, D.lst ds ≠ .tup es) ∧ blsQ (blsOf ds) fun bs => Q (.bl (bs.all id)) M) = _
  exact propext ⟨fun h => h.2, fun h => ⟨(by intro _ h; cases h), h⟩⟩
theorem intsOf_map {α : Type} {f : α → Int} {xs : List α} : intsOf (xs.map fun x => D.int (f x)) = some (xs.map f) := by
  induction xs with
  | nil => rfl
  | cons x xs ih => simp only [List.map_cons, intsOf, ih, Option.map_some]
theorem blsOf_map {α : Type} {f : α → Bool} {xs : List α} : blsOf (xs.map fun x => D.bl (f x)) = some (xs.map f) := by
  induction xs with
  | nil => rfl
  | cons x xs ih => simp only [List.map_cons, blsOf, ih, Option.map_some]
def tyR (o : Option MO) : Option String := match o with
  | some (.lst _) => some "list"
  | _ => none
theorem tyR_lst : tyR (some (.lst ds)) = some "list" := rfl
theorem isi_R {T : String} : btD (.isi T) [.ref k] M Q = strQ (tyR M[k]?) fun t => isiQ t T M Q := rfl
theorem isi_scr {T : String} {ns} : btD (.isi T) [.scr ns] M Q = isiQ "list" T M Q := rfl
def sxR (o : Option MO) (k : Nat) (y d : D) (M : Md) (Q : Md → Prop) : Prop := match o, y with
  | some (.lst ds), .int i => optQ (ixN ds.length i) fun j => Q (M.set k (.lst (ds.set j d)))
  | some (.dct kvs), y => optQ (keyD y) fun ky => kvs.length < sizeLine ∧ Q (M.set k (.dct (dctPut kvs ky d)))
  | some (.dctT kvs), y => optQ (tKey y) fun ky => kvs.length < sizeLine ∧ Q (M.set k (.dctT (dctPutT kvs y ky d)))
  | _, _ => False
theorem sx_R {y d : D} : setIxD (.ref k) y d M QM = sxR M[k]? k y d M QM := by
  unfold sxR
  cases h : M[k]? with
  | none => simp only [setIxD, h]
  | some m =>
    cases m with
    | lst ds =>
      cases y with
      | int i => cases e : ixN ds.length i <;> simp only [setIxD, h, e, optQ]
      | _ => simp only [setIxD, h]
    | dct kvs => cases e : keyD y <;> simp only [setIxD, h, e, optQ]
    | dctT kvs => cases e : tKey y <;> simp only [setIxD, h, e, optQ]
    | _ => simp only [setIxD, h]
theorem sxR_lst {i : Int} {d : D} : sxR (some (.lst ds)) k (.int i) d M QM = optQ (ixN ds.length i) fun j => QM (M.set k (.lst (ds.set j d))) := rfl
theorem sxR_dct {y d : D} : sxR (some (.dct kvs)) k y d M QM = optQ (keyD y) fun ky => kvs.length < sizeLine ∧ QM (M.set k (.dct (dctPut kvs ky d))) := by
  cases y <;> rfl
theorem sxR_dctT {kvs : List (D × D)} {y d : D} : sxR (some (.dctT kvs)) k y d M QM = optQ (tKey y) fun ky => kvs.length < sizeLine ∧ QM (M.set k (.dctT (dctPutT kvs y ky d))) := by
  cases y <;> rfl
theorem ixN_pos {n : Nat} {i : Int} (h : 0 ≤ i) (h2 : i < n) : ixN n i = some i.toNat := by
  unfold ixN
  rw [if_pos h, if_pos h2]
theorem ixN_0 {n : Nat} : ixN (n + 1) 0 = some 0 := ixN_pos (Int.le_refl 0) (by omega)
theorem ixN_1 {n : Nat} : ixN (n + 1 + 1) 1 = some 1 := ixN_pos (by omega) (by omega)
theorem ixN_m1 {n : Nat} : ixN (n + 1) (-1) = some n := by
  unfold ixN
  rw [if_neg (by omega), if_pos (by omega)]
  congr 1
  omega
theorem mtK_R {m : Mt} (h : mtT m = "list") : mtK m (.ref k) M = ((seqR M[k]?).isSome = true) := by
  unfold mtK
  rw [if_pos h]
  exact propext ⟨fun h => h.1, fun h => ⟨h, by intro _ h; cases h⟩⟩
theorem mtKa : mtK .append (.ref k) M = ((seqR M[k]?).isSome = true) := mtK_R rfl
theorem mtKe : mtK .extend (.ref k) M = ((seqR M[k]?).isSome = true) := mtK_R rfl
theorem mtKp : mtK .pop (.ref k) M = ((seqR M[k]?).isSome = true) := mtK_R rfl
theorem mtKpa : mtK .popAt (.ref k) M = ((seqR M[k]?).isSome = true) := mtK_R rfl
theorem mtKx : mtK .index (.ref k) M = ((seqR M[k]?).isSome = true) := mtK_R rfl
theorem mtKxl {ds : List D} : mtK .index (.lst ds) M = True := by
  show (if "list" = "list" then (seqOf (D.lst ds) M).isSome = true ∧ ∀ es, D.lst ds ≠ D.tup es else ∃ s, D.lst ds = D.str s) = True
  rw [if_pos rfl]
  exact propext ⟨fun _ => trivial, fun _ => ⟨rfl, fun _ h => by cases h⟩⟩
def idxQ (o : Option (List D)) (y : D) (M : Md) (Q : QE) : Prop := seqQ o fun ds => flatD y = true ∧ ds.all flatD = true ∧ match idxF y ds with
  | some j => Q (.int j) M
  | none => False
theorem idx_eq {x y : D} : mtD .index x [y] M Q = idxQ (lstOf x M) y M Q := by
  unfold idxQ
  show (match lstOf x M, [y] with
    | some ds, [y] => _
    | _, _ => False) = _
  cases lstOf x M <;> rfl
theorem rev_R {m : Bool} {a : CE} {Φ κ E σ} : rE Φ κ (.rev m a) E σ M Q = rE Φ κ a E σ M fun x M1 => seqQ (lstOf x M1) fun ds => if m = true then Q (.ref M1.length) (M1 ++ [.lst ds.reverse]) else Q (.lst ds.reverse) M1 := by
  show (rE Φ κ a E σ M fun x M1 => match lstOf x M1 with
    | some ds => if m = true then Q (.ref M1.length) (M1 ++ [.lst ds.reverse]) else Q (.lst ds.reverse) M1
    | none => False) = _
  congr 1
  try (funext x M1; cases lstOf x M1 <;> rfl)
theorem mtKi : mtK .insert (.ref k) M = ((seqR M[k]?).isSome = true) := mtK_R rfl
theorem mtKr : mtK .reverse (.ref k) M = ((seqR M[k]?).isSome = true) := mtK_R rfl
theorem app_R {d : D} : mtD .append (.ref k) [d] M Q = seqQ (seqR M[k]?) fun ds => ds.length < sizeLine ∧ Q .non (M.set k (.lst (ds ++ [d]))) := by
  cases e : seqR M[k]? with
  | none =>
    show (match mutOf (.ref k) M, [d] with
      | some (k, ds), [d] => ds.length < sizeLine ∧ Q .non (M.set k (.lst (ds ++ [d])))
      | _, _ => False) = False
    unfold seqR at e
    unfold mutOf
    cases h : M[k]? with
    | none => simp only [h, seqQ]
    | some m =>
      cases m with
      | lst ds => rw [h] at e; cases e
      | _ => simp only [h, seqQ]
  | some ds =>
    have h : M[k]? = some (.lst ds) := by
      unfold seqR at e
      split at e
      · next h => cases e; exact h
      · cases e
    exact mt_app h
theorem ext_R {d : D} (h : M[k]? = some (.lst ds)) : mtD .extend (.ref k) [d] M Q = seqQ (lstOf d M) fun es => ds.length + es.length ≤ sizeLine ∧ Q .non (M.set k (.lst (ds ++ es))) := by
  simp only [mtD, mutOf, h]
  cases lstOf d M <;> rfl
theorem pop_R (h : M[k]? = some (.lst ds)) : mtD .pop (.ref k) [] M Q = optQ ds.getLast? fun d => Q d (M.set k (.lst ds.dropLast)) := by
  simp only [mtD, mutOf, h]
  cases ds.getLast? <;> rfl
theorem addR : opD .add (.ref k) (.lst es) M Q = seqQ (seqR M[k]?) fun ds => ds.length + es.length ≤ sizeLine ∧ Q (.lst (ds ++ es)) M := by
  show (match seqR M[k]?, some es with
    | some a, some b => a.length + b.length ≤ sizeLine ∧ Q (.lst (a ++ b)) M
    | _, _ => False) = _
  cases seqR M[k]? <;> rfl
theorem catR : opD .cat (.ref k) (.lst es) M Q = seqQ (seqR M[k]?) fun ds => ds.length + es.length ≤ sizeLine ∧ Q (.ref M.length) (M ++ [.lst (ds ++ es)]) := by
  show (match seqR M[k]?, some es with
    | some a, some b => a.length + b.length ≤ sizeLine ∧ Q (.ref M.length) (M ++ [MO.lst (a ++ b)])
    | _, _ => False) = _
  cases seqR M[k]? <;> rfl
theorem isi_l {a : D} {T : String} (h : lstOf a M = some ds) : btD (.isi T) [a] M Q = isiQ "list" T M Q := by
  cases a with
  | lst _ => rfl
  | ref k =>
    rw [lstOf_R] at h
    unfold seqR at h
    split at h
    · next e => rw [isi_R, e]; rfl
    · cases h
  | _ => cases h
theorem len_l {a : D} (h : lstOf a M = some ds) : btD .len [a] M Q = Q (.int ds.length) M := by
  cases a with
  | lst _ => cases h; rfl
  | ref k =>
    rw [lstOf_R] at h
    rw [len_R, h]; rfl
  | _ => cases h
theorem ix_l {a : D} {i : Int} (h : lstOf a M = some ds) : ixD a (.int i) M Q = atQ ds i M Q := by
  cases a with
  | lst _ => cases h; rfl
  | ref k =>
    rw [lstOf_R] at h
    unfold seqR at h
    split at h
    · next e => cases h; rw [ix_R, e]; rfl
    · cases h
  | _ => cases h
theorem isNon_l {a : D} (h : lstOf a M = some ds) : isNon a = false := by
  cases a <;> first | rfl | cases h
theorem sorted_l {a : D} (h : lstOf a M = some ds) : btD .sorted [a] M Q = (SortOk ds ∧ Q (.lst (sortD ds)) M) := by
  cases a with
  | lst _ => cases h; exact bt_sorted_lst
  | ref k =>
    rw [lstOf_R] at h
    rw [sorted_R, h]; rfl
  | _ => cases h
theorem set_snoc {α : Type} {xs : List α} {x d : α} : (xs ++ [x]).set xs.length d = xs ++ [d] := by
  rw [List.set_append_right _ _ (Nat.le_refl _), Nat.sub_self]; rfl
theorem emp_snoc {α : Type} {xs : List α} {x : α} : (xs ++ [x]).isEmpty = false := by cases xs <;> rfl
theorem emp_cons {α : Type} {xs : List α} {x : α} : (x :: xs).isEmpty = false := rfl
theorem emp_nil {α : Type} : ([] : List α).isEmpty = true := rfl
theorem MOk.head {m m' : MO} (h : MOk (m :: R)) (hm : RLtM (R.length + 1) m') : MOk (m' :: R) := fun x hx => by
  rcases List.mem_cons.mp hx with z | z
  · rw [z]; exact hm
  · exact h x (List.mem_cons_of_mem _ z)
theorem MOk.st {m : MO} {a b : Int} (h : MOk (m :: R)) : MOk (.lst [.int a, .int b] :: R) := h.head ⟨trivial, trivial, trivial⟩
theorem Fin.settle_tail {n0 : Nat} {Q : QE} (hn : M.length = n0) (hd : RLts M.length ds) (hM : MOk M) (q : Q (.lst ds) M) : Fin n0 Q (.ref M.length) (M ++ [.lst ds]) := by
  refine .settle (ds := ds) (by rw [at_new0]; rfl) ?_
  rw [set_new0]
  exact Fin.tail hn hd hM q
theorem Fin.settle_head {n0 : Nat} {Q : QE} {m : MO} (hn : R.length + 1 = n0) (hd : RLts (R.length + 1) ds) (hM : MOk (m :: R)) (q : Q (.lst ds) (m :: R)) : Fin n0 Q (.ref (R.length + 1)) (m :: (R ++ [.lst ds])) :=
  Fin.settle_tail (M := m :: R) hn hd hM q
theorem Fin.head {n0 : Nat} {Q : QE} {m : MO} {d : D} {l : Md} (hn : R.length + 1 = n0) (hd : RLt (R.length + 1) d) (hM : MOk (m :: R)) (q : Q d (m :: R)) : Fin n0 Q d (m :: (R ++ l)) :=
  Fin.tail (M := m :: R) hn hd hM q
theorem sz0 : (0 ≤ sizeLine) = True := by decide
theorem sz1 : (1 ≤ sizeLine) = True := by decide
theorem sz2 : (2 ≤ sizeLine) = True := by decide
theorem sz3 : (3 ≤ sizeLine) = True := by decide
theorem sz4 : (4 ≤ sizeLine) = True := by decide
theorem sz5 : (5 ≤ sizeLine) = True := by decide
theorem sz6 : (6 ≤ sizeLine) = True := by decide
theorem size_eq : sizeLine = 16777216 := by decide
theorem wipe_nil {σ : Std} : wipeD σ [] = σ := rfl
theorem wipe_cons {σ : Std} {v vs} : wipeD σ (v :: vs) = (wipeD σ vs).set v none := rfl
end
theorem lnLaw {n : Nat} : ∀ ds M Q E, spLaw n ds M Q E → ds.length = 1 := by
  rintro _ _ _ _ ⟨_, _, rfl, _⟩; rfl
end DL

/-! DL: constants of the module that are tuples, tuples of tuples -/
namespace DL
open PySem PySem.Spec PyProof.Rows L2
mutual
def relC (K : PySem.W.Frag) : D → Value → Bool
  | .non, .none => true
  | .bl b, .bool c => b == c
  | .int i, .int j _ => decide (i = j)
  | .str s, .str t _ => decide (s = t)
  | .tup ds, .ref p => match K.lookup p with
    | some ⟨.type c, _, .seq its _, _⟩ => decide (c = "tuple") && (decide (its.size ≤ sizeLine) && relCs K ds its.toList)
    | _ => false
  | _, _ => false
def relCs (K : PySem.W.Frag) : List D → List Value → Bool
  | [], [] => true
  | d :: ds, u :: us => relC K d u && relCs K ds us
  | _, _ => false
end
mutual
theorem relC_ok {P : Pm} : ∀ {d : D} {u : Value}, relC P.K d u = true → ∃ v, RelV v u ∧ ∀ w, RelD P w d v
  | .non, u, h => by
    cases u <;> first | (cases h; done) | exact ⟨.non, rfl, fun _ => rfl⟩
  | .bl b, u, h => by
    cases u <;> first | (cases h; done) | exact ⟨.bl b, by rw [eq_of_beq (show (b == _) = true from h)]; rfl, fun _ => rfl⟩
  | .int i, u, h => by
    cases u with
    | int j t => exact ⟨.int i, ⟨t, by rw [of_decide_eq_true (show decide (i = j) = true from h)]⟩, fun _ => rfl⟩
    | _ => cases h
  | .str i, u, h => by
    cases u with
    | str j t => exact ⟨.str i, ⟨t, by rw [of_decide_eq_true (show decide (i = j) = true from h)]⟩, fun _ => rfl⟩
    | _ => cases h
  | .tup ds, u, h => by
    cases u with
    | ref p =>
      unfold relC at h
      cases q : P.K.lookup p with
      | none => rw [q] at h; cases h
      | some o =>
        obtain ⟨oc, od, dt, osl⟩ := o
        rw [q] at h
        cases oc with
        | type c =>
          cases dt with
          | seq its n =>
            have h : (decide (c = "tuple") && (decide (its.size ≤ sizeLine) && relCs P.K ds its.toList)) = true := h
            simp only [Bool.and_eq_true, decide_eq_true_eq] at h
            obtain ⟨h1, h2, h3⟩ := h
            obtain ⟨vs, r, hr⟩ := relCs_ok h3
            exact ⟨.ref p, rfl, fun w => ⟨p, vs, rfl, .inr ⟨_, its, n, q, congrArg Value.type h1, rfl, h2, r⟩, hr w⟩⟩
          | _ => cases h
        | _ => cases dt <;> cases h
    | _ => cases h
  | .lst _, u, h => by cases u <;> cases h
  | .scr _, u, h => by cases u <;> cases h
  | .ref _, u, h => by cases u <;> cases h
  | .obj _ _ _, u, h => by cases u <;> cases h
theorem relCs_ok {P : Pm} : ∀ {ds : List D} {us : List Value}, relCs P.K ds us = true → ∃ vs, Vals vs us ∧ ∀ w, RelDs P w ds vs
  | [], us, h => by
    cases us with
    | nil => exact ⟨[], .nil, fun _ => rfl⟩
    | cons _ _ => cases h
  | d :: ds, us, h => by
    cases us with
    | nil => cases h
    | cons u us =>
      have h : (relC P.K d u && relCs P.K ds us) = true := h
      rw [Bool.and_eq_true] at h
      obtain ⟨v, r1, r2⟩ := relC_ok h.1
      obtain ⟨vs, r3, r4⟩ := relCs_ok h.2
      exact ⟨v :: vs, .cons r1 r3, fun w => ⟨v, vs, rfl, r2 w, r4 w⟩⟩
end
/-- the module's name is this constant -/
def cstB (K : PySem.W.Frag) (c : Str × D) : Bool := match PySem.W.nsIn K mainGlobals c.1 with
  | some (some u) => relC K c.2 u
  | _ => false
theorem hcC {P : Pm} {h : Heap} {mg : Str → Option Value} {x : Str} {d : D} (X : P.K.In h) (G : h.Ns mainGlobals mg) (c : cstB P.K (x, d) = true) : ∃ u v, mg x = some u ∧ RelV v u ∧ ∀ w, RelD P w d v := by
  unfold cstB at c
  cases q : PySem.W.nsIn P.K mainGlobals x with
  | none => simp only [q] at c; cases c
  | some o =>
    cases o with
    | none => simp only [q] at c; cases c
    | some u =>
      simp only [q] at c
      obtain ⟨v, r1, r2⟩ := relC_ok c
      exact ⟨u, v, PySem.W.mg_of X G q, r1, r2⟩
def obsC (fa : List He.Fa) (fn : List He.DefD) (cs : List (Str × D)) (K : PySem.W.Frag) : He.AlD := ((He.obsD fa fn K).1 && cs.all (cstB K), (He.obsD fa fn K).2)
def SaysC (fa : List He.Fa) (fn : List He.DefD) (cs : List (Str × D)) (K : PySem.W.Frag) : Prop := obsC fa fn cs K = He.valD fn
theorem SaysC.two {fa : List He.Fa} {fn : List He.DefD} {cs : List (Str × D)} {K : PySem.W.Frag} (h : SaysC fa fn cs K) : He.SaysD fa fn K ∧ ∀ c ∈ cs, cstB K c = true := by
  have h0 : (obsC fa fn cs K).1 = true := congrArg (fun z : He.AlD => z.1) h
  have h1 : ((He.obsD fa fn K).1 && cs.all (cstB K)) = true := h0
  have h2 : (obsC fa fn cs K).2 = (He.valD fn).2 := congrArg (fun z : He.AlD => z.2) h
  rw [Bool.and_eq_true] at h1
  refine ⟨?_, fun c hc => List.all_eq_true.mp h1.2 c hc⟩
  show He.obsD fa fn K = He.valD fn
  exact Prod.ext h1.1 h2
def obsCG (n : Nat) (fa : List He.Fa) (fn : List He.DefD) (cs : List (Str × D)) (g : Addr → Option Obj) : He.AlD := obsC fa fn cs (He.frG g (He.asD g n))
def hookC (n : Nat) (fa : List He.Fa) (fn : List He.DefD) (cs : List (Str × D)) : PySem.W.Hook where
  α := He.AlD
  obs s := obsCG n fa fn cs s.heap.get?
  val _ := He.valD fn
  says _ h := ∃ K : PySem.W.Frag, K.In h ∧ SaysC fa fn cs K
  of _ _ e := ⟨_, He.frG_in, e⟩
  keeps := fun _ _ _ z k => let ⟨K, a, b⟩ := z; ⟨K, PySem.W.Frag.In.keeps a k, b⟩
theorem obsCG_eq {n : Nat} {fa : List He.Fa} {fn : List He.DefD} {cs : List (Str × D)} {g : Addr → Option Obj} {s : Shared} (h : ∀ a, g a = s.heap.get? a) : obsCG n fa fn cs g = (hookC n fa fn cs).obs s := by
  have e : g = s.heap.get? := funext fun a => h a
  rw [e]
  rfl
end DL

/-! DL: pure expressions, evaluated at once -/
namespace DL
open PySem L2
def truB : D → Option Bool
  | .non => some false
  | .bl b => some b
  | .int i => some (i != 0)
  | .tup ds => some (!ds.isEmpty)
  | .lst ds => some (!ds.isEmpty)
  | _ => none
theorem truB_ok {d : D} {k : Bool} {M : Md} {Q : Bool → Prop} (h : truB d = some k) (q : Q k) : truD d M Q := by
  cases d <;> first | (cases h; exact q) | cases h
def cmpB (c : Cp) (x y : D) : Option Bool := match c, x, y with
  | .lt, .int i, .int j => some (decide (i < j))
  | .le, .int i, .int j => some (decide (i ≤ j))
  | .gt, .int i, .int j => some (decide (j < i))
  | .ge, .int i, .int j => some (decide (j ≤ i))
  | .eq, x, y => eqS x y
  | .ne, x, y => (eqS x y).map (!·)
  | .isN, x, .non => some (isNon x)
  | .notN, x, .non => some (!isNon x)
  | _, _, _ => none
theorem cmpB_ok {c : Cp} {x y : D} {k : Bool} {M : Md} {Q : Bool → Prop} (h : cmpB c x y = some k) (q : Q k) : cpD c x y M Q := by
  unfold cmpB at h
  split at h
  · cases h; exact q
  · cases h; exact q
  · cases h; exact q
  · cases h; exact q
  · show eqQ _ _ M Q
    unfold eqQ; rw [h]; exact q
  · show eqQ _ _ M fun b => Q (!b)
    obtain ⟨b, hb, e⟩ := Option.map_eq_some_iff.mp h
    unfold eqQ; rw [hb]
    subst e
    exact q
  · cases h; rw [cp_isN]; exact q
  · cases h; rw [cp_notN]; exact q
  · cases h
def binB (o : Op) (x y : D) : Option D := match o, x, y with
  | .add, .int i, .int j => some (.int (i + j))
  | .sub, .int i, .int j => some (.int (i - j))
  | _, _, _ => none
theorem binB_ok {o : Op} {x y d : D} {M : Md} {Q : QE} (h : binB o x y = some d) (q : Q d M) : opD o x y M Q := by
  unfold binB at h
  split at h
  · cases h; exact q
  · cases h; exact q
  · cases h
def negB : D → Option D
  | .int i => some (.int (-i))
  | _ => none
def ev (σ : Std) : CE → Option D
  | .var i => (σ[i]?).bind id
  | .int i => some (.int i)
  | .str i => some (.str i)
  | .bl i => some (.bl i)
  | .non => some .non
  | .neg a => (ev σ a).bind negB
  | .not a => ((ev σ a).bind truB).map fun k => .bl (!k)
  | .and a b => (ev σ a).bind fun x => (truB x).bind fun k => if k then ev σ b else some x
  | .or a b => (ev σ a).bind fun x => (truB x).bind fun k => if k then some x else ev σ b
  | .cmp c a b => (ev σ a).bind fun x => (ev σ b).bind fun y => (cmpB c x y).map .bl
  | .bin o a b => (ev σ a).bind fun x => (ev σ b).bind fun y => binB o x y
  | _ => none
theorem ev_ok {Φ : Nat → SpD} {κ : Nat → D} {E : EX} {σ : Std} : ∀ (e : CE) {d : D} {M : Md} {Q : QE}, ev σ e = some d → Q d M → rE Φ κ e E σ M Q
  | .var i, d, M, Q, h, q => by
    rw [rE_var]
    have h : (σ[i]?).bind id = some d := h
    cases e : σ[i]? with
    | none => rw [e] at h; cases h
    | some o =>
      rw [e] at h
      have h : o = some d := h
      subst h
      exact q
  | .int i, d, M, Q, h, q => by cases h; exact q
  | .str i, d, M, Q, h, q => by cases h; exact q
  | .bl i, d, M, Q, h, q => by cases h; exact q
  | .non, d, M, Q, h, q => by cases h; exact q
  | .neg a, d, M, Q, h, q => by
    obtain ⟨x, hx, h⟩ := Option.bind_eq_some_iff.mp h
    rw [rE_neg]
    refine ev_ok a hx ?_
    cases x <;> first | (cases h; exact q) | cases h
  | .not a, d, M, Q, h, q => by
    obtain ⟨k, hk, e⟩ := Option.map_eq_some_iff.mp h
    obtain ⟨x, hx, h2⟩ := Option.bind_eq_some_iff.mp hk
    rw [rE_not]
    refine ev_ok a hx ?_
    subst e
    exact truB_ok (Q := fun k => Q (.bl (!k)) M) h2 q
  | .and a b, d, M, Q, h, q => by
    obtain ⟨x, hx, h⟩ := Option.bind_eq_some_iff.mp h
    obtain ⟨k, hk, h⟩ := Option.bind_eq_some_iff.mp h
    rw [rE_and]
    refine ev_ok a hx (truB_ok hk ?_)
    cases k with
    | true => rw [if_pos rfl] at h ⊢; exact ev_ok b h q
    | false => rw [if_neg (by decide)] at h ⊢; cases h; exact q
  | .or a b, d, M, Q, h, q => by
    obtain ⟨x, hx, h⟩ := Option.bind_eq_some_iff.mp h
    obtain ⟨k, hk, h⟩ := Option.bind_eq_some_iff.mp h
    rw [rE_or]
    refine ev_ok a hx (truB_ok hk ?_)
    cases k with
    | true => rw [if_pos rfl] at h ⊢; cases h; exact q
    | false => rw [if_neg (by decide)] at h ⊢; exact ev_ok b h q
  | .cmp c a b, d, M, Q, h, q => by
    obtain ⟨x, hx, h⟩ := Option.bind_eq_some_iff.mp h
    obtain ⟨y, hy, h⟩ := Option.bind_eq_some_iff.mp h
    obtain ⟨k, hk, e⟩ := Option.map_eq_some_iff.mp h
    rw [rE_cmp]
    refine ev_ok a hx (ev_ok b hy ?_)
    subst e
    exact cmpB_ok (Q := fun k => Q (.bl k) M) hk q
  | .bin o a b, d, M, Q, h, q => by
    obtain ⟨x, hx, h⟩ := Option.bind_eq_some_iff.mp h
    obtain ⟨y, hy, h⟩ := Option.bind_eq_some_iff.mp h
    rw [rE_bin]
    exact ev_ok a hx (ev_ok b hy (binB_ok h q))
  | .glob _, d, M, Q, h, q => by cases h
  | .chain _ _ _ _ _, d, M, Q, h, q => by cases h
  | .ife _ _ _, d, M, Q, h, q => by cases h
  | .tup _, d, M, Q, h, q => by cases h
  | .lst _ _, d, M, Q, h, q => by cases h
  | .idx _ _, d, M, Q, h, q => by cases h
  | .slc _ _ _ _, d, M, Q, h, q => by cases h
  | .call _ _, d, M, Q, h, q => by cases h
  | .blt _ _, d, M, Q, h, q => by cases h
  | .mth _ _ _, d, M, Q, h, q => by cases h
  | .comp _ _ _ _ _ _, d, M, Q, h, q => by cases h
  | .dnew, d, M, Q, h, q => by cases h
  | .dnewT, d, M, Q, h, q => by cases h
  | .dlit _ _, d, M, Q, h, q => by cases h
  | .dget _ _ _, d, M, Q, h, q => by cases h
  | .listRg _ _, d, M, Q, h, q => by cases h
  | .fld _ _ _, d, M, Q, h, q => by cases h
  | .make _ _ _ _, d, M, Q, h, q => by cases h
  | .meth _ _ _ _ _, d, M, Q, h, q => by cases h
  | .rev _ _, d, M, Q, h, q => by cases h
  | .callK _ _ _ _ _ _, d, M, Q, h, q => by cases h
  | .makeK _ _ _ _ _ _ _ _, d, M, Q, h, q => by cases h
  | .methK _ _ _ _ _ _ _ _ _, d, M, Q, h, q => by cases h
theorem evT_ok {Φ : Nat → SpD} {κ : Nat → D} {E : EX} {σ : Std} : ∀ (e : CE) {d : D} {k : Bool} {M : Md} {Q : Bool → Md → Prop}, ev σ e = some d → truB d = some k → Q k M → rT Φ κ e E σ M Q
  | .not a, d, k, M, Q, h, hk, q => by
    obtain ⟨k', hk', e⟩ := Option.map_eq_some_iff.mp h
    obtain ⟨x, hx, h2⟩ := Option.bind_eq_some_iff.mp hk'
    rw [rT_not]
    subst e
    cases hk
    exact evT_ok (Q := fun k M => Q (!k) M) a hx h2 q
  | .and a b, d, k, M, Q, h, hk, q => by
    obtain ⟨x, hx, h⟩ := Option.bind_eq_some_iff.mp h
    obtain ⟨j, hj, h⟩ := Option.bind_eq_some_iff.mp h
    rw [rT_and]
    refine evT_ok a hx hj ?_
    cases j with
    | true => rw [if_pos rfl] at h ⊢; exact evT_ok b h hk q
    | false => rw [if_neg (by decide)] at h ⊢; cases h; rw [hj] at hk; cases hk; exact q
  | .or a b, d, k, M, Q, h, hk, q => by
    obtain ⟨x, hx, h⟩ := Option.bind_eq_some_iff.mp h
    obtain ⟨j, hj, h⟩ := Option.bind_eq_some_iff.mp h
    rw [rT_or]
    refine evT_ok a hx hj ?_
    cases j with
    | true => rw [if_pos rfl] at h ⊢; cases h; rw [hj] at hk; cases hk; exact q
    | false => rw [if_neg (by decide)] at h ⊢; exact evT_ok b h hk q
  | .cmp c a b, d, k, M, Q, h, hk, q => by
    obtain ⟨x, hx, h⟩ := Option.bind_eq_some_iff.mp h
    obtain ⟨y, hy, h⟩ := Option.bind_eq_some_iff.mp h
    obtain ⟨j, hj, e⟩ := Option.map_eq_some_iff.mp h
    rw [rT_cmp]
    refine ev_ok a hx (ev_ok b hy ?_)
    subst e
    cases hk
    exact cmpB_ok (Q := fun k => Q k M) hj q
  | .var i, d, k, M, Q, h, hk, q => by rw [rT_var]; exact ev_ok (.var i) h (truB_ok (Q := fun k => Q k M) hk q)
  | .bin o a b, d, k, M, Q, h, hk, q => by rw [rT_bin]; exact ev_ok (.bin o a b) h (truB_ok (Q := fun k => Q k M) hk q)
  | .bl i, d, k, M, Q, h, hk, q => by cases h; cases hk; exact q
  | .int i, d, k, M, Q, h, hk, q => by cases h; cases hk; exact q
  | .str i, d, k, M, Q, h, hk, q => by cases h; cases hk
  | .non, d, k, M, Q, h, hk, q => by cases h; cases hk; exact q
  | .neg a, d, k, M, Q, h, hk, q => by
    show rE Φ κ (.neg a) E σ M fun d M1 => truD d M1 fun k => Q k M1
    exact ev_ok (.neg a) h (truB_ok (Q := fun k => Q k M) hk q)
  | .glob _, d, k, M, Q, h, hk, q => by cases h
  | .chain _ _ _ _ _, d, k, M, Q, h, hk, q => by cases h
  | .ife _ _ _, d, k, M, Q, h, hk, q => by cases h
  | .tup _, d, k, M, Q, h, hk, q => by cases h
  | .lst _ _, d, k, M, Q, h, hk, q => by cases h
  | .idx _ _, d, k, M, Q, h, hk, q => by cases h
  | .slc _ _ _ _, d, k, M, Q, h, hk, q => by cases h
  | .call _ _, d, k, M, Q, h, hk, q => by cases h
  | .blt _ _, d, k, M, Q, h, hk, q => by cases h
  | .mth _ _ _, d, k, M, Q, h, hk, q => by cases h
  | .comp _ _ _ _ _ _, d, k, M, Q, h, hk, q => by cases h
  | .dnew, d, k, M, Q, h, hk, q => by cases h
  | .dnewT, d, k, M, Q, h, hk, q => by cases h
  | .dlit _ _, d, k, M, Q, h, hk, q => by cases h
  | .dget _ _ _, d, k, M, Q, h, hk, q => by cases h
  | .listRg _ _, d, k, M, Q, h, hk, q => by cases h
  | .fld _ _ _, d, k, M, Q, h, hk, q => by cases h
  | .make _ _ _ _, d, k, M, Q, h, hk, q => by cases h
  | .meth _ _ _ _ _, d, k, M, Q, h, hk, q => by cases h
  | .rev _ _, d, k, M, Q, h, hk, q => by cases h
  | .callK _ _ _ _ _ _, d, k, M, Q, h, hk, q => by cases h
  | .makeK _ _ _ _ _ _ _ _, d, k, M, Q, h, hk, q => by cases h
  | .methK _ _ _ _ _ _ _ _ _, d, k, M, Q, h, hk, q => by cases h
end DL

/-! DL: texts -/
namespace DL
open PySem L2
/-- a text of codes -/
abbrev tx (l : List Nat) : Str := SX.S l
theorem tx_len {l : List Nat} : (tx l).length = l.length := SX.S_len l
theorem repS_tx {c n : Nat} : repS (tx [c]) n = tx (List.replicate n c) := by
  have h : ∀ (n : Nat) (a : Array Nat), ((List.replicate n (tx [c]).cps).foldl (· ++ ·) a).toList = a.toList ++ List.replicate n c := by
    intro n
    induction n with
    | zero => intro a; simp
    | succ n ih =>
      intro a
      rw [List.replicate_succ, List.foldl_cons, ih, List.replicate_succ]
      show (a ++ (#[c] : Array Nat)).toList ++ _ = _
      simp
  have e2 : (repS (tx [c]) n).cps.toList = List.replicate n c := h n #[]
  rw [← SX.S_tl (repS (tx [c]) n), e2]
theorem charsD_tx {cs : List Nat} : charsD (tx cs) = cs.map fun c => D.str (tx [c]) := by
  show (tx cs).cps.toList.map _ = _
  have e : (tx cs).cps.toList = cs := SX.S_inj (SX.S_tl (tx cs))
  rw [e]
theorem tx_of (s : Str) : ∃ l, s = tx l := ⟨s.cps.toList, (SX.S_tl s).symm⟩
theorem atQ_mem {ds : List D} {i : Int} {M : Md} {Q : QE} (h0 : 0 ≤ i) (h1 : i < ds.length) (h : ∀ d ∈ ds, Q d M) : atQ ds i M Q := by
  obtain ⟨j, rfl⟩ : ∃ j : Nat, i = j := ⟨i.toNat, by omega⟩
  have hj : j < ds.length := by omega
  rw [atQ_some (d := ds[j]) (atI_nat (List.getElem?_eq_getElem hj))]
  exact h _ (List.getElem_mem hj)
theorem joinL_ones (cs : List Nat) : TL.joinL [] (cs.map fun c => [c]) = cs := by
  induction cs with
  | nil => rfl
  | cons c cs ih =>
    cases cs with
    | nil => rfl
    | cons d cs =>
      show [c] ++ ([] ++ TL.joinL [] ((d :: cs).map fun c => [c])) = _
      rw [ih]; rfl
theorem strsOf_map {α : Type} {f : α → Str} {xs : List α} : strsOf (xs.map fun x => D.str (f x)) = some (xs.map f) := by
  induction xs with
  | nil => rfl
  | cons x xs ih => simp only [List.map_cons, strsOf, ih, Option.map_some]
theorem join_ones {cs : List Nat} {M : Md} {Q : QE} (h : cs.length ≤ 16777216) (q : Q (.str (tx cs)) M) : mtD .join (.str "") [.lst (cs.map fun c => D.str (tx [c]))] M Q := by
  rw [mt_joinl strsOf_map]
  refine ⟨?_, ?_⟩
  · have e : ((cs.map fun c => tx [c]).map (·.length)).sum = cs.length := by
      rw [List.map_map]
      clear h q
      induction cs with
      | nil => rfl
      | cons c cs ih =>
        rw [List.map_cons, List.sum_cons, ih, List.length_cons]
        show 1 + cs.length = _
        omega
    rw [e]
    show cs.length + _ * 0 ≤ _
    omega
  · have e : Txt.join "" (cs.map fun c => tx [c]) = tx cs := by
      have := SX.join_S [] (cs.map fun c => [c])
      rw [List.map_map, joinL_ones] at this
      exact this
    rw [e]
    exact q
theorem ix_s {s : Str} {i : Int} {c : Nat} {M : Md} {Q : QE} (h : s.length ≤ sizeLine) (hc : atI s.cps.toList i = some c) (q : Q (.str ⟨#[c]⟩) M) : ixD (.str s) (.int i) M Q := by
  show s.length ≤ sizeLine ∧ _
  refine ⟨h, ?_⟩
  rw [hc]
  exact q
theorem ix_smem {s : Str} {i : Int} {M : Md} {Q : QE} (h : s.length ≤ sizeLine) (h0 : 0 ≤ i) (h1 : i < s.length) (q : ∀ c ∈ s.cps.toList, Q (.str ⟨#[c]⟩) M) : ixD (.str s) (.int i) M Q := by
  obtain ⟨j, rfl⟩ : ∃ j : Nat, i = j := ⟨i.toNat, by omega⟩
  have hl : s.cps.toList.length = s.length := by simp [Str.length]
  have hj : j < s.cps.toList.length := by omega
  exact ix_s h (atI_nat (List.getElem?_eq_getElem hj)) (q _ (List.getElem_mem hj))
theorem joinL_flat (ls : List (List Nat)) : TL.joinL [] ls = ls.flatten := by
  induction ls with
  | nil => rfl
  | cons c cs ih =>
    cases cs with
    | nil => show c = [c].flatten; simp
    | cons d cs =>
      show c ++ ([] ++ TL.joinL [] (d :: cs)) = _
      rw [ih]; rfl
/-- ''.join(..) -/
theorem join_tx {ls : List (List Nat)} {M : Md} {Q : QE} (h : (ls.map List.length).sum ≤ 16777216) (q : Q (.str (tx ls.flatten)) M) : mtD .join (.str "") [.lst (ls.map fun c => D.str (tx c))] M Q := by
  rw [mt_joinl strsOf_map]
  refine ⟨?_, ?_⟩
  · have e : (ls.map fun c => tx c).map (·.length) = ls.map List.length := by
      rw [List.map_map]
      apply List.map_congr_left
      intro c _
      exact tx_len
    rw [e]
    show _ + _ * 0 ≤ _
    omega
  · have e : Txt.join "" (ls.map fun c => tx c) = tx ls.flatten := by
      have := SX.join_S [] ls
      rw [joinL_flat] at this
      exact this
    rw [e]
    exact q
theorem join_txR {ls : List (List Nat)} {M : Md} {Q : QE} {k : Nat} (hk : M[k]? = some (.lst (ls.map fun c => D.str (tx c)))) (h : (ls.map List.length).sum ≤ 16777216) (q : Q (.str (tx ls.flatten)) M) : mtD .join (.str "") [.ref k] M Q := by
  have e : mtD .join (.str "") [.ref k] M Q = mtD .join (.str "") [.lst (ls.map fun c => D.str (tx c))] M Q := by
    simp only [mtD, seqOf, hk]
  rw [e]
  exact join_tx h q
theorem sl_tx {m : Bool} {l : List Nat} {lo hi : Option Int} {M : Md} {Q : QE} (h : l.length ≤ sizeLine) (q : Q (.str (tx (cutD l lo hi))) M) : slD m (.str (tx l)) lo hi M Q := ⟨by rw [tx_len]; exact h, q⟩
theorem cutD_len {α : Type} {l : List α} {lo hi : Option Int} : (cutD l lo hi).length ≤ l.length := by
  unfold cutD
  simp only [List.length_take, List.length_drop]
  omega
theorem eq_self {d : D} {M : Md} {y : PyData} {QB : Bool → Prop} (hs : eqS d d = none) (hp : pyD (rsD d M) = some y) (sh : SeqAt.shaped y = true) (q : QB true) : cpD .eq d d M QB := by
  show eqQ d d M QB
  unfold eqQ
  rw [hs, hp]
  refine ⟨sh, sh, ?_⟩
  rw [PySem.SeqAt.eqv_refl _ (SeqAt.canLay_of_shaped sh)]
  exact q
end DL

/-! DL: rows and rules for walking at the goal's head -/
namespace DL
open PySem L2
section
variable {Φ : Nat → SpD} {κ : Nat → D} {E : EX} {EE : EXS} {K : EndsD} {σ : Std} {M : Md} {Q : QE}
theorem nxt_of {c : CSs} (h : rSs Φ κ c EE K σ M) : nxt Φ κ c EE K σ M := h
theorem rS_ifsN {c a b} : rS Φ κ (.ifs c a b) EE K σ M = rT Φ κ c (fun x => EE x σ) σ M fun k M1 => if k = true then nxt Φ κ a EE K σ M1 else nxt Φ κ b EE K σ M1 := rfl
theorem rS_forsN {t it body} : rS Φ κ (.fors t it body) EE K σ M = rdi Φ κ it (fun x => EE x σ) σ M fun ds lk M1 => loopD lk ds (asgT t) (nxt Φ κ body EE) K ds σ M1 := rfl
theorem rS_whilN {c body} : rS Φ κ (.whil c body) EE K σ M = ∃ n, whilD (fun σ M Q => rT Φ κ c (fun x => EE x σ) σ M Q) (nxt Φ κ body EE) K n σ M := rfl
theorem iteI {c : Prop} [Decidable c] {A B : Prop} (h1 : c → A) (h2 : ¬ c → B) : if c then A else B := by
  split
  · next h => exact h1 h
  · next h => exact h2 h
end
section
variable {M : Md} {Q : QE} {QB : Bool → Prop} {k : Nat} {ds : List D}
theorem seqR_some {o : Option MO} {ds : List D} (e : seqR o = some ds) : o = some (.lst ds) := by
  unfold seqR at e
  split at e
  · cases e; rfl
  · cases e
theorem ext_RR {d : D} : mtD .extend (.ref k) [d] M Q = seqQ (seqR M[k]?) fun ds => seqQ (lstOf d M) fun es => ds.length + es.length ≤ sizeLine ∧ Q .non (M.set k (.lst (ds ++ es))) := by
  cases e : seqR M[k]? with
  | none =>
    unfold seqR at e
    simp only [mtD, mutOf]
    cases h : M[k]? with
    | none => simp only [seqQ]
    | some m =>
      cases m with
      | lst ds => rw [h] at e; cases e
      | _ => simp only [seqQ]
  | some ds => exact ext_R (seqR_some e)
theorem pop_RR : mtD .pop (.ref k) [] M Q = seqQ (seqR M[k]?) fun ds => optQ ds.getLast? fun d => Q d (M.set k (.lst ds.dropLast)) := by
  cases e : seqR M[k]? with
  | none =>
    unfold seqR at e
    simp only [mtD, mutOf]
    cases h : M[k]? with
    | none => simp only [seqQ]
    | some m =>
      cases m with
      | lst ds => rw [h] at e; cases e
      | _ => simp only [seqQ]
  | some ds => exact pop_R (seqR_some e)
theorem lstOf_lst : lstOf (.lst ds) M = some ds := rfl
theorem seqOf_lst : seqOf (.lst ds) M = some ds := rfl
theorem seqOf_tup : seqOf (.tup ds) M = some ds := rfl
/-- x in a list of flat things -/
theorem in_flat {x y : D} (h1 : seqOf y M = some ds) (hy : ∀ t, y ≠ .str t) (h2 : dGet y x M = none) (hx : flatD x = true) (hf : ds.all flatD = true) : inD x y M QB = QB (ds.any fun d => eqF d x) := by
  unfold inD
  split
  · exact absurd rfl (hy _)
  · rw [h2]
    simp only [h1, hx, hf, Bool.and_self, if_true]
theorem inR_flat {x : D} (h : M[k]? = some (.lst ds)) (hx : flatD x = true) (hf : ds.all flatD = true) : inR (some (.lst ds)) k x M QB = QB (ds.any fun d => eqF d x) :=
  in_flat (by rw [seqOf_R, h]; rfl) (by intro _ z; cases z) (by simp only [dGet, h]) hx hf
end
/-- a text in a tuple of two -/
theorem cp_inn2 {s a b : Str} {M : Md} {QB : Bool → Prop} : cpD .inn (.str s) (.tup [.str a, .str b]) M QB = QB (decide (a = s) || decide (b = s)) := by
  rw [cp_inn_tup rfl rfl]
  simp only [List.any_cons, List.any_nil, Bool.or_false]
  apply congrArg
  show (a == s || b == s) = _
  rw [Bool.eq_iff_iff]
  simp
/-- slots set anew -/
def setM (σ : Std) (J : List Nat) (vs : List (Option D)) : Std := (J.zip vs).foldl (fun σ p => σ.set p.1 p.2) σ
theorem setM_cons {σ i is v vs} : setM σ (i :: is) (v :: vs) = setM (σ.set i v) is vs := rfl
theorem setM_nil {σ vs} : setM σ [] vs = σ := rfl
section
variable {lk : Option Nat} {all : List D} {asg : D → Std → Md → (Std → Md → Prop) → Prop} {body : EndsD → Std → Md → Prop} {K : EndsD} {σ0 : Std} {M : Md}
/-- for x in xs, a settled list; J the slots that are set in the loop -/
theorem for_list {X : Type} {enc : X → D} {xs : List X} (J : List Nat) (Inv : List X → List (Option D) → Md → Prop)
    (h0 : ∃ js, setM σ0 J js = σ0 ∧ Inv xs js M)
    (step : ∀ x r js M' (nx : Std → Md → Prop), Inv (x :: r) js M' → (∀ js' M'', Inv r js' M'' → nx (setM σ0 J js') M'') → asg (enc x) (setM σ0 J js) M' fun σ1 M1 => body ⟨nx, K.rt, K.nx, nx⟩ σ1 M1)
    (fin : ∀ js M', Inv [] js M' → K.nx (setM σ0 J js) M') : loopD none all asg body K (xs.map enc) σ0 M := by
  obtain ⟨js, h1, h2⟩ := h0
  have key : ∀ ys js M, Inv ys js M → loopD none all asg body K (ys.map enc) (setM σ0 J js) M := by
    intro ys
    induction ys with
    | nil => intro js M h; exact ⟨trivial, fin _ _ h⟩
    | cons y ys ih => intro js M h; exact ⟨trivial, step y ys js M _ h fun js' M'' h' => ih js' M'' h'⟩
  have := key xs js M h2
  rwa [h1] at this
/-- the same over a changing list, which stays while it is walked -/
theorem for_ref {X : Type} {enc : X → D} {xs : List X} {k : Nat} (J : List Nat) (Inv : List X → List (Option D) → Md → Prop) (hl : ∀ r js M', Inv r js M' → M'[k]? = some (.lst all))
    (h0 : ∃ js, setM σ0 J js = σ0 ∧ Inv xs js M)
    (step : ∀ x r js M' (nx : Std → Md → Prop), Inv (x :: r) js M' → (∀ js' M'', Inv r js' M'' → nx (setM σ0 J js') M'') → asg (enc x) (setM σ0 J js) M' fun σ1 M1 => body ⟨nx, K.rt, K.nx, nx⟩ σ1 M1)
    (fin : ∀ js M', Inv [] js M' → K.nx (setM σ0 J js) M') : loopD (some k) all asg body K (xs.map enc) σ0 M := by
  obtain ⟨js, h1, h2⟩ := h0
  have key : ∀ ys js M, Inv ys js M → loopD (some k) all asg body K (ys.map enc) (setM σ0 J js) M := by
    intro ys
    induction ys with
    | nil => intro js M h; exact ⟨hl _ _ _ h, fin _ _ h⟩
    | cons y ys ih => intro js M h; exact ⟨hl _ _ _ h, step y ys js M _ h fun js' M'' h' => ih js' M'' h'⟩
  have := key xs js M h2
  rwa [h1] at this
/-- for j in range(a, b) -/
theorem for_rng {a b : Int} (J : List Nat) (Inv : Int → List (Option D) → Md → Prop) (hab : a ≤ b)
    (h0 : ∃ js, setM σ0 J js = σ0 ∧ Inv a js M)
    (step : ∀ j js M' (nx : Std → Md → Prop), a ≤ j → j < b → Inv j js M' → (∀ js' M'', Inv (j + 1) js' M'' → nx (setM σ0 J js') M'') → asg (.int j) (setM σ0 J js) M' fun σ1 M1 => body ⟨nx, K.rt, K.nx, nx⟩ σ1 M1)
    (fin : ∀ js M', Inv b js M' → K.nx (setM σ0 J js) M') : loopD none all asg body K (rngD a b) σ0 M := by
  obtain ⟨js, h1, h2⟩ := h0
  have := loop_from (all := all) (asg := asg) (body := body) (K := K) (a := a) (b := b) (fun j σ M => ∃ js, σ = setM σ0 J js ∧ Inv j js M) (σ := setM σ0 J js) (M := M) hab ⟨js, rfl, h2⟩
    (fun j σ M nx h3 h4 ⟨js, e, h5⟩ hn => by subst e; exact step j js M nx h3 h4 h5 fun js' M'' h6 => hn _ _ ⟨js', rfl, h6⟩) (fun σ M ⟨js, e, h5⟩ => by subst e; exact fin js M h5)
  rwa [h1] at this
/-- while: Inv m holds where m turns at most are left -/
theorem while_at {tst : Std → Md → (Bool → Md → Prop) → Prop} (J : List Nat) (Inv : Nat → List (Option D) → Md → Prop)
    (h0 : ∃ m js, setM σ0 J js = σ0 ∧ Inv m js M)
    (step : ∀ m js M' (nx : Std → Md → Prop), Inv m js M' → (∀ m' js' M'', m = m' + 1 → Inv m' js' M'' → nx (setM σ0 J js') M'') → tst (setM σ0 J js) M' fun k M1 => if k = true then body ⟨nx, K.rt, K.nx, nx⟩ (setM σ0 J js) M1 else K.nx (setM σ0 J js) M1) : ∃ n, whilD tst body K n σ0 M := by
  obtain ⟨m, js, h1, h2⟩ := h0
  have key : ∀ m js M, Inv m js M → whilD tst body K (m + 1) (setM σ0 J js) M := by
    intro m
    induction m with
    | zero =>
      intro js M h
      exact step 0 js M (whilD tst body K 0) h fun m' js' M'' hlt h' => by omega
    | succ m ih =>
      intro js M h
      exact step (m + 1) js M (whilD tst body K (m + 1)) h fun m' js' M'' hlt h' => by
        have e : m' = m := by omega
        subst e
        exact ih js' M'' h'
  have := key m js M h2
  rw [h1] at this
  exact ⟨_, this⟩
/-- for x in c, c a list that stands while it is walked (M0 grows only) -/
theorem for_any {X : Type} {enc : X → D} {xs : List X} {c : D} {M0 : Md} (J : List Nat) (Inv : List X → List (Option D) → Md → Prop) (hc : seqOf c M0 = some (xs.map enc)) (hl : ∀ r js M', Inv r js M' → ∃ L, M' = M0 ++ L)
    (h0 : ∃ js, setM σ0 J js = σ0 ∧ Inv xs js M)
    (step : ∀ x r js M' (nx : Std → Md → Prop), Inv (x :: r) js M' → (∀ js' M'', Inv r js' M'' → nx (setM σ0 J js') M'') → asg (enc x) (setM σ0 J js) M' fun σ1 M1 => body ⟨nx, K.rt, K.nx, nx⟩ σ1 M1)
    (fin : ∀ js M', Inv [] js M' → K.nx (setM σ0 J js) M') : loopD (lkOf c) (xs.map enc) asg body K (xs.map enc) σ0 M := by
  cases c with
  | ref k =>
    have hk : M0[k]? = some (.lst (xs.map enc)) := seqR_some hc
    refine for_ref J Inv (fun r js M' h => ?_) h0 step fin
    obtain ⟨L, e⟩ := hl _ _ _ h
    rw [e, List.getElem?_append_left (List.getElem?_eq_some_iff.mp hk).1]
    exact hk
  | _ => exact for_list J Inv h0 step fin
end
theorem seqOf_app {c : D} {M L : Md} {ds : List D} (h : seqOf c M = some ds) : seqOf c (M ++ L) = some ds := by
  cases c with
  | ref k =>
    have hk : M[k]? = some (.lst ds) := seqR_some h
    rw [seqOf_R, List.getElem?_append_left (List.getElem?_eq_some_iff.mp hk).1, hk]; rfl
  | _ => exact h
theorem lstOf_app {c : D} {M L : Md} {ds : List D} (h : lstOf c M = some ds) : lstOf c (M ++ L) = some ds := by
  cases c with
  | ref k =>
    have hk : M[k]? = some (.lst ds) := seqR_some h
    rw [lstOf_R, List.getElem?_append_left (List.getElem?_eq_some_iff.mp hk).1, hk]; rfl
  | _ => exact h
theorem seq_of_lst {c : D} {M : Md} {ds : List D} (h : lstOf c M = some ds) : seqOf c M = some ds := by
  cases c <;> first | exact h | cases h
theorem walk_seq {c : D} {M : Md} {ds : List D} {QI} (h : seqOf c M = some ds) : walkD c M QI = QI ds (lkOf c) M := by
  unfold walkD
  rw [h]
theorem lk_seq {c : D} {M : Md} {ds : List D} (h : seqOf c M = some ds) : lkOk (lkOf c) ds M := by
  cases c with
  | ref k => exact seqR_some h
  | _ => trivial
/-- a list of its own is handed back -/
theorem Fin.lst {n0 : Nat} {Q : QE} {M L : Md} {k : Nat} {ds : List D} (hn : M.length = n0) (hM : MOk M) (hk : (M ++ L)[k]? = some (.lst ds)) (h : M.length ≤ k) (hd : noRefs ds = true) (q : Q (.lst ds) M) : Fin n0 Q (.ref k) (M ++ L) := by
  refine .settle hk ?_
  rw [List.set_append_right _ _ h]
  exact Fin.tail hn (noRefs_lt hd) hM q
/-- a list of its own is handed back within a tuple -/
theorem Fin.lstT {n0 : Nat} {Q : QE} {M L : Md} {k : Nat} {ds us : List D} (hn : M.length = n0) (hM : MOk M) (hk : (M ++ L)[k]? = some (.lst ds)) (h : M.length ≤ k) (hd : noRefs ds = true) (hu : noRefs us = true) (q : Q (.tup (.lst ds :: us)) M) : Fin n0 Q (.tup (.ref k :: us)) (M ++ L) := by
  refine .settleT (es := []) hk ?_
  rw [List.set_append_right _ _ h]
  refine Fin.tail hn (noRef_lt ?_) hM q
  show noRefs (.lst ds :: us) = true
  simp only [noRefs, noRef, hd, hu, Bool.and_self]
/-- a value is handed back -/
theorem Fin.val {n0 : Nat} {Q : QE} {M L : Md} {d : D} (hn : M.length = n0) (hM : MOk M) (hd : noRef d = true) (q : Q d M) : Fin n0 Q d (M ++ L) := Fin.tail hn (noRef_lt hd) hM q
section
variable {M : Md} {Q : QE} {QM : Md → Prop} {k : Nat} {c c' f g : Str} {d x : D} {r fs : List (Str × D)}
def lookQ (fs : List (Str × D)) (f : Str) (M : Md) (Q : QE) : Prop := match fs.lookup f with
  | some x => Q x M
  | none => False
theorem lookQ_hd : lookQ ((f, d) :: r) f M Q = Q d M := by
  unfold lookQ
  rw [List.lookup_cons, beq_self_eq_true]
theorem lookQ_tl (h : (f == g) = false) : lookQ ((g, d) :: r) f M Q = lookQ r f M Q := by
  unfold lookQ
  rw [List.lookup_cons, h]
def fldR (o : Option MO) (c f : Str) (M : Md) (Q : QE) : Prop := match o with
  | some (.ins c' fs) => c' = c ∧ lookQ fs f M Q
  | _ => False
theorem fldD_R : fldD c f (.ref k) M Q = fldR M[k]? c f M Q := rfl
theorem fldR_ins : fldR (some (.ins c' fs)) c f M Q = (c' = c ∧ lookQ fs f M Q) := rfl
def setFR (o : Option MO) (c f : Str) (k : Nat) (d : D) (M : Md) (Q : Md → Prop) : Prop := match o with
  | some (.ins c' fs) => c' = c ∧ fs.length < 1000 ∧ Q (M.set k (.ins c (putFD f d fs)))
  | _ => False
theorem setFD_R : setFD c f (.ref k) d M QM = setFR M[k]? c f k d M QM := rfl
theorem setFR_ins : setFR (some (.ins c' fs)) c f k d M QM = (c' = c ∧ fs.length < 1000 ∧ QM (M.set k (.ins c (putFD f d fs)))) := rfl
theorem putFD_nil : putFD f d [] = [(f, d)] := rfl
theorem putFD_hd : putFD f d ((f, x) :: r) = (f, d) :: r := by unfold putFD; rw [if_pos rfl]
theorem putFD_tl (h : ¬ g = f) : putFD f d ((g, x) :: r) = (g, x) :: putFD f d r := by rw [putFD, if_neg h]
/-- a settled instance is made -/
theorem mkQ_of {M1 : Md} {fs : List (Str × D)} (h : ∀ p ∈ fs, RLt M1.length p.2) (q : Q (.obj c (fs.map (·.1)) (fs.map (·.2))) M1) : mkQ c M1 Q .non (M1 ++ [.ins c fs]) := ⟨rfl, fs, rfl, h, q⟩
end
end DL

/-! DL: defs within a def, the tables of their code objects -/
namespace DL
open PySem PySem.Spec PyProof.Rows L2 NdefX LamX
/-- calls of a made function are as promised, in a frame -/
abbrev NstAt (X : Cx) (P : Pm) (s : SpD) (js : List Nat) : Prop := ∀ (cvs : List V) (E : XK) (pins : List (Addr × Obj)) (σ : L2.St) (H : Hp) (st : Shared) (us : List Value) (vs : List V) (p : Addr) (Q : VK), PassesAt (L2.CX X.prog X.w) X σ E → Inv X pins σ H st → L2.Vals vs us → js.map (NdefX.slotAt σ) = cvs.map some → liSp P s (.ref p :: (cvs ++ vs)) H Q E → wpAny (model X.prog X.w) X.A (call (.ref p) us) (EP X pins σ Q) X.xe st
/-- the promise of a made function: what it captured, then what it is given; CI: what is told of further cells -/
structure NOkI (Pg : Program) (w : World) (K : PySem.W.Frag) (mg : Str → Option Value) (base : Heap) (P : Pm) (k : Nat) (F : NF) (fr : List Str) (CI : List Env → Heap → Hp → Prop) (sp : SpD) : Prop where
  run : ∀ (f : Addr) (A : Around) (outer : List Env) (s : Shared) (H : Hp) (us : List Value) (vs cvs : List V) (Q : VK) (E : XK), Room k A → Env0 Pg w K mg base A outer s H → H f = some (FnO f F) → H F.c = some (CodeO F.c F.qual) →
    CellsAt F.cl fr (cvs.map some) s.heap H → CI outer s.heap H → L2.Vals vs us → liSp P sp (.ref f :: (cvs ++ vs)) H Q E → codeAny (model Pg w) A (.call (.ref f) ⟨us, []⟩) (CR (L2.CX Pg w) outer Pg w H s Q E) s
/-- the slots at a made function's entry -/
def startN (n np nc : Nat) (ds : List D) : Std := (ds.drop (1 + nc)).map some ++ (((ds.drop 1).take nc).map some ++ List.replicate (n - np - nc) none)
theorem relSt_startN {P : Pm} {w : Wd} {d0 : D} {cs ds : List D} {cvs vs : List V} (N : List Str) (rc : RelDs P w cs cvs) (r : RelDs P w ds vs) : RelSt P w (startN N.length ds.length cs.length (d0 :: (cs ++ ds))) (startF N vs (cvs.map some)) := by
  have h1 := rc.length
  have h2 := r.length
  have e1 : (d0 :: (cs ++ ds)).drop (1 + cs.length) = ds := by rw [Nat.add_comm, List.drop_succ_cons, List.drop_left]
  have e2 : ((d0 :: (cs ++ ds)).drop 1).take cs.length = cs := by rw [List.drop_succ_cons, List.drop_zero, List.take_left]
  unfold startN startF
  rw [e1, e2]
  refine ⟨by simp only [List.length_append, List.length_map, List.length_replicate]; omega, fun i d h => ?_⟩
  by_cases hi : i < ds.length
  · rw [List.getElem?_append_left (by simpa using hi), List.getElem?_map] at h
    rw [List.getElem?_append_left (by rw [List.length_map, h2]; exact hi), List.getElem?_map]
    cases e : ds[i]? with
    | none => rw [e] at h; cases h
    | some d' =>
      rw [e] at h
      cases h
      obtain ⟨v, hv, rv⟩ := r.get e
      exact ⟨v, by rw [hv]; rfl, rv⟩
  · rw [List.getElem?_append_right (by simpa using hi), List.length_map] at h
    rw [List.getElem?_append_right (by rw [List.length_map, h2]; omega), show (vs.map some).length = ds.length by rw [List.length_map, h2]]
    by_cases hj : i - ds.length < cs.length
    · rw [List.getElem?_append_left (by simpa using hj), List.getElem?_map] at h
      rw [List.getElem?_append_left (by rw [List.length_map, h1]; exact hj), List.getElem?_map]
      cases e : cs[i - ds.length]? with
      | none => rw [e] at h; cases h
      | some d' =>
        rw [e] at h
        cases h
        obtain ⟨v, hv, rv⟩ := rc.get e
        exact ⟨v, by rw [hv]; rfl, rv⟩
    · rw [List.getElem?_append_right (by simpa using hj), List.getElem?_replicate] at h
      split at h <;> cases h
section
variable {Pg : Program} {w : World} {K : PySem.W.Frag} {mg : Str → Option Value} {base : Heap} {P : Pm} {Φ : Nat → SpD} {κ : Nat → D} {k : Nat}
/-- THE RULE of a made function: its code fits its text, the code's reading gives what is promised -/
theorem nokI {G : List (Str × GD)} {B : List Str} {NS : List (Nat × List Nat)} {F : NF} {N ps fr : List Str} {code : CSs} {CI : List Env → Heap → Hp → Prop} {sp : SpD}
    (hK : P.K = K) (hpg : P.pg = Pg) (hwl : P.wl = w) (T : Tab Pg w K mg base P G B Φ κ k) (S : NScope N ps fr F.scope) (hb : ∀ (doc pm ctv : Value) (us : List Value), us.length = ps.length → bindArgs (F.fd doc pm ctv) ⟨us, []⟩ = pure (ps.zip us))
    (hc : chkSs ⟨N, F.scope, fun _ => false, G, B, [], [], [], [], [], [], NS⟩ code F.body = true)
    (hN : ∀ (f : Addr) (A : Around) (outer : List Env) (s : Shared) (H : Hp) (cvs : List V) (E : XK), Room k (A.deeper (envF F f s.heap.objs.size)) → H f = some (FnO f F) → H F.c = some (CodeO F.c F.qual) → CellsAt F.cl fr (cvs.map some) s.heap H → CI outer s.heap H → ∀ q ∈ NS, NstAt (ncx (L2.CX Pg w) Pg w K mg base N F f A outer s H E) P (Φ q.1) q.2)
    (len : ∀ ds M Q E, sp ds M Q E → ds.length = 1 + fr.length + ps.length)
    (body : ∀ ds M Q E, MOk M → RLts M.length ds → sp ds M Q E → rSs Φ κ code (fun x _ M => E x M) (endsD M.length Q) (startN N.length ps.length fr.length ds) M) :
    NOkI Pg w K mg base P (k + 1) F fr CI sp := by
  refine ⟨fun f A outer s H us vs cvs Q E hr e0 hf hcd C ci rv hsp => ?_⟩
  obtain ⟨wd, M, dds, Qd, Ed, R, r, l, lx, q⟩ := hsp
  have hlen := len _ _ _ _ q
  have hcl : cvs.length = fr.length := by have := C.len; rwa [List.length_map] at this
  obtain ⟨d0, cs, ds, rfl, rc, rs⟩ : ∃ d0 cs ds, dds = d0 :: (cs ++ ds) ∧ RelDs P wd cs cvs ∧ RelDs P wd ds vs := by
    cases dds with
    | nil => obtain ⟨⟩ := r
    | cons d0 rest =>
      obtain ⟨v, us', e, _, r2⟩ := r
      cases e
      refine ⟨d0, rest.take cvs.length, rest.drop cvs.length, by rw [List.take_append_drop], ?_, ?_⟩
      · have := r2.take cvs.length
        rwa [List.take_left] at this
      · have := r2.drop cvs.length
        rwa [List.drop_left] at this
  have hvl : vs.length = ps.length := by
    have h1 := rc.length; have h2 := rs.length
    rw [List.length_cons, List.length_append] at hlen
    omega
  obtain ⟨od, sl, doc, pm, ctv, ho⟩ := fnO_at e0.hok hf
  refine codeAny_call_function hr.depth ho rfl S.co S.gen rfl (codeO_at e0.hok hcd) ?_
  rw [hb doc pm ctv us (by rw [← rv.length]; exact hvl)]
  refine wpAny_pure (wpAny_newFunctionEnv S.nocell (fun ⟨n, _⟩ hy => S.par n (List.of_mem_zip hy).1) (fun h1 hns hsb => ⟨Heap.NoLimit.fresh (e0.mod.nolimit.keeps fun b o e => (e0.bs b o e).1) _ hsb, ?_⟩) S.kind)
  show codeAny _ _ (.func F.body (envF F f s.heap.objs.size)) _ _
  refine codeAny_func ?_
  have O : EnvOk (ncx (L2.CX Pg w) Pg w K mg base N F f A outer s H E) P ⟨N, F.scope, fun _ => false, G, B, [], [], [], [], [], [], NS⟩ Φ κ := by
    refine ⟨hK, hpg, hwl, rfl, rfl, S.nd, rfl, (fun _ h => by cases h), ?_, fun x f hx => ?_, T.cst, T.blt, (fun _ h => by cases h), (fun _ h => by cases h), (fun _ h => by cases h), (fun _ h => by cases h), (fun _ h => by cases h), (fun _ h => by cases h), hN f A outer s H cvs E (hr.deeper _) hf hcd C ci⟩
    · have := (hr.deeper (envF F f s.heap.objs.size)).un
      show (A.deeper (envF F f s.heap.objs.size)).units + 65 < cLine
      omega
    · obtain ⟨j, a, fd, ps, hj, h1, h2, h3, h4⟩ := T.fun_ x f hx
      exact ⟨j, a, fd, ps, h1, h2, h3, (hr.deeper _).mono hj, h4⟩
  have ht := sSs code (W := fun cls d _ H => E cls d H) O S.kind (takes_of rfl rfl rfl rfl) (passes_of rfl) hc
  have ok := R.ok
  have rl := r.rlt
  rw [← R.len] at rl
  have hq : liS P (fun cls d _ H => E cls d H) (rSs Φ κ code) { nx := fun _ H' => Q .non H', rt := Q } (startF N vs (cvs.map some)) H := by
    have rst := relSt_startN (d0 := d0) N rc rs
    rw [show ds.length = ps.length by rw [← rs.length]; exact hvl, show cs.length = fr.length by rw [← rc.length]; exact hcl] at rst
    refine ⟨wd, M, _, endsD M.length Qd, fun x _ M => Ed x M, R, rst, ⟨?_, ?_, ?_, ?_⟩, fun w' M' H' sd σ x cls dd s' R' rs' rx q => lx w' M' H' x cls dd s' R' rx q, body _ M Qd Ed ok rl q⟩
    · intro w' M' H' sd σ s' R' rs' q
      obtain ⟨d', M2, w2, s2, R2, r2, q2⟩ := Fin.run (d := .non) (v := .non) q (Nat.le_of_eq R.len.symm) s' R' rfl
      exact l w2 M2 H' d' .non s2 R2 r2 q2
    · intro w' M' H' d v s' R' r' q
      obtain ⟨d', M2, w2, s2, R2, r2, q2⟩ := Fin.run q (Nat.le_of_eq R.len.symm) s' R' r'
      exact l w2 M2 H' d' v s2 R2 r2 q2
    · intro w' M' H' sd σ s' R' rs' q
      exact q.elim
    · intro w' M' H' sd σ s' R' rs' q
      exact q.elim
  have I := inv_startN (CX := L2.CX Pg w) (E := E) (f := f) (outer := outer) (tk := s.toks + (ps.zip us).length) S hr.hd e0 hvl rv C hns fun b o e => hsb.extBut b o (Nat.ne_of_lt (Heap.lt_size e)) (Heap.get?_push_of_some _ e)
  refine wpAny_mono (ht.run [] _ _ H _ I hq) (fun fl s' hs => ?_) fun e s' hs => hs
  have done : ∀ {σ' : L2.St} {H' : Hp} {v : V} {u : Value}, Inv (ncx (L2.CX Pg w) Pg w K mg base N F f A outer s H E) [] σ' H' s' → L2.RelV v u → Q v H' → L2.CE outer Pg w H s Q u s' := fun {_ H' v _} J rv q => ⟨v, H', J.os, J.bare, J.base, J.hok, rv, q⟩
  cases fl with
  | next => obtain ⟨_, _, J, q⟩ := hs; exact done (v := V.non) (u := Value.none) J rfl q
  | ret u => obtain ⟨v, _, _, J, rv, q⟩ := hs; exact done J rv q
  | cont => obtain ⟨_, _, _, q⟩ := hs; exact q.elim
  | brk => obtain ⟨_, _, _, q⟩ := hs; exact q.elim
theorem run_nI {X : Cx} {k j : Nat} {F : NF} {fr : List Str} {CI : List Env → Heap → Hp → Prop} {sp : SpD} (Fn : NOkI X.prog X.w X.K X.mg X.base P k F fr CI sp) (hk : k ≤ j) (hr : Room j X.A) {pins : List (Addr × Obj)} {σ : L2.St} {H : Hp} {st : Shared} {us : List Value} {vs cvs : List V} {p : Addr} {Q : VK} {E : XK}
    (hx : PassesAt (L2.CX X.prog X.w) X σ E) (I : Inv X pins σ H st) (rv : L2.Vals vs us) (hf : H p = some (FnO p F)) (hc : H F.c = some (CodeO F.c F.qual)) (C : CellsAt F.cl fr (cvs.map some) st.heap H) (ci : CI X.stack st.heap H) (q : liSp P sp (.ref p :: (cvs ++ vs)) H Q E) :
    wpAny (model X.prog X.w) X.A (call (.ref p) us) (EP X pins σ Q) X.xe st :=
  wpAny_call (codeAny_mono (Fn.run p X.A X.stack st H us vs cvs Q E (hr.mono hk) I.env0 hf hc C ci rv q) fun r s' hq => match r, hq with
    | .ok (.ret _), hq => I.after hq
    | .ok .next, hq => hq.elim
    | .ok .brk, hq => hq.elim
    | .ok .cont, hq => hq.elim
    | .error e, hq => hx pins H st e s' I hq)
/-- calls where the captured names are seen -/
theorem nst_own {X : Cx} {k j : Nat} {fr : List Str} {CI : List Env → Heap → Hp → Prop} {sp sp' : SpD} {js : List Nat} {isF : NF → Prop} (Fn : ∀ F, isF F → NOkI X.prog X.w X.K X.mg X.base P k F fr CI sp) (hk : k ≤ j) (hr : Room j X.A)
    (hcells : ∀ F, isF F → ∀ (cvs : List V) (pins : List (Addr × Obj)) (σ : L2.St) (H : Hp) (st : Shared), Inv X pins σ H st → js.map (NdefX.slotAt σ) = cvs.map some → CellsAt F.cl fr (cvs.map some) st.heap H ∧ CI X.stack st.heap H)
    (hq : ∀ (ds : List D) (M : Md) (Q : QE) (E : EX), sp' ds M Q E → ∃ (n m : Nat) (F : NF) (cs rest : List D) (cvs : List V), ds = .ref n :: rest ∧ M[n]? = some (.fn F m cs cvs) ∧ isF F ∧ sp ds M Q E) : NstAt X P sp' js := by
  intro cvs E pins σ H st us vs p Q hx I rv hjs hsp
  obtain ⟨wd, M, dds, Qd, Ed, R, r, l, lx, q⟩ := hsp
  obtain ⟨n, m, F, cs, rest, cv0, rfl, hm, hF, q⟩ := hq _ _ _ _ q
  obtain ⟨v, us', e, ⟨p', ep, hp⟩, r2⟩ := id r
  cases e; cases ep
  obtain ⟨_, c1, _, c2, _⟩ := R.cell n _ p hm hp
  obtain ⟨C, ci⟩ := hcells F hF cvs pins σ H st I hjs
  exact run_nI (Fn F hF) hk hr hx I rv c1 c2 C ci ⟨wd, M, _, Qd, Ed, R, r, l, lx, q⟩
/-- calls of a function whose captured names are not seen: what they hold stands in memory -/
theorem nst_far {X : Cx} {k j : Nat} {F : NF} {fr : List Str} {gv : List V} {sp sp' : SpD} (Fn : NOkI X.prog X.w X.K X.mg X.base P k F fr (fun _ _ _ => True) sp) (hk : k ≤ j) (hr : Room j X.A)
    (hcells : ∀ (pins : List (Addr × Obj)) (σ : L2.St) (H : Hp) (st : Shared), Inv X pins σ H st → CellsAt F.cl fr (gv.map some) st.heap H)
    (hq : ∀ (ds : List D) (M : Md) (Q : QE) (E : EX), sp' ds M Q E → ∃ (n m : Nat) (cs rest : List D), ds = .ref n :: rest ∧ M[n]? = some (.fn F m cs gv) ∧ sp (.ref n :: (cs ++ rest)) M Q E) : NstAt X P sp' [] := by
  intro cvs E pins σ H st us vs p Q hx I rv hjs hsp
  have e0 : cvs = [] := by
    cases cvs with
    | nil => rfl
    | cons _ _ => cases hjs
  subst e0
  obtain ⟨wd, M, dds, Qd, Ed, R, r, l, lx, q⟩ := hsp
  obtain ⟨n, m, cs, rest, rfl, hm, q⟩ := hq _ _ _ _ q
  obtain ⟨v, us', e, ⟨p', ep, hp⟩, r2⟩ := id r
  cases e; cases ep
  obtain ⟨_, c1, _, c2, c3⟩ := R.cell n _ p hm hp
  exact run_nI Fn hk hr hx I rv c1 c2 (hcells pins σ H st I) trivial ⟨wd, M, .ref n :: (cs ++ rest), Qd, Ed, R, RelDs.cons ⟨p, rfl, hp⟩ (c3.append r2), l, lx, q⟩
/-- .. of a function that goes with another one, whose cells are seen here: what they hold is noted in memory -/
theorem nst_two {X : Cx} {k j : Nat} {fr frI : List Str} {sp : NF → List V → SpD} {sp' : SpD} {js : List Nat} {nc : Nat} {isF isI : NF → Prop} (Fn : ∀ F FI gv, isF F → isI FI → gv.length = frI.length → NOkI X.prog X.w X.K X.mg X.base P k F fr (fun o h H => CellsAt FI.cl frI (gv.map some) h H ∧ ∀ y c, FI.cl.lookup y = some c → c ∉ frs o) (sp FI gv)) (hk : k ≤ j) (hr : Room j X.A)
    (hnc : fr.length = nc)
    (hcells : ∀ F FI, isF F → isI FI → ∀ (cvs gv : List V) (pins : List (Addr × Obj)) (σ : L2.St) (H : Hp) (st : Shared), Inv X pins σ H st → cvs.length = nc → js.map (NdefX.slotAt σ) = (cvs ++ gv).map some → CellsAt F.cl fr (cvs.map some) st.heap H ∧ CellsAt FI.cl frI (gv.map some) st.heap H ∧ ∀ y c, FI.cl.lookup y = some c → c ∉ frs X.stack)
    (hjl : js.length = nc + frI.length)
    (hq : ∀ (ds : List D) (M : Md) (Q : QE) (E : EX), sp' ds M Q E → ∃ (n m ni mi : Nat) (F FI : NF) (cs0 csI cs gs rest : List D) (cv0 cvI : List V), ds = .ref n :: (cs ++ gs ++ rest) ∧ cs.length = nc ∧ gs.length = frI.length ∧ M[n]? = some (.fn F m cs0 cv0) ∧ M[ni]? = some (.fn FI mi csI cvI) ∧ isF F ∧ isI FI ∧ ni ≠ n ∧
      ∀ gv : List V, sp FI gv (.ref n :: (cs ++ rest)) (M.set ni (.fn FI mi gs gv)) Q E) : NstAt X P sp' js := by
  intro cvs E pins σ H st us vs p Q hx I rv hjs hsp
  obtain ⟨wd, M, dds, Qd, Ed, R, r, l, lx, q⟩ := hsp
  obtain ⟨n, m, ni, mi, F, FI, cs0, csI, cs, gs, rest, cv0, cvI, rfl, hcl, hgl, hm, hmi, hF, hI, hne, q⟩ := hq _ _ _ _ q
  obtain ⟨v, us', e, ⟨p', ep, hp⟩, r2⟩ := id r
  cases e; cases ep
  have hcv : cvs.length = nc + frI.length := by
    have := congrArg List.length hjs
    rw [List.length_map, List.length_map] at this
    omega
  obtain ⟨cv, gv, rfl, hcv1⟩ : ∃ cv gv, cvs = cv ++ gv ∧ cv.length = nc := ⟨cvs.take nc, cvs.drop nc, (List.take_append_drop _ _).symm, by rw [List.length_take]; omega⟩
  have hgv : gv.length = frI.length := by rw [List.length_append] at hcv; omega
  obtain ⟨a, b, e1, ra, rb⟩ := r2.split
  obtain ⟨a1, a2, e2, ra1, ra2⟩ := ra.split
  subst e2
  have l1 := ra1.length; have l2 := ra2.length
  obtain ⟨e3, e4⟩ := List.append_inj e1 (by rw [List.length_append, List.length_append]; omega)
  obtain ⟨e5, e6⟩ := List.append_inj e3 (by omega)
  subst e4 e5 e6
  obtain ⟨c0, c1, c1b, c2, c2b⟩ := R.cell n _ p hm hp
  obtain ⟨pi, hpi⟩ := R.at hmi
  obtain ⟨d0, d1, d2, d3, d4⟩ := R.cell ni _ pi hmi hpi
  obtain ⟨C, ci⟩ := hcells F FI hF hI cv gv pins σ H st I hcv1 hjs
  have R' : RepM P wd (M.set ni (.fn FI mi gs gv)) H := by
    refine ⟨R.sub, by rw [List.length_set]; exact R.len, R.nd, R.inH, fun k' m' q' h1 h2 => ?_, R.tab⟩
    by_cases hk' : k' = ni
    · subst hk'
      rw [List.getElem?_set_self (List.getElem?_eq_some_iff.mp hmi).1] at h1
      cases h1
      rw [hpi] at h2; cases h2
      exact ⟨d0, d1, d2, d3, ra2⟩
    · rw [List.getElem?_set_ne (Ne.symm hk')] at h1
      exact R.cell k' m' q' h1 h2
  exact run_nI (Fn F FI gv hF hI hgv) hk hr hx I rv c1 c2 C ci ⟨wd, _, .ref n :: (cs ++ rest), Qd, Ed, R', RelDs.cons ⟨p, rfl, hp⟩ (ra1.append rb), l, lx, q gv⟩
/-- cells told at a frame's entry lie so still -/
theorem cells_later {F FI : NF} {N frI : List Str} {f : Addr} {A : Around} {outer : List Env} {s : Shared} {H0 : Hp} {E : XK} {ws : List (Option V)} (C : CellsAt FI.cl frI ws s.heap H0) (ho : ∀ y c, FI.cl.lookup y = some c → c ∉ frs outer) {pins : List (Addr × Obj)} {σ : L2.St} {H : Hp} {st : Shared} (I : Inv (ncx (L2.CX Pg w) Pg w K mg base N F f A outer s H0 E) pins σ H st) :
    CellsAt FI.cl frI ws st.heap H ∧ ∀ y c, FI.cl.lookup y = some c → c ∉ frs (envF F f s.heap.objs.size :: outer) := by
  refine ⟨CellsAt.later (X := ncx (L2.CX Pg w) Pg w K mg base N F f A outer s H0 E) C (fun y c e => ho y c e) (fun y c _ hb => absurd (show c ∈ ([] : List Addr) from hb) (by simp)) I, fun y c e hb => ?_⟩
  have hb : c ∈ frs ((ncx (L2.CX Pg w) Pg w K mg base N F f A outer s H0 E).stack) := hb
  rcases List.mem_cons.mp (I.stkSub c hb) with z | z
  · obtain ⟨_, v, o, ho, _⟩ := C.all y c e
    have z : c = s.heap.objs.size := z
    have := Heap.lt_size ho
    rw [z] at this
    exact Nat.lt_irrefl _ this
  · exact ho y c e z
/-- the cells that a frame's own functions captured are none of the callers' frames -/
theorem cells_out {X : Cx} {cl : List (Str × Addr)} (hs : ∀ y c, cl.lookup y = some c → X.env.cells.lookup y = some c) (hfn : ∀ y, X.fn y = true) {pins : List (Addr × Obj)} {σ : L2.St} {H : Hp} {st : Shared} (I : Inv X pins σ H st) : ∀ y c, cl.lookup y = some c → c ∉ frs X.stack := by
  intro y c e hb
  rcases List.mem_cons.mp (I.stkSub c hb) with z | z
  · exact I.cne y c (hs y c e) z
  · obtain ⟨_, o, ho, _⟩ := I.ok.funs.mem z
    have h1 := I.ok.cab y c (hfn y) (hs y c e)
    exact Nat.lt_irrefl _ (Nat.lt_of_lt_of_le (Heap.lt_size ho) h1)
/-- THE RULE of a def by any reading of its body, its code object known -/
theorem okRS {x qual : Str} {params : Arguments} {bodyS : List Stmt} {scope : Scope} {f : Addr} {fd : FuncData} {dvs : List V} {kws : List (Str × V)} {N ps : List Str} {sp : SpD} {p : He.Defn} (hK : P.K = K) (hp : f = He.fAd K p) (F : FunD K x qual params bodyS scope dvs kws f fd) (S : FnScope N ps scope)
    (len : ∀ ds M Q E, sp ds M Q E → ds.length = ps.length)
    (body : ∀ (A : Around) (outer : List Env) (s : Shared) (H : Hp) (E : XK), Room k (A.deeper (envOfC qual scope s.heap.objs.size f (.ref (He.codeOf K p)))) → ∃ R : RS, PSs (cxOf (L2.CX Pg w) Pg w K mg base N qual scope f (.ref (He.codeOf K p)) A outer s H E) bodyS (liS P (fun cls d _ H => E cls d H) R) ∧ ∀ ds M Q Ed, MOk M → RLts M.length ds → sp ds M Q Ed → R (fun x _ M => Ed x M) (endsD M.length Q) (startD N.length ds) M) :
    OkD Pg w K mg base P (k + 1) f fd ps sp := by
  obtain ⟨oc, od, dV, kV, doc, pm, an, cdv, ct, osl, rfl, lk, hcd, _, _⟩ := F.ex
  obtain ⟨c, rfl⟩ := He.codeIn_ref hcd
  have ec : He.codeOf K p = c := by
    rw [hp] at lk
    exact He.codeOf_eq lk rfl
  rw [ec] at body
  refine fn_of lk hcd S (fun vs H Q E h => ?_) fun A outer s H vs Q E hr h => ?_
  · obtain ⟨w, M, ds, Qd, Ed, R, r, l, lx, q⟩ := h
    rw [r.length]; exact len _ _ _ _ q
  · obtain ⟨wd, M, ds, Qd, Ed, R, r, l, lx, q⟩ := h
    obtain ⟨Rr, hP, hR⟩ := body A outer s H E hr
    refine ⟨_, hP, ?_⟩
    have ok := R.ok
    have rl := r.rlt
    rw [← R.len] at rl
    refine ⟨wd, M, _, endsD M.length Qd, fun x _ M => Ed x M, R, relSt_start N r, ⟨?_, ?_, ?_, ?_⟩, fun w' M' H' sd σ x cls dd s' R' rs' rx q => lx w' M' H' x cls dd s' R' rx q, hR ds M Qd Ed ok rl q⟩
    · intro w' M' H' sd σ s' R' rs' q
      obtain ⟨d', M2, w2, s2, R2, r2, q2⟩ := Fin.run (d := .non) (v := .non) q (Nat.le_of_eq R.len.symm) s' R' rfl
      exact l w2 M2 H' d' .non s2 R2 r2 q2
    · intro w' M' H' d v s' R' r' q
      obtain ⟨d', M2, w2, s2, R2, r2, q2⟩ := Fin.run q (Nat.le_of_eq R.len.symm) s' R' r'
      exact l w2 M2 H' d' v s2 R2 r2 q2
    · intro w' M' H' sd σ s' R' rs' q
      exact q.elim
    · intro w' M' H' sd σ s' R' rs' q
      exact q.elim
end
theorem pssL_cons {X : Cx} {P : Pm} {W : WX} {s : Stmt} {ss : List Stmt} {r r2 : RS} (h : PS X s (liS P W r)) (h2 : PSs X ss (liS P W r2)) : PSs X (s :: ss) (liS P W fun E K σ M => r E { K with nx := r2 E K } σ M) := by
  refine pssI (pss_cons h h2) fun K σ H q => ?_
  obtain ⟨w, M, sd, Kd, Ed, R, rs, l, lx, q⟩ := q
  exact ⟨w, M, sd, { Kd with nx := r2 Ed Kd }, Ed, R, rs, ⟨fun w1 M1 H1 sd1 σ1 s1 R1 rs1 q => ⟨w1, M1, sd1, Kd, Ed, R1, rs1, l.on s1, lx.on s1, q⟩, l.rt, l.bk, l.ct⟩, lx, q⟩
/-! ### a def statement in a def -/
def ndR (i : Nat) (mk : Addr → NF) (n : Nat) : RS := fun _ K σ M => ∀ c' : Addr, K.nx (σ.set i (some (.ref M.length))) (M ++ [.fn (mk c') n [] []])
theorem ndef_lift {X : Cx} {P : Pm} {W : WX} {st : Stmt} {i n : Nat} {mk : Addr → NF} (hmk : ∀ c, (mk c).c = c) (h : PS X st (tNdefM P.T i mk)) : PS X st (liS P W (ndR i mk n)) := by
  refine psI h fun D σ H q => ?_
  obtain ⟨w, M, sd, Kd, Ed, R, rs, l, lx, q⟩ := q
  refine ⟨fun t ht => ?_, fun f c' H1 eN nn T1 hf h1 h2 => ?_⟩
  · obtain ⟨_, ps, h1, h2, h3⟩ := R.tab.t t ht
    exact ⟨ps, h1, h2, fun pos cv hc => let ⟨c, e1, _, e2⟩ := h3 pos cv hc; ⟨c, e1, e2⟩⟩
  have hF := R.Fnone hf
  have hr := R.notin hf
  have hext : ∀ a o, w.F a = some o → H1 a = some o := fun a o e => eN a o (R.sub _ _ e) fun ps z => R.tab.nt a ps (by rw [e, z])
  have same : ∀ b ∈ w.r, H1 b = H b := fun b hb => by
    cases e : H b with
    | none => exact absurd e (R.inH b hb)
    | some o => exact eN b o e (R.tab.nc b hb o e).t
  have cne : ∀ {b q}, H1 b = some (CodeO b q) → b ∉ w.r := fun {b q} e hb => by
    rw [same b hb] at e
    exact (R.tab.nc b hb _ e).c q rfl
  have cnf : ∀ {b q}, H1 b = some (CodeO b q) → b ≠ f := fun {b q} e z => by
    subst z
    rw [h1] at e
    exact (NoC.fn (b := b)).c q (Option.some.inj e)
  have mem : ∀ {b}, b ∉ w.r → b ≠ f → b ∉ w.r ++ [f] := fun {b} n1 n2 z => by
    rcases List.mem_append.mp z with z | z
    · exact n1 z
    · simp at z; exact n2 z
  have le : Le w { w with r := w.r ++ [f] } := ⟨fun _ _ e => e, fun k q e => by
    show (w.r ++ [f])[k]? = some q
    rw [List.getElem?_append_left (List.getElem?_eq_some_iff.mp e).1]; exact e⟩
  have hC : KpC w H { w with r := w.r ++ [f] } H1 := fun b q n1 e => by
    have e1 := eN b _ e fun ps z => codeO_tbl ps z
    exact ⟨mem n1 (cnf e1), e1⟩
  have R1 : RepM P { w with r := w.r ++ [f] } (M ++ [.fn (mk c') n [] []]) H1 := by
    refine ⟨hext, by simp [R.len], List.nodup_append.mpr ⟨R.nd, by simp, fun a ha b hb => by simp at hb; subst hb; exact fun z => hr (z ▸ ha)⟩, fun q hq => ?_, fun k m q hm hq => ?_, ⟨fun t ht => ?_, R.tab.nt, fun b hb o e => ?_⟩⟩
    · rcases List.mem_append.mp hq with z | z
      · rw [same q z]; exact R.inH q z
      · simp at z; rw [z, h1]; simp
    · by_cases hk : k < M.length
      · rw [List.getElem?_append_left hk] at hm
        have hq2 : w.r[k]? = some q := by
          have : (w.r ++ [f])[k]? = some q := hq
          rwa [List.getElem?_append_left (by rw [← R.len]; exact hk)] at this
        exact (R.cell k m q hm hq2).mono le (fun z => z) (same q (List.mem_of_getElem? hq2)) hC
      · have hk2 : k = M.length := by
          have := (List.getElem?_eq_some_iff.mp hm).1
          simp at this; omega
        subst hk2
        have e1 : m = .fn (mk c') n [] [] := by simpa using hm.symm
        have e2 : q = f := by
          have : (w.r ++ [f])[M.length]? = some q := hq
          rw [R.len] at this
          simpa using this.symm
        subst e1; subst e2
        refine ⟨hF, h1, ?_, ?_, rfl⟩
        · rw [hmk]; exact mem (cne h2) (cnf h2)
        · rw [hmk]; exact h2
    · obtain ⟨⟨n1, n2⟩, ps0, g1, _⟩ := R.tab.t t ht
      obtain ⟨ps, a1, a2, a3⟩ := T1 t ht
      refine ⟨⟨mem n1 (fun z => by rw [z, hf] at g1; cases g1), n2⟩, ps, a1, a2, fun pos cv hc => ?_⟩
      obtain ⟨c, e1, e2⟩ := a3 pos cv hc
      exact ⟨c, e1, mem (cne e2) (cnf e2), e2⟩
    · rcases List.mem_append.mp hb with z | z
      · rw [same b z] at e; exact R.tab.nc b z o e
      · simp at z; subst z; rw [h1] at e; cases e; exact .fn
  have hs : Step w H { w with r := w.r ++ [f] } H1 := ⟨le, fun a o e ht _ => eN a o e ht, fun a e n1 n2 => ⟨n1, mem n2 fun z => e (by rw [z]; exact hf)⟩, fun a e z => e (nn a z)⟩
  exact l.nx _ _ H1 _ _ hs R1 (relSt_set (d := .ref M.length) (v := .ref f) (rs.mono le) i ⟨f, rfl, by show (w.r ++ [f])[M.length]? = some f; rw [R.len]; simp⟩) (q c')
end DL

namespace DL
open PySem L2
local macro_rules | `(tactic| walk_at "rd") => `(tactic| simp only [nxt_nil, rSs_nil, rSs_cons, rSs_one, rS_set, rS_setT, rS_setIx, rS_expr, rS_ret, rS_retN, rS_pass, rS_brk, rS_cont, rS_ifs, rS_fors, rS_whil,
  rE_var, rE_int, rE_str, rE_bl, rE_non, rE_glob, rE_bin, rE_neg, negD_int, rE_not, rE_and, rE_or, rE_cmp, rE_chain, rE_ife, rE_tup, rE_lst, rE_lstM, rE_idx, rE_slc, rE_call, rE_blt, rE_mth, rE_calln, fnQ_ref, capsD_nil, capsD_cons, capQ_some, rE_comp, rE_compM, rE_dnew, rE_dnewT, rE_dlit, rE_dget, rE_listRg, rE_listRgM, lrQM_int, rS_setP, rS_setTF, tupQ_tup, setTFd_nil, setTFd_cons, rS_aug, rS_augF, isRef_ref, addI_int, rE_callK, rE_makeK, rE_makeKS, rE_methK, Sc_non, Sc_bl, Sc_int, Sc_str, lrQ_int, rE_fld, rE_make, rE_makeS, rE_meth, objD_obj, rT_meth, rS_setFld,
  rds_nil, rds_cons, rdo_none, rdo_some, intO_int, rdt_none, rdt_some, rdi_seq, rdi_chars, chrQ_str, walkD_tup, walkD_lst, rdi_rng1, rngQ_int, rdi_rng2, rngQ2_int,
  rT_not, rT_and, rT_or, rT_cmp, rT_chain, rT_var, rT_glob, rT_bl, rT_bin, rT_idx, rT_fld, rT_slc, rT_call, rT_blt, rT_mth, rT_comp,
  opD_add, opD_adds, opD_addt, opD_addl, opD_catl, opD_sub, opD_mul, opD_muls, opD_fdiv, opD_mod, opD_pow, opD_band,
  cp_lt, cp_le, cp_gt, cp_ge, cp_eq, cp_eqs, cp_eqb, cp_eqn, cp_eqni, cp_eqin, cp_ne, cp_nes, cp_neb, cp_nen, cp_neni, cp_nein, cp_isN, cp_notN, cp_isB, cp_notB, isNon_non, isNon_int, isNon_bl, isNon_str, isNon_tup, isNon_lst, isNon_ref,
  tru_non, tru_bl, tru_int, tru_str, tru_tup, tru_lst, ix_tup', ix_lst', ix_scr, atQ_0, atQ_1, atQ_2, atQ_3, atQ_4, atQ_m1,
  bt_len_str, bt_len_tup, bt_len_lst, bt_len_scr, bt_list_tup, bt_list_lst, bt_listM_tup, bt_listM_lst, bt_tuple_tup, bt_tuple_lst, bt_max2, bt_min2, bt_int_int, bt_int_bl, bt_sorted_lst, bt_ord', bt_str',
  isi_non, isi_bl, isi_int, isi_str, isi_tup, isi_lst, isiQ_eq kit_bb, isiQ_eq kit_bi, isiQ_eq kit_bs, isiQ_eq kit_bt, isiQ_eq kit_bl, isiQ_eq kit_ib, isiQ_eq kit_ii, isiQ_eq kit_is, isiQ_eq kit_it, isiQ_eq kit_il, isiQ_eq kit_sb, isiQ_eq kit_si, isiQ_eq kit_ss, isiQ_eq kit_st, isiQ_eq kit_sl,
  isiQ_eq kit_tb, isiQ_eq kit_ti, isiQ_eq kit_ts, isiQ_eq kit_tt, isiQ_eq kit_tl, isiQ_eq kit_lb, isiQ_eq kit_li, isiQ_eq kit_ls, isiQ_eq kit_lt, isiQ_eq kit_ll, isiQ_eq kit_nb, isiQ_eq kit_ni, isiQ_eq kit_ns, isiQ_eq kit_nt, isiQ_eq kit_nl,
  sl_tup', sl_lst', sl_str', asg_nm, asg_tp, setAll_cons, setAll_nil, startD, endsD_nx, endsD_rt,
  List.map_cons, List.map_nil, List.length_cons, List.length_nil, List.replicate_succ, List.replicate_zero, List.cons_append, List.nil_append, List.set_cons_zero, List.set_cons_succ, List.getElem?_cons_zero, List.getElem?_cons_succ,
  Nat.reduceAdd, Nat.reduceSub, Nat.zero_add, Int.reduceNeg, Int.reduceToNat, Int.reducePow, if_true, if_false, Bool.false_eq_true, Bool.true_eq_false, Bool.not_true, Bool.not_false, Bool.not_eq_eq_eq_not, ix_R, ixR_lst, ixR_dct, tru_R, truR_lst, walk_R, walk_scr, seqQ_some, optQ_some, intsQ_some, blsQ_some, strQ_some, seqR_lst, len_R, list_R, listM_R, tuple_R, list_scr, tuple_scr, sorted_R, sortedM_lst, sortedM_R, sum_lst, any_lst, all_lst, tyR_lst, isi_R, isi_scr, sx_R, sxR_lst, sxR_dct, ixN_0, ixN_1, ixN_m1,
  mtKa, mtKe, mtKp, mtKpa, mtKi, mtKr, Option.isSome_some, app_R, addR, catR, seqOf_R, lstOf_R, at_new0, at_new, set_new0, set_new, len_set, List.length_append, List.append_assoc, set_snoc, emp_snoc, emp_cons, emp_nil, wipe_nil, wipe_cons, sz0, sz1, sz2, sz3, sz4, sz5, sz6, decide_eq_true_eq, decide_true, decide_false, true_and, and_true])
local macro_rules | `(tactic| walk_at "rd2") => `(tactic| simp (decide := true) only [setM_cons, setM_nil, rS_ifsN, rS_forsN, rS_whilN, nxt_nil, rSs_nil, rSs_cons, rSs_one, rS_set, rS_setT, rS_setIx, rS_expr, rS_ret, rS_retN, rS_pass, rS_brk, rS_cont, 
  rE_var, rE_int, rE_str, rE_bl, rE_non, rE_glob, rE_bin, rE_neg, negD_int, rE_not, rE_and, rE_or, rE_cmp, rE_chain, rE_ife, rE_tup, rE_lst, rE_lstM, rE_idx, rE_slc, rE_call, rE_blt, rE_mth, rE_calln, fnQ_ref, capsD_nil, capsD_cons, capQ_some, rE_comp, rE_compM, rE_dnew, rE_dnewT, rE_dlit, rE_dget, rE_listRg, rE_listRgM, lrQM_int, rS_setP, rS_setTF, tupQ_tup, setTFd_nil, setTFd_cons, rS_aug, rS_augF, isRef_ref, addI_int, rE_callK, rE_makeK, rE_makeKS, rE_methK, Sc_non, Sc_bl, Sc_int, Sc_str, lrQ_int, rE_fld, rE_make, rE_makeS, rE_meth, objD_obj, rT_meth, fldD_R, fldR_ins, lookQ_hd, lookQ_tl, setFD_R, setFR_ins, putFD_nil, putFD_hd, putFD_tl, fld_obj, objQ_hd, objQ_tl, rS_setFld,
  rds_nil, rds_cons, rdo_none, rdo_some, intO_int, rdt_none, rdt_some, rdi_seq, rdi_chars, chrQ_str, walkD_tup, walkD_lst, rdi_rng1, rngQ_int, rdi_rng2, rngQ2_int,
  rT_not, rT_and, rT_or, rT_cmp, rT_chain, rT_var, rT_glob, rT_bl, rT_bin, rT_idx, rT_fld, rT_slc, rT_call, rT_blt, rT_mth, rT_comp,
  opD_add, opD_adds, opD_addt, opD_addl, opD_catl, opD_sub, opD_mul, opD_muls, opD_fdiv, opD_mod, opD_pow, opD_band,
  cp_lt, cp_le, cp_gt, cp_ge, cp_eq, cp_eqs, cp_eqb, cp_eqn, cp_eqni, cp_eqin, cp_ne, cp_nes, cp_neb, cp_nen, cp_neni, cp_nein, cp_isN, cp_notN, cp_isB, cp_notB, isNon_non, isNon_int, isNon_bl, isNon_str, isNon_tup, isNon_lst, isNon_ref,
  tru_non, tru_bl, tru_int, tru_str, tru_tup, tru_lst, ix_tup', ix_lst', ix_scr, atQ_0, atQ_1, atQ_2, atQ_3, atQ_4, atQ_m1,
  bt_len_str, bt_len_tup, bt_len_lst, bt_len_scr, bt_list_tup, bt_list_lst, bt_listM_tup, bt_listM_lst, bt_tuple_tup, bt_tuple_lst, bt_max2, bt_min2, bt_int_int, bt_int_bl, bt_sorted_lst, bt_ord', bt_str',
  isi_non, isi_bl, isi_int, isi_str, isi_tup, isi_lst, isiQ_eq kit_bb, isiQ_eq kit_bi, isiQ_eq kit_bs, isiQ_eq kit_bt, isiQ_eq kit_bl, isiQ_eq kit_ib, isiQ_eq kit_ii, isiQ_eq kit_is, isiQ_eq kit_it, isiQ_eq kit_il, isiQ_eq kit_sb, isiQ_eq kit_si, isiQ_eq kit_ss, isiQ_eq kit_st, isiQ_eq kit_sl,
  isiQ_eq kit_tb, isiQ_eq kit_ti, isiQ_eq kit_ts, isiQ_eq kit_tt, isiQ_eq kit_tl, isiQ_eq kit_lb, isiQ_eq kit_li, isiQ_eq kit_ls, isiQ_eq kit_lt, isiQ_eq kit_ll, isiQ_eq kit_nb, isiQ_eq kit_ni, isiQ_eq kit_ns, isiQ_eq kit_nt, isiQ_eq kit_nl,
  sl_tup', sl_lst', sl_str', asg_nm, asg_tp, setAll_cons, setAll_nil, startD, endsD_nx, endsD_rt,
  List.map_cons, List.map_nil, List.length_cons, List.length_nil, List.replicate_succ, List.replicate_zero, List.cons_append, List.nil_append, List.set_cons_zero, List.set_cons_succ, List.getElem?_cons_zero, List.getElem?_cons_succ,
  Nat.reduceAdd, Nat.reduceSub, Nat.zero_add, Int.reduceNeg, Int.reduceToNat, Int.reducePow, if_true, if_false, Bool.false_eq_true, Bool.true_eq_false, Bool.not_true, Bool.not_false, Bool.not_eq_eq_eq_not, ix_R, ixR_lst, ixR_dct, ixR_dctT, cp_inn_R, cp_nin_R, inR_dct, inR_dctT, keyD_non, keyD_int, keyD_str, tru_R, truR_lst, walk_R, walk_scr, seqQ_some, optQ_some, intsQ_some, blsQ_some, strQ_some, seqR_lst, len_R, list_R, listM_R, tuple_R, list_scr, tuple_scr, sorted_R, sortedM_lst, sortedM_R, sum_lst, any_lst, all_lst, tyR_lst, isi_R, isi_scr, sx_R, sxR_lst, sxR_dct, sxR_dctT, ixN_0, ixN_1, ixN_m1,
  mtKa, mtKe, mtKp, mtKpa, mtKi, mtKr, mtKx, mtKxl, idx_eq, rev_R, cp_inn2, Bool.or_false, Bool.false_or, Bool.or_true, Bool.true_or, ext_RR, pop_RR, lstOf_lst, seqOf_lst, seqOf_tup, Option.isSome_some, app_R, addR, catR, seqOf_R, lstOf_R, at_new0, at_new, set_new0, set_new, len_set, List.length_append, List.append_assoc, set_snoc, emp_snoc, emp_cons, emp_nil, wipe_nil, wipe_cons, sz0, sz1, sz2, sz3, sz4, sz5, sz6, decide_eq_true_eq, decide_true, decide_false, true_and, and_true])
local macro_rules | `(tactic| walk_at "sz") => `(tactic| first | exact trivial | omega | (simp only [size_eq, tx_len, List.length_map, List.length_cons, List.length_nil, List.length_append, List.length_replicate, List.length_range, List.length_reverse, List.length_set, List.length_take, List.length_drop] <;> omega))
local macro_rules | `(tactic| walk_at "go") => `(tactic| ((try walk_at "rd2"); (first | (with_reducible refine nxt_of ?_; walk_at "go") | ((with_reducible refine And.intro ?hs ?_); (case hs => walk_at "sz"); walk_at "go") | skip)))

def k2 : D := .tup [.tup [.int 10, .int 11], .tup [.int 13, .int 14]]

def k4 : D := .tup [.tup [.int 48, .int 58], .tup [.int 65, .int 91], .tup [.int 95, .int 96], .tup [.int 97, .int 123]]

def k7 : D := .tup []

def k9 : D := .tup [.tup [.int 9, .int 11], .tup [.int 32, .int 37], .tup [.int 38, .int 127]]

def k8 : D := .str " !\"#$&'()*+,-./0123456789:;<=>?@ABCDEFGHIJKLMNOPQRSTUVWXYZ[\\]^_`abcdefghijklmnopqrstuvwxyz{|}~"

def top (i : Nat) : Stmt := PySem.Challenge.pw_firstway_k30_facts_by_the_table.main.body.getD i (.Pass ⟨0, 0, 0, 0⟩)
def inCls (s : Stmt) (j : Nat) : Stmt := match s with
  | .ClassDef (body := b) .. => b.getD j (.Pass ⟨0, 0, 0, 0⟩)
  | _ => .Pass ⟨0, 0, 0, 0⟩
abbrev s1 : Stmt := top 20
def dd1 : He.DefD := ⟨("_law_row", none), "_law_row", "_law_row", defArgs s1, defBody s1, defScope s1, [], []⟩
abbrev s2 : Stmt := top 21
def dd2 : He.DefD := ⟨("_law_digit", none), "_law_digit", "_law_digit", defArgs s2, defBody s2, defScope s2, [], []⟩
abbrev s132 : Stmt := top 23
def dd132 : He.DefD := ⟨("_law_codes", none), "_law_codes", "_law_codes", defArgs s132, defBody s132, defScope s132, [], []⟩
abbrev s184 : Stmt := top 24
def dd184 : He.DefD := ⟨("_law_leaf", none), "_law_leaf", "_law_leaf", defArgs s184, defBody s184, defScope s184, [], []⟩
abbrev s185 : Stmt := top 25
def dd185 : He.DefD := ⟨("_law_repeat", none), "_law_repeat", "_law_repeat", defArgs s185, defBody s185, defScope s185, [], []⟩
abbrev s183 : Stmt := top 26
def dd183 : He.DefD := ⟨("_law_tree", none), "_law_tree", "_law_tree", defArgs s183, defBody s183, defScope s183, [], []⟩
abbrev s0 : Stmt := top 6
def dd0 : He.DefD := ⟨("make_set", none), "make_set", "make_set", defArgs s0, defBody s0, defScope s0, [], []⟩
abbrev s8 : Stmt := top 7
def dd8 : He.DefD := ⟨("union", none), "union", "union", defArgs s8, defBody s8, defScope s8, [], []⟩
abbrev s563 : Stmt := top 11
def dd563 : He.DefD := ⟨("sum_of", none), "sum_of", "sum_of", defArgs s563, defBody s563, defScope s563, [], []⟩
abbrev s559 : Stmt := top 14
def dd559 : He.DefD := ⟨("sequence_facts", none), "sequence_facts", "sequence_facts", defArgs s559, defBody s559, defScope s559, [], []⟩
abbrev s558 : Stmt := top 12
def dd558 : He.DefD := ⟨("greater_of", none), "greater_of", "greater_of", defArgs s558, defBody s558, defScope s558, [], []⟩
abbrev s560 : Stmt := top 15
def dd560 : He.DefD := ⟨("choice_facts", none), "choice_facts", "choice_facts", defArgs s560, defBody s560, defScope s560, [], []⟩
abbrev s561 : Stmt := top 13
def dd561 : He.DefD := ⟨("repeat_facts", none), "repeat_facts", "repeat_facts", defArgs s561, defBody s561, defScope s561, [], []⟩
abbrev s556 : Stmt := top 16
def dd556 : He.DefD := ⟨("facts_of", none), "facts_of", "facts_of", defArgs s556, defBody s556, defScope s556, [], []⟩
abbrev s14 : Stmt := top 9
def dd14 : He.DefD := ⟨("size", none), "size", "size", defArgs s14, defBody s14, defScope s14, [], []⟩
abbrev s13 : Stmt := top 8
def dd13 : He.DefD := ⟨("contains", none), "contains", "contains", defArgs s13, defBody s13, defScope s13, [], []⟩
abbrev s45 : Stmt := top 3
def dd45 : He.DefD := ⟨("character", none), "character", "character", defArgs s45, defBody s45, defScope s45, [], []⟩
abbrev s557 : Stmt := top 17
def dd557 : He.DefD := ⟨("word_of", none), "word_of", "word_of", defArgs s557, defBody s557, defScope s557, [], []⟩
abbrev s562 : Stmt := inCls (top 18) 0
def dd562 : He.DefD := ⟨("Facts", some "__init__"), "__init__", "Facts.__init__", defArgs s562, defBody s562, defScope s562, [], []⟩
abbrev s5 : Stmt := top 29
def dd5 : He.DefD := ⟨("_law_ranges", none), "_law_ranges", "_law_ranges", defArgs s5, defBody s5, defScope s5, [], []⟩
abbrev s51 : Stmt := top 28
def dd51 : He.DefD := ⟨("_law_in", none), "_law_in", "_law_in", defArgs s51, defBody s51, defScope s51, [], []⟩
abbrev s181 : Stmt := top 30
def dd181 : He.DefD := ⟨("_law_both", none), "_law_both", "_law_both", defArgs s181, defBody s181, defScope s181, [], []⟩
abbrev s182 : Stmt := top 31
def dd182 : He.DefD := ⟨("_law_sum", none), "_law_sum", "_law_sum", defArgs s182, defBody s182, defScope s182, [], []⟩
abbrev s180 : Stmt := top 32
def dd180 : He.DefD := ⟨("_law_facts", none), "_law_facts", "_law_facts", defArgs s180, defBody s180, defScope s180, [], []⟩
abbrev s3 : Stmt := top 22
def dd3 : He.DefD := ⟨("_law_same", none), "_law_same", "_law_same", defArgs s3, defBody s3, defScope s3, [], []⟩
abbrev s85 : Stmt := top 27
def dd85 : He.DefD := ⟨("_law_sign", none), "_law_sign", "_law_sign", defArgs s85, defBody s85, defScope s85, [], []⟩
abbrev s186 : Stmt := top 33
def dd186 : He.DefD := ⟨("_law_word", none), "_law_word", "_law_word", defArgs s186, defBody s186, defScope s186, [], []⟩
abbrev s1173 : Stmt := top 34
def dd1173 : He.DefD := ⟨("law", none), "law", "law", defArgs s1173, defBody s1173, defScope s1173, [], []⟩
def fnL : List He.DefD := [dd1, dd2, dd132, dd184, dd185, dd183, dd0, dd8, dd563, dd559, dd558, dd560, dd561, dd556, dd14, dd13, dd45, dd557, dd562, dd5, dd51, dd181, dd182, dd180, dd3, dd85, dd186, dd1173]
def faL : List He.Fa := [(He.Fa.glo "_law_row"), (He.Fa.glo "_law_digit"), (He.Fa.glo "_law_codes"), (He.Fa.glo "_law_leaf"), (He.Fa.glo "_law_repeat"), (He.Fa.glo "_law_tree"), (He.Fa.glo "make_set"), (He.Fa.glo "union"), (He.Fa.glo "sum_of"), (He.Fa.glo "sequence_facts"), (He.Fa.glo "greater_of"), (He.Fa.glo "choice_facts"), (He.Fa.glo "repeat_facts"), (He.Fa.glo "facts_of"), (He.Fa.glo "size"), (He.Fa.glo "contains"), (He.Fa.glo "character"), (He.Fa.glo "word_of"), (He.Fa.glo "_law_ranges"), (He.Fa.glo "_law_in"), (He.Fa.glo "_law_both"), (He.Fa.glo "_law_sum"), (He.Fa.glo "_law_facts"), (He.Fa.glo "_law_same"), (He.Fa.glo "_law_sign"), (He.Fa.glo "_law_word"), (He.Fa.glo "law"), (He.Fa.glo "Facts"), (He.Fa.cls "Facts"), (He.Fa.noat "Facts" "shortest"), (He.Fa.noat "Facts" "longest"), (He.Fa.noat "Facts" "begins"), (He.Fa.noat "Facts" "needs"), (He.Fa.noat "Facts" "anchored"), (He.Fa.noat "Facts" "word"), (He.Fa.mkr "Facts"), (He.Fa.free "len"), (He.Fa.free "int"), (He.Fa.free "sorted"), (He.Fa.free "max"), (He.Fa.free "tuple"), (He.Fa.free "list"), (He.Fa.free "min"), (He.Fa.free "sum"), (He.Fa.free "range"), (He.Fa.free "isinstance"), (He.Fa.free "bool"), (He.Fa.free "str"), (He.Fa.str "VISIBLE" " !\"#$&'()*+,-./0123456789:;<=>?@ABCDEFGHIJKLMNOPQRSTUVWXYZ[\\]^_`abcdefghijklmnopqrstuvwxyz{|}~")]
abbrev rowL : PySem.W.OpenRow := PySem.W.OpenLaw.row PySem.Challenge.rw_firstway_k30_facts_by_the_table
def csL : List (Str × D) := [("NOTHING", k7), ("TEXT_CODES", k9)]
abbrev hkL : PySem.W.Hook := hookC 6 faL fnL csL
def obL (s : PySem.W.SharedT) : He.AlD := obsCG 6 faL fnL csL (HandSHeadRun.getT s)
theorem obL_eq (s : PySem.W.SharedT) : obL s = hkL.obs s.abs := obsCG_eq (HandSHeadRun.getT_eq s)
theorem runL (w : World) : HandSHeadRun.RunEq rowL (PySem.W.view rowL.prog [34]) hkL obL 4000 [("TEXT_CODES" : PySem.Str), ("VISIBLE" : PySem.Str), ("character" : PySem.Str), ("NOTHING" : PySem.Str), ("make_set" : PySem.Str), ("union" : PySem.Str), ("contains" : PySem.Str), ("size" : PySem.Str), ("sum_of" : PySem.Str), ("greater_of" : PySem.Str), ("repeat_facts" : PySem.Str), ("sequence_facts" : PySem.Str), ("choice_facts" : PySem.Str), ("facts_of" : PySem.Str), ("word_of" : PySem.Str), ("Facts" : PySem.Str), ("_law_row" : PySem.Str), ("_law_digit" : PySem.Str), ("_law_same" : PySem.Str), ("_law_codes" : PySem.Str), ("_law_leaf" : PySem.Str), ("_law_repeat" : PySem.Str), ("_law_tree" : PySem.Str), ("_law_sign" : PySem.Str), ("_law_in" : PySem.Str), ("_law_ranges" : PySem.Str), ("_law_both" : PySem.Str), ("_law_sum" : PySem.Str), ("_law_facts" : PySem.Str), ("_law_word" : PySem.Str)] w := by
  intro os
  kernel_rfl
/-! def 1: _law_row; slots 0:_law_script 1:_law_k 2:_law_cell 3:_law_mixed; calls []; consts []; built-ins ['len', 'int'] -/
def c1_6 : CSs := .cons (.set 2 (.idx (.var 0) (.var 1))) .nil
def c1_7 : CSs := .cons (.set 2 (.bin .sub (.int 1) (.bin .mul (.int 2) (.var 2)))) .nil
def c1_8 : CSs := .cons (.ret (.var 2)) .nil
def c1_5 : CSs := .cons (.ret (.bin .mod (.blt .int (.cons (.bin .add (.bin .add (.bin .mul (.var 3) (.var 3)) (.bin .mul (.int 104729) (.var 1))) (.int 977)) .nil)) (.int 2305843009213693951))) .nil
def c1_4 : CSs := .cons (.set 3 (.bin .mod (.blt .int (.cons (.bin .add (.bin .mul (.bin .add (.bin .add (.var 2) (.bin .mul (.int 7919) (.var 1))) (.int 1)) (.int 6364136223846793005)) (.int 1442695040888963407)) .nil)) (.int 2305843009213693951))) c1_5
def c1_3 : CSs := .cons (.ifs (.cmp .ge (.var 2) (.bin .pow (.int 10) (.int 9))) c1_8 .nil) c1_4
def c1_2 : CSs := .cons (.ifs (.cmp .lt (.var 2) (.int 0)) c1_7 .nil) c1_3
def c1_1 : CSs := .cons (.ifs (.cmp .lt (.var 1) (.blt .len (.cons (.var 0) .nil))) c1_6 .nil) c1_2
def c1 : CSs := .cons (.set 2 (.int 0)) c1_1
def sp1 : SpD := fun ds M Q _ => ∃ (ns : List Int) (k : Int), ds = [.scr ns, .int k] ∧ 0 ≤ k ∧ ∀ r : Int, 0 ≤ r → Q (.int r) M
theorem ln1 : ∀ ds M Q E, sp1 ds M Q E → ds.length = 2 := by
  rintro _ _ _ _ ⟨_, _, rfl, _⟩; rfl
theorem rd1 {Φ : Nat → SpD} {κ : Nat → D} : RdOk Φ κ c1 4 sp1 := by
  rintro ds M Q E hM hd ⟨ns, k, rfl, hk, hQ⟩
  have e3 : ∀ c x, At Φ κ E M.length Q c1_3 [some (.scr ns), some (.int k), some (.int c), x] M := by
    intro c x
    rw [At, nxt_eq, c1_3]; walk_at "rd"
    refine ⟨⟨by omega, by omega, by decide⟩, ?_⟩
    split
    · rw [c1_8]; walk_at "rd"
      exact .keep (hQ _ (by omega))
    · rw [nxt_eq, c1_4]; walk_at "rd"
      refine ⟨.inl ⟨by omega, by omega⟩, .inr ⟨by omega, by omega⟩, by omega, ?_⟩
      rw [nxt_eq, c1_5]; walk_at "rd"
      refine ⟨.inl ⟨by omega, by omega⟩, .inl ⟨by omega, by omega⟩, by omega, .keep (hQ _ (by omega))⟩
  have e2 : ∀ c x, At Φ κ E M.length Q c1_2 [some (.scr ns), some (.int k), some (.int c), x] M := by
    intro c x
    rw [At, nxt_eq, c1_2]; walk_at "rd"
    split
    · rw [c1_7]; walk_at "rd"
      exact ⟨.inl ⟨by omega, by omega⟩, e3 _ _⟩
    · exact e3 _ _
  rw [c1]; walk_at "rd"
  rw [nxt_eq, c1_1]; walk_at "rd"
  split
  · next h =>
    rw [c1_6]; walk_at "rd"
    obtain ⟨j, rfl⟩ : ∃ j : Nat, k = j := ⟨k.toNat, by omega⟩
    have hj : j < ns.length := by omega
    rw [atQ_some (d := .int ns[j]) (atI_nat (by simp [hj]))]
    exact e2 _ _
  · exact e2 _ _

/-! def 2: _law_digit; slots 0:_law_script 1:_law_state 2:_law_many 3:_law_digit_here; calls [('_law_row', 1)]; consts []; built-ins ['int'] -/
def c2_5 : CSs := .cons (.setIx (.var 1) (.int 1) (.bin .add (.idx (.var 1) (.int 1)) (.int 1))) .nil
def c2_4 : CSs := .cons (.setIx (.var 1) (.int 0) (.call 1 (.cons (.var 0) (.cons (.idx (.var 1) (.int 1)) .nil)))) c2_5
def c2_3 : CSs := .cons (.ret (.var 3)) .nil
def c2_2 : CSs := .cons (.setIx (.var 1) (.int 0) (.bin .fdiv (.idx (.var 1) (.int 0)) (.var 2))) c2_3
def c2_1 : CSs := .cons (.set 3 (.bin .mod (.blt .int (.cons (.idx (.var 1) (.int 0)) .nil)) (.var 2))) c2_2
def c2 : CSs := .cons (.ifs (.cmp .eq (.idx (.var 1) (.int 0)) (.int 0)) c2_4 .nil) c2_1
def sp2 : SpD := fun ds M Q _ => ∃ (ns : List Int) (a b m : Int) (R : Md), ds = [.scr ns, .ref 0, .int m] ∧ M = .lst [.int a, .int b] :: R ∧ 0 ≤ a ∧ 0 ≤ b ∧ 0 < m ∧ m < 1073741824 ∧
  ∀ d a' b' : Int, 0 ≤ d → d < m → 0 ≤ a' → 0 ≤ b' → Q (.int d) (.lst [.int a', .int b'] :: R)
theorem ln2 : ∀ ds M Q E, sp2 ds M Q E → ds.length = 3 := by
  rintro _ _ _ _ ⟨_, _, _, _, _, rfl, _⟩; rfl
theorem rd2 {Φ : Nat → SpD} {κ : Nat → D} (h1 : Φ 1 = sp1) : RdOk Φ κ c2 4 sp2 := by
  rintro ds M Q E hM hd ⟨ns, a, b, m, R, rfl, rfl, ha, hb, hm, hm2, hQ⟩
  have e1 : ∀ a b x, 0 ≤ a → 0 ≤ b → At Φ κ E (R.length + 1) Q c2_1 [some (.scr ns), some (.ref 0), some (.int m), x] (.lst [.int a, .int b] :: R) := by
    intro a b x ha hb
    rw [At, nxt_eq, c2_1]; walk_at "rd"
    refine ⟨hm, ?_⟩
    rw [nxt_eq, c2_2]; walk_at "rd"
    refine ⟨⟨hm, hm2⟩, ?_⟩
    rw [nxt_eq, c2_3]; walk_at "rd"
    exact .keep (hQ _ _ _ (Int.emod_nonneg _ (by omega)) (Int.emod_lt_of_pos _ hm) (Int.ediv_nonneg ha (by omega)) hb)
  rw [c2]; walk_at "rd"
  split
  · rw [c2_4]; walk_at "rd"
    rw [h1]
    refine ⟨ns, b, rfl, hb, fun r hr => ?_⟩
    walk_at "rd"
    rw [nxt_eq, c2_5]; walk_at "rd"
    exact e1 _ _ _ hr (by omega)
  · exact e1 _ _ _ ha hb

/-- the digit's promise over a longer state -/
def sp2w : SpD := fun ds M Q _ => ∃ (ns : List Int) (a b m : Int) (T : List D) (R : Md), ds = [.scr ns, .ref 0, .int m] ∧ M = .lst (.int a :: .int b :: T) :: R ∧ 0 ≤ a ∧ 0 ≤ b ∧ 0 < m ∧ m < 1073741824 ∧
  ∀ d a' b' : Int, 0 ≤ d → d < m → 0 ≤ a' → 0 ≤ b' → Q (.int d) (.lst (.int a' :: .int b' :: T) :: R)
theorem ln2w : ∀ ds M Q E, sp2w ds M Q E → ds.length = 3 := by
  rintro _ _ _ _ ⟨_, _, _, _, _, _, rfl, _⟩; rfl
theorem rd2w {Φ : Nat → SpD} {κ : Nat → D} (h1 : Φ 1 = sp1) : RdOk Φ κ c2 4 sp2w := by
  rintro ds M Q E hM hd ⟨ns, a, b, m, T, R, rfl, rfl, ha, hb, hm, hm2, hQ⟩
  have e1 : ∀ a b x, 0 ≤ a → 0 ≤ b → At Φ κ E (R.length + 1) Q c2_1 [some (.scr ns), some (.ref 0), some (.int m), x] (.lst (.int a :: .int b :: T) :: R) := by
    intro a b x ha hb
    rw [At, nxt_eq, c2_1]; walk_at "rd"
    refine ⟨hm, ?_⟩
    rw [nxt_eq, c2_2]; walk_at "rd"
    refine ⟨⟨hm, hm2⟩, ?_⟩
    rw [nxt_eq, c2_3]; walk_at "rd"
    exact .keep (hQ _ _ _ (Int.emod_nonneg _ (by omega)) (Int.emod_lt_of_pos _ hm) (Int.ediv_nonneg ha (by omega)) hb)
  rw [c2]; walk_at "rd"
  split
  · rw [c2_4]; walk_at "rd"
    rw [h1]
    refine ⟨ns, b, rfl, hb, fun r hr => ?_⟩
    walk_at "rd"
    rw [nxt_eq, c2_5]; walk_at "rd"
    exact e1 _ _ _ hr (by omega)
  · exact e1 _ _ _ ha hb

/-! draws -/
theorem dig {Φ : Nat → SpD} (h2 : Φ 2 = sp2w) {ns : List Int} {a b m : Int} {T : List D} {R : Md} {Q : QE} {E : EX} (ha : 0 ≤ a) (hb : 0 ≤ b) (hm : 0 < m) (hm2 : m < 1073741824)
    (q : ∀ d a' b' : Int, 0 ≤ d → d < m → 0 ≤ a' → 0 ≤ b' → Q (.int d) (.lst (.int a' :: .int b' :: T) :: R)) : Φ 2 [.scr ns, .ref 0, .int m] (.lst (.int a :: .int b :: T) :: R) Q E := by
  rw [h2]
  exact ⟨ns, a, b, m, T, R, rfl, rfl, ha, hb, hm, hm2, q⟩
theorem atQ_map {α : Type} {f : α → D} {l : List α} {i : Int} {M : Md} {Q : QE} (h0 : 0 ≤ i) (h1 : i < l.length) (h : ∀ x ∈ l, Q (f x) M) : atQ (l.map f) i M Q := by
  refine atQ_mem h0 (by rw [List.length_map]; exact h1) fun d hd => ?_
  obtain ⟨x, hx, rfl⟩ := List.mem_map.mp hd
  exact h x hx
/-- the item at a place -/
theorem atQ_at {α : Type} {f : α → D} {l : List α} {i : Nat} {x : α} {M : Md} {Q : QE} (h : l[i]? = some x) : atQ (l.map f) (i : Int) M Q = Q (f x) M :=
  atQ_some (atI_nat (by rw [List.getElem?_map, h]; rfl))
/-- the end of an __init__ that had lists of its own -/
theorem Fin.init {n0 : Nat} {Q : QE} {M0 L : Md} {c : Str} {fs : List (Str × D)} (hn : M0.length + 1 = n0) (hM : MOk (M0 ++ [.ins c []])) (hf : noRefs (fs.map (·.2)) = true) (q : Q .non (M0 ++ [.ins c fs])) : Fin n0 Q .non (M0 ++ .ins c fs :: L) := by
  have e : M0 ++ .ins c fs :: L = (M0 ++ [.ins c fs]) ++ L := by simp
  rw [e]
  refine Fin.tail (by simpa using hn) trivial ?_ q
  intro m hm
  have hl : (M0 ++ [MO.ins c fs]).length = (M0 ++ [MO.ins c []]).length := by simp
  rw [hl]
  rcases List.mem_append.mp hm with h | h
  · exact hM m (List.mem_append_left _ h)
  · rw [List.mem_singleton.mp h]
    intro p hp
    exact RLts_iff.mp (noRefs_lt hf) _ (List.mem_map_of_mem hp)

/-! ranges of codes -/
def pr (p : Int × Int) : D := .tup [.int p.1, .int p.2]
theorem pr_eq (p : Int × Int) : pr p = .tup [.int p.1, .int p.2] := rfl
def inP (ps : List (Int × Int)) (x : Int) : Bool := ps.any fun p => decide (p.1 ≤ x ∧ x < p.2)
theorem inP_nil {x : Int} : inP [] x = false := rfl
theorem inP_iff {ps : List (Int × Int)} {x : Int} : inP ps x = true ↔ ∃ p ∈ ps, p.1 ≤ x ∧ x < p.2 := by
  unfold inP
  rw [List.any_eq_true]
  constructor
  · rintro ⟨p, h1, h2⟩; exact ⟨p, h1, of_decide_eq_true h2⟩
  · rintro ⟨p, h1, h2⟩; exact ⟨p, h1, decide_eq_true h2⟩
theorem inP_cons {p : Int × Int} {ps : List (Int × Int)} {x : Int} : inP (p :: ps) x = true ↔ (p.1 ≤ x ∧ x < p.2) ∨ inP ps x = true := by
  rw [inP_iff, inP_iff]
  constructor
  · rintro ⟨q, h1, h2⟩
    rcases List.mem_cons.mp h1 with rfl | h
    · exact .inl h2
    · exact .inr ⟨q, h, h2⟩
  · rintro (h | ⟨q, h1, h2⟩)
    · exact ⟨p, List.mem_cons_self, h⟩
    · exact ⟨q, List.mem_cons_of_mem _ h1, h2⟩
theorem inP_append {ps qs : List (Int × Int)} {x : Int} : inP (ps ++ qs) x = true ↔ inP ps x = true ∨ inP qs x = true := by
  unfold inP
  rw [List.any_append, Bool.or_eq_true]
theorem inP_one {p : Int × Int} {x : Int} : inP [p] x = true ↔ p.1 ≤ x ∧ x < p.2 := by
  rw [inP_cons, inP_nil]; simp
/-- the one form -/
def Canon : List (Int × Int) → Prop
  | [] => True
  | p :: L => p.1 < p.2 ∧ (∀ q ∈ L, p.2 < q.1) ∧ Canon L
theorem Canon.lt : ∀ {L : List (Int × Int)}, Canon L → ∀ p ∈ L, p.1 < p.2
  | p :: L, h, q, hq => by
    rcases List.mem_cons.mp hq with rfl | hq
    · exact h.1
    · exact h.2.2.lt q hq
theorem Canon.snoc : ∀ {L : List (Int × Int)} {p : Int × Int}, Canon L → p.1 < p.2 → (∀ q ∈ L, q.2 < p.1) → Canon (L ++ [p])
  | [], p, _, h, _ => ⟨h, fun _ hq => by simp at hq, trivial⟩
  | r :: L, p, hc, h, hl => ⟨hc.1, fun q hq => by
      rcases List.mem_append.mp hq with hq | hq
      · exact hc.2.1 q hq
      · rw [List.mem_singleton.mp hq]; exact hl r List.mem_cons_self, Canon.snoc hc.2.2 h fun q hq => hl q (List.mem_cons_of_mem _ hq)⟩
theorem Canon.init : ∀ {L : List (Int × Int)} {p : Int × Int}, Canon (L ++ [p]) → Canon L ∧ p.1 < p.2 ∧ ∀ q ∈ L, q.2 < p.1
  | [], p, h => ⟨trivial, h.1, fun _ hq => by cases hq⟩
  | r :: L, p, h => by
    obtain ⟨h1, h2, h3⟩ := Canon.init (L := L) h.2.2
    refine ⟨⟨h.1, fun q hq => h.2.1 q (List.mem_append_left _ hq), h1⟩, h2, fun q hq => ?_⟩
    rcases List.mem_cons.mp hq with rfl | hq
    · exact h.2.1 p (List.mem_append_right _ List.mem_cons_self)
    · exact h3 q hq
theorem canon_eq : ∀ {L1 L2 : List (Int × Int)}, Canon L1 → Canon L2 → (∀ x, inP L1 x = inP L2 x) → L1 = L2
  | [], [], _, _, _ => rfl
  | [], q :: L2, _, h2, h => by
    have z := h q.1
    rw [inP_nil, eq_comm] at z
    have : inP (q :: L2) q.1 = true := inP_cons.mpr (.inl ⟨Int.le_refl _, h2.1⟩)
    rw [z] at this; cases this
  | p :: L1, [], h1, _, h => by
    have z := h p.1
    rw [inP_nil] at z
    have : inP (p :: L1) p.1 = true := inP_cons.mpr (.inl ⟨Int.le_refl _, h1.1⟩)
    rw [z] at this; cases this
  | (a, b) :: L1, (c, d) :: L2, h1, h2, h => by
    have low : ∀ {e f : Int} {L : List (Int × Int)}, Canon ((e, f) :: L) → ∀ x, inP ((e, f) :: L) x = true → e ≤ x ∧ (x < f ∨ f < x ∧ inP L x = true) := by
      intro e f L hc x hx
      have hc1 : e < f := hc.1
      rcases inP_cons.mp hx with ⟨h3, h4⟩ | h3
      · exact ⟨h3, .inl h4⟩
      · obtain ⟨q, hq, h4, h5⟩ := inP_iff.mp h3
        have : f < q.1 := hc.2.1 q hq
        exact ⟨by omega, .inr ⟨by omega, h3⟩⟩
    have c1 : a < b := h1.1
    have c2 : c < d := h2.1
    have i1 : inP ((a, b) :: L1) a = true := inP_cons.mpr (.inl ⟨Int.le_refl _, c1⟩)
    have i2 : inP ((c, d) :: L2) c = true := inP_cons.mpr (.inl ⟨Int.le_refl _, c2⟩)
    have e1 : c ≤ a := (low h2 a (by rw [← h]; exact i1)).1
    have e2 : a ≤ c := (low h1 c (by rw [h]; exact i2)).1
    have e3 : a = c := by omega
    subst e3
    have e4 : b = d := by
      rcases Int.lt_trichotomy b d with z | z | z
      · have : inP ((a, d) :: L2) b = true := inP_cons.mpr (.inl ⟨by show a ≤ b; omega, z⟩)
        rw [← h] at this
        rcases (low h1 b this).2 with q | q <;> omega
      · exact z
      · have : inP ((a, b) :: L1) d = true := inP_cons.mpr (.inl ⟨by show a ≤ d; omega, z⟩)
        rw [h] at this
        rcases (low h2 d this).2 with q | q <;> omega
    subst e4
    have e5 : L1 = L2 := canon_eq h1.2.2 h2.2.2 fun x => by
      rw [Bool.eq_iff_iff]
      constructor
      · intro hx
        have : inP ((a, b) :: L2) x = true := by rw [← h]; exact inP_cons.mpr (.inr hx)
        obtain ⟨q, hq, h4, h5⟩ := inP_iff.mp hx
        have : b < q.1 := h1.2.1 q hq
        rcases (low h2 x (by assumption)).2 with z | z
        · omega
        · exact z.2
      · intro hx
        have : inP ((a, b) :: L1) x = true := by rw [h]; exact inP_cons.mpr (.inr hx)
        obtain ⟨q, hq, h4, h5⟩ := inP_iff.mp hx
        have : b < q.1 := h2.2.1 q hq
        rcases (low h1 x (by assumption)).2 with z | z
        · omega
        · exact z.2
    rw [e5]
/-- pairs sorted -/
theorem sort_pairs (ps : List (Int × Int)) : SortOk (ps.map pr) ∧ ∃ qs : List (Int × Int), sortD (ps.map pr) = qs.map pr ∧ qs.Perm ps ∧ qs.Pairwise fun p q => p.1 < q.1 ∨ p.1 = q.1 ∧ p.2 ≤ q.2 := by
  have e : ∀ p : Int × Int, pyG (pr p) = .tuple [.int p.1, .int p.2] := fun p => rfl
  have em : (ps.map pr).map pyG = ps.map fun p => PyData.tuple [.int p.1, .int p.2] := by
    rw [List.map_map]; rfl
  refine ⟨⟨fun d hd => ?_, ?_, ?_, fun d hd => ?_⟩, ps.mergeSort (PySem.W.dataLe false fun p : Int × Int => .tuple [.int p.1, .int p.2]), ?_, List.mergeSort_perm _ _, ?_⟩
  · obtain ⟨p, _, rfl⟩ := List.mem_map.mp hd; rfl
  · rw [em]; exact PySem.W.AllAlike.of fun _ _ => rfl
  · rw [em]; exact PySem.W.Sortable.tuples fun b => ⟨_, _, rfl⟩
  · obtain ⟨p, _, rfl⟩ := List.mem_map.mp hd
    rw [e]
    simp [PyData.depth, PyData.depthAll]
  · unfold sortD
    exact (List.map_mergeSort (f := pr) (fun a _ b _ => rfl)).symm
  · rw [PySem.W.dataLe_ii]
    have := List.pairwise_mergeSort (le := fun p q : Int × Int => decide (p.1 < q.1 ∨ (p.1 = q.1 ∧ p.2 ≤ q.2))) (fun a b c h1 h2 => by
      have h1 := of_decide_eq_true h1
      have h2 := of_decide_eq_true h2
      exact decide_eq_true (by omega)) (fun a b => by
      rw [Bool.or_eq_true]
      rcases Decidable.em (a.1 < b.1 ∨ a.1 = b.1 ∧ a.2 ≤ b.2) with h | h
      · exact .inl (decide_eq_true h)
      · exact .inr (decide_eq_true (by omega))) ps
    exact this.imp fun h => of_decide_eq_true h
theorem walkS {c : D} {M : Md} {ds : List D} {QI} (h : seqOf c M = some ds) : walkD c M QI = QI ds (lkOf c) M := by
  unfold walkD; rw [h]
theorem lkS {c : D} {M : Md} {ds : List D} (h : seqOf c M = some ds) : lkOk (lkOf c) ds M := by
  cases c with
  | ref k =>
    rw [seqOf_R] at h
    unfold seqR at h
    split at h
    · next e => cases h; exact e
    · cases h
  | _ => trivial
theorem noRefs_pr (L : List (Int × Int)) : noRefs (L.map pr) = true := noRefs_map fun _ _ => rfl
theorem snoc_cases {α : Type} (xs : List α) : xs = [] ∨ ∃ ys y, xs = ys ++ [y] := by
  rcases List.eq_nil_or_concat xs with h | ⟨ys, y, h⟩
  · exact .inl h
  · exact .inr ⟨ys, y, by rw [h, List.concat_eq_append]⟩
theorem canon_len : ∀ {L : List (Int × Int)} {lo hi : Int}, Canon L → (∀ x, inP L x = true → lo ≤ x ∧ x < hi) → L = [] ∨ 2 * (L.length : Int) ≤ hi - lo + 1
  | [], _, _, _, _ => .inl rfl
  | p :: L, lo, hi, h, hx => by
    have h1 := h.1
    have a := hx p.1 (inP_cons.mpr (.inl ⟨Int.le_refl _, h1⟩))
    have b := hx (p.2 - 1) (inP_cons.mpr (.inl ⟨by omega, by omega⟩))
    right
    rcases canon_len (L := L) (lo := p.2 + 1) (hi := hi) h.2.2 (fun x hxL => by
      obtain ⟨q, hq, h2, h3⟩ := inP_iff.mp hxL
      have := h.2.1 q hq
      have := hx x (inP_cons.mpr (.inr hxL))
      omega) with rfl | z
    · show 2 * ((0 + 1 : Nat) : Int) ≤ _
      omega
    · rw [List.length_cons]
      push_cast
      omega
theorem canon_64 {L : List (Int × Int)} (h : Canon L) (hx : ∀ x, inP L x = true → 0 ≤ x ∧ x < 128) : L.length ≤ 64 := by
  rcases canon_len h hx with rfl | z
  · simp
  · omega
/-- the bits of the codes -/
def bitsD (f : Nat → Bool) : List D := (List.range 128).map fun i => D.bl (f i)
theorem bits_len {f : Nat → Bool} : (bitsD f).length = 128 := by simp [bitsD]
theorem bits_at {f : Nat → Bool} {i : Nat} {M : Md} {Q : QE} (h : i < 128) : atQ (bitsD f) (i : Int) M Q = Q (.bl (f i)) M :=
  atQ_some (atI_nat (by unfold bitsD; rw [List.getElem?_map, List.getElem?_range h]; rfl))
theorem bits_none {f : Nat → Bool} {ds : List D} : True := trivial
/-- a comprehension over the codes -/
theorem comp_bits {f : Nat → Bool} {all : List D} {asg tst elt Q} {M : Md}
    (step : ∀ i : Nat, i < 128 → ∀ (yes : D → Md → Prop) (no : Md → Prop), yes (.bl (f i)) M → asg (.int i) (fun σ1 M1 => tst σ1 M1 fun k M2 => if k = true then elt σ1 M2 yes else no M2) M)
    (fin : Q (bitsD f) M) : compD none all asg tst elt Q (rngD 0 128) [] M := by
  rw [show rngD 0 128 = (List.range 128).map fun i => D.int (i : Nat) from rngD_eq 128]
  exact comp_map (fun i : Nat => D.int i) (fun i : Nat => D.bl (f i)) trivial (by simp [size_eq]) (fun i hi yes no hy => step i (List.mem_range.mp hi) yes no hy) fin
/-- the codes of a set -/
def codesOf (f : Nat → Bool) : List Nat := (List.range 128).filter f
theorem comp_codes {f : Nat → Bool} {all : List D} {asg tst elt Q} {M : Md}
    (step : ∀ i : Nat, i < 128 → ∀ (yes : D → Md → Prop) (no : Md → Prop), (if f i = true then yes (.int i) M else no M) → asg (.int i) (fun σ1 M1 => tst σ1 M1 fun k M2 => if k = true then elt σ1 M2 yes else no M2) M)
    (fin : Q ((codesOf f).map fun i : Nat => D.int i) M) : compD none all asg tst elt Q (rngD 0 128) [] M := by
  rw [show rngD 0 128 = (List.range 128).map fun i => D.int (i : Nat) from rngD_eq 128]
  refine comp_pure (fun d => match d with
    | .int i => if f i.toNat = true then some (.int i) else none
    | _ => none) trivial (by simp [size_eq]) ?_ ?_
  · intro d hd yes no h
    obtain ⟨i, hi, rfl⟩ := List.mem_map.mp hd
    refine step i (List.mem_range.mp hi) yes no ?_
    dsimp only at h
    rw [Int.toNat_natCast] at h
    split
    · next z => rw [z] at h; exact h
    · next z => rw [Bool.not_eq_true] at z; rw [z] at h; exact h
  · have e : ∀ xs : List Nat, ((xs.map fun i => D.int (i : Nat)).filterMap fun d => match d with
      | .int i => if f i.toNat = true then some (D.int i) else none
      | _ => none) = (xs.filter f).map fun i : Nat => D.int i := by
      intro xs
      induction xs with
      | nil => rfl
      | cons x xs ih =>
        rw [List.map_cons, List.filterMap_cons, ih, List.filter_cons]
        dsimp only
        rw [Int.toNat_natCast]
        cases f x <;> rfl
    rw [e]
    exact fin
theorem atQ_ints {ns : List Int} {i : Int} {M : Md} {Q : QE} (h0 : 0 ≤ i) (h1 : i < ns.length) (h : ∀ v ∈ ns, Q (.int v) M) : atQ (ns.map .int) i M Q := by
  obtain ⟨j, rfl⟩ : ∃ j : Nat, i = j := ⟨i.toNat, by omega⟩
  have hj : j < ns.length := by omega
  rw [atQ_some (d := .int ns[j]) (atI_nat (by rw [List.getElem?_map, List.getElem?_eq_getElem hj]; rfl))]
  exact h _ (List.getElem_mem hj)
/-- a code or None -/
def oD : Option Int → D
  | none => .non
  | some i => .int i
def isIn (ps : List (Int × Int)) : Option Int → Bool
  | none => false
  | some i => inP ps i

/-! def 3: _law_same; slots 0:_law_actual 1:_law_expected 2:_law_k; calls [('_law_same', 3)]; consts []; built-ins ['isinstance', 'bool', 'int', 'str', 'tuple', 'list', 'len', 'range'] -/
def c3_9 : CSs := .cons (.ret (.cmp .isN (.var 0) .non)) .nil
def c3_10 : CSs := .cons (.ret (.and (.blt (.isi "bool") (.cons (.var 0) .nil)) (.cmp .eq (.var 0) (.var 1)))) .nil
def c3_11 : CSs := .cons (.ret (.and (.blt (.isi "int") (.cons (.var 0) .nil)) (.and (.not (.blt (.isi "bool") (.cons (.var 0) .nil))) (.cmp .eq (.var 0) (.var 1))))) .nil
def c3_12 : CSs := .cons (.ret (.and (.blt (.isi "str") (.cons (.var 0) .nil)) (.cmp .eq (.var 0) (.var 1)))) .nil
def c3_13 : CSs := .cons (.ret (.bl false)) .nil
def c3_14 : CSs := .cons (.ret (.bl false)) .nil
def c3_15 : CSs := .cons (.ret (.bl false)) .nil
def c3_17 : CSs := .cons (.ret (.bl false)) .nil
def c3_16 : CSs := .cons (.ifs (.not (.call 3 (.cons (.idx (.var 0) (.var 2)) (.cons (.idx (.var 1) (.var 2)) .nil)))) c3_17 .nil) .nil
def c3_8 : CSs := .cons (.ret (.bl true)) .nil
def c3_7 : CSs := .cons (.fors (.nm 2) (.rng1 (.blt .len (.cons (.var 1) .nil))) c3_16) c3_8
def c3_6 : CSs := .cons (.ifs (.cmp .ne (.blt .len (.cons (.var 0) .nil)) (.blt .len (.cons (.var 1) .nil))) c3_15 .nil) c3_7
def c3_5 : CSs := .cons (.ifs (.and (.blt (.isi "list") (.cons (.var 1) .nil)) (.not (.blt (.isi "list") (.cons (.var 0) .nil)))) c3_14 .nil) c3_6
def c3_4 : CSs := .cons (.ifs (.and (.blt (.isi "tuple") (.cons (.var 1) .nil)) (.not (.blt (.isi "tuple") (.cons (.var 0) .nil)))) c3_13 .nil) c3_5
def c3_3 : CSs := .cons (.ifs (.blt (.isi "str") (.cons (.var 1) .nil)) c3_12 .nil) c3_4
def c3_2 : CSs := .cons (.ifs (.blt (.isi "int") (.cons (.var 1) .nil)) c3_11 .nil) c3_3
def c3_1 : CSs := .cons (.ifs (.blt (.isi "bool") (.cons (.var 1) .nil)) c3_10 .nil) c3_2
def c3 : CSs := .cons (.ifs (.cmp .isN (.var 1) .non) c3_9 .nil) c3_1
/-- the same, n deep at most -/
def Eqv (M : Md) : Nat → D → D → Prop
  | 0, _, _ => False
  | n + 1, a, e => (a = .non ∧ e = .non) ∨ (∃ b, a = .bl b ∧ e = .bl b) ∨ (∃ i, a = .int i ∧ e = .int i) ∨ (∃ s : Str, s.length ≤ sizeLine ∧ a = .str s ∧ e = .str s) ∨
    (∃ xs ys, a = .tup xs ∧ e = .tup ys ∧ xs.length = ys.length ∧ ys.length < 2 ^ 62 ∧ ∀ (i : Nat) x y, xs[i]? = some x → ys[i]? = some y → Eqv M n x y) ∨
    (∃ xs ys, lstOf a M = some xs ∧ lstOf e M = some ys ∧ xs.length = ys.length ∧ ys.length < 2 ^ 62 ∧ ∀ (i : Nat) x y, xs[i]? = some x → ys[i]? = some y → Eqv M n x y)
def sp3 (n : Nat) : SpD := fun ds M Q _ => ∃ a e, ds = [a, e] ∧ Eqv M n a e ∧ Q (.bl true) M
theorem ln3 (n : Nat) : ∀ ds M Q E, sp3 n ds M Q E → ds.length = 2 := by
  rintro _ _ _ _ ⟨_, _, rfl, _⟩; rfl
theorem z3 : ∀ ds M Q E, sp3 0 ds M Q E → False := by
  rintro _ _ _ _ ⟨_, _, _, h, _⟩; exact h
theorem rd3 {Φ : Nat → SpD} {κ : Nat → D} {n : Nat} (h3 : Φ 3 = sp3 n) : RdOk Φ κ c3 3 (sp3 (n + 1)) := by
  rintro ds M Q E hM hd ⟨a, e, rfl, hv, hQ⟩
  have lp : ∀ (xs ys : List D) (get : ∀ (i : Nat), i < xs.length → i < ys.length → ∀ Q : QE, (∀ x y, xs[i]? = some x → ys[i]? = some y → Q x M) → ixD a (.int i) M Q) (get2 : ∀ (i : Nat), i < ys.length → ∀ Q : QE, (∀ y, ys[i]? = some y → Q y M) → ixD e (.int i) M Q)
      (ll : btD .len [e] M = fun Q => Q (.int ys.length) M), xs.length = ys.length → ys.length < 2 ^ 62 → (∀ (i : Nat) x y, xs[i]? = some x → ys[i]? = some y → Eqv M n x y) →
      At Φ κ E M.length Q c3_7 [some a, some e, none] M := by
    intro xs ys get get2 ll hlen hsz hxy
    rw [At, nxt_eq, c3_7]; walk_at "rd"
    rw [ll]; walk_at "rd"
    refine ⟨by omega, by omega, ?_⟩
    refine loop_to (fun _ σ M' => M' = M ∧ ∃ x, σ = [some a, some e, x]) (by omega) ⟨rfl, _, rfl⟩ ?_ ?_
    · rintro j σ M' nx hj hj2 ⟨rfl, x, rfl⟩ hn
      obtain ⟨i, rfl⟩ : ∃ i : Nat, j = i := ⟨j.toNat, by omega⟩
      walk_at "rd"
      rw [c3_16]; walk_at "rd"
      refine get i (by omega) (by omega) _ fun x y hx hy => ?_
      refine get2 i (by omega) _ fun y' hy' => ?_
      rw [hy] at hy'; cases hy'
      rw [h3]
      refine ⟨x, y, rfl, hxy i x y hx hy, ?_⟩
      walk_at "rd"
      exact hn _ _ ⟨rfl, _, rfl⟩
    · rintro σ M' ⟨rfl, x, rfl⟩
      dsimp only; rw [nxt_eq, c3_8]; walk_at "rd"
      exact .keep hQ
  rcases hv with ⟨rfl, rfl⟩ | ⟨b, rfl, rfl⟩ | ⟨i, rfl, rfl⟩ | ⟨s, hs, rfl, rfl⟩ | ⟨xs, ys, rfl, rfl, hlen, hsz, hxy⟩ | ⟨xs, ys, ha, he, hlen, hsz, hxy⟩
  · rw [c3]; walk_at "rd"
    rw [c3_9]; walk_at "rd"
    exact .keep hQ
  · rw [c3]; walk_at "rd"
    rw [nxt_eq, c3_1]; walk_at "rd"
    rw [c3_10]; walk_at "rd"
    exact .keep hQ
  · rw [c3]; walk_at "rd"
    rw [nxt_eq, c3_1]; walk_at "rd"
    rw [nxt_eq, c3_2]; walk_at "rd"
    rw [c3_11]; walk_at "rd"
    exact .keep hQ
  · rw [c3]; walk_at "rd"
    rw [nxt_eq, c3_1]; walk_at "rd"
    rw [nxt_eq, c3_2]; walk_at "rd"
    rw [nxt_eq, c3_3]; walk_at "rd"
    rw [c3_12]; walk_at "rd"
    exact .keep hQ
  · rw [c3]; walk_at "rd"
    rw [nxt_eq, c3_1]; walk_at "rd"
    rw [nxt_eq, c3_2]; walk_at "rd"
    rw [nxt_eq, c3_3]; walk_at "rd"
    rw [nxt_eq, c3_4]; walk_at "rd"
    rw [nxt_eq, c3_5]; walk_at "rd"
    rw [nxt_eq, c3_6]; walk_at "rd"
    rw [hlen]; walk_at "rd"
    refine lp xs ys ?_ ?_ rfl hlen hsz hxy
    · intro i h1 h2 Q hq
      rw [ix_tup', atQ_some (atI_nat (List.getElem?_eq_getElem h1))]
      exact hq _ _ (List.getElem?_eq_getElem h1) (List.getElem?_eq_getElem h2)
    · intro i h2 Q hq
      rw [ix_tup', atQ_some (atI_nat (List.getElem?_eq_getElem h2))]
      exact hq _ (List.getElem?_eq_getElem h2)
  · rw [c3]; walk_at "rd"; rw [isNon_l he]; walk_at "rd"
    rw [nxt_eq, c3_1]; walk_at "rd"; rw [isi_l he]; walk_at "rd"
    rw [nxt_eq, c3_2]; walk_at "rd"; rw [isi_l he]; walk_at "rd"
    rw [nxt_eq, c3_3]; walk_at "rd"; rw [isi_l he]; walk_at "rd"
    rw [nxt_eq, c3_4]; walk_at "rd"; rw [isi_l he]; walk_at "rd"
    rw [nxt_eq, c3_5]; walk_at "rd"; rw [isi_l he]; walk_at "rd"; rw [isi_l ha]; walk_at "rd"
    rw [nxt_eq, c3_6]; walk_at "rd"
    rw [len_l ha, len_l he, hlen]; walk_at "rd"
    refine lp xs ys ?_ ?_ (by funext Q; rw [len_l he]) hlen hsz hxy
    · intro i h1 h2 Q hq
      rw [ix_l ha, atQ_some (atI_nat (List.getElem?_eq_getElem h1))]
      exact hq _ _ (List.getElem?_eq_getElem h1) (List.getElem?_eq_getElem h2)
    · intro i h2 Q hq
      rw [ix_l he, atQ_some (atI_nat (List.getElem?_eq_getElem h2))]
      exact hq _ (List.getElem?_eq_getElem h2)
/-- plain data, n deep at most -/
def Plain : Nat → D → Prop
  | 0, _ => False
  | _ + 1, .non => True
  | _ + 1, .bl _ => True
  | _ + 1, .int _ => True
  | _ + 1, .str s => s.length ≤ sizeLine
  | n + 1, .tup ds => ds.length < 2 ^ 62 ∧ ∀ d ∈ ds, Plain n d
  | n + 1, .lst ds => ds.length < 2 ^ 62 ∧ ∀ d ∈ ds, Plain n d
  | _ + 1, _ => False
theorem eqv_refl {M : Md} : ∀ {n : Nat} {d : D}, Plain n d → Eqv M n d d
  | 0, _, h => h.elim
  | n + 1, .non, h => .inl ⟨rfl, rfl⟩
  | n + 1, .bl b, h => .inr (.inl ⟨b, rfl, rfl⟩)
  | n + 1, .int b, h => .inr (.inr (.inl ⟨b, rfl, rfl⟩))
  | n + 1, .str b, h => .inr (.inr (.inr (.inl ⟨b, h, rfl, rfl⟩)))
  | n + 1, .tup ds, h => .inr (.inr (.inr (.inr (.inl ⟨ds, ds, rfl, rfl, rfl, h.1, fun i x y hx hy => by
      rw [hx] at hy; cases hy
      exact eqv_refl (h.2 x (List.mem_of_getElem? hx))⟩))))
  | n + 1, .lst ds, h => .inr (.inr (.inr (.inr (.inr ⟨ds, ds, rfl, rfl, rfl, h.1, fun i x y hx hy => by
      rw [hx] at hy; cases hy
      exact eqv_refl (h.2 x (List.mem_of_getElem? hx))⟩))))
  | n + 1, .scr _, h => h.elim
  | n + 1, .ref _, h => h.elim

/-! def 6: _law_pairs; slots 0:_law_script 1:_law_state 2:_law_pairs_here 3:_law_many 4:_law_single 5:_law_k 6:_law_low 7:_law_high; calls [('_law_digit', 2)]; consts []; built-ins ['range', 'min'] -/
def c6_6 : CSs := .cons (.set 3 (.call 2 (.cons (.var 0) (.cons (.var 1) (.cons (.int 90) .nil))))) .nil
def c6_11 : CSs := .cons (.set 7 (.blt .min2 (.cons (.int 128) (.cons (.bin .add (.var 6) (.int 1)) .nil)))) .nil
def c6_13 : CSs := .cons (.set 7 (.blt .min2 (.cons (.int 128) (.cons (.bin .add (.var 6) (.bin .fdiv (.var 7) (.int 12))) .nil)))) .nil
def c6_12 : CSs := .cons (.ifs (.cmp .gt (.call 2 (.cons (.var 0) (.cons (.var 1) (.cons (.int 3) .nil)))) (.int 0)) c6_13 .nil) .nil
def c6_10 : CSs := .cons (.expr (.mth .append (.var 2) (.cons (.tup (.cons (.var 6) (.cons (.var 7) .nil))) .nil))) .nil
def c6_9 : CSs := .cons (.ifs (.var 4) c6_11 c6_12) c6_10
def c6_8 : CSs := .cons (.set 7 (.call 2 (.cons (.var 0) (.cons (.var 1) (.cons (.int 129) .nil))))) c6_9
def c6_7 : CSs := .cons (.set 6 (.call 2 (.cons (.var 0) (.cons (.var 1) (.cons (.int 129) .nil))))) c6_8
def c6_5 : CSs := .cons (.ret (.var 2)) .nil
def c6_4 : CSs := .cons (.fors (.nm 5) (.rng1 (.var 3)) c6_7) c6_5
def c6_3 : CSs := .cons (.ifs (.var 4) c6_6 .nil) c6_4
def c6_2 : CSs := .cons (.set 4 (.cmp .eq (.call 2 (.cons (.var 0) (.cons (.var 1) (.cons (.int 6) .nil)))) (.int 0))) c6_3
def c6_1 : CSs := .cons (.set 3 (.call 2 (.cons (.var 0) (.cons (.var 1) (.cons (.int 9) .nil))))) c6_2
def c6 : CSs := .cons (.set 2 (.lst true .nil)) c6_1
def sp6 : SpD := fun ds M Q _ => ∃ (ns : List Int) (a b : Int) (R : Md), ds = [.scr ns, .ref 0] ∧ M = .lst [.int a, .int b] :: R ∧ 0 ≤ a ∧ 0 ≤ b ∧
  ∀ (ps : List (Int × Int)) (a' b' : Int), ps.length ≤ 89 → (∀ p ∈ ps, 0 ≤ p.1 ∧ p.1 ≤ 128 ∧ 0 ≤ p.2 ∧ p.2 ≤ 128) → 0 ≤ a' → 0 ≤ b' → Q (.lst (ps.map pr)) (.lst [.int a', .int b'] :: R)
theorem ln6 : ∀ ds M Q E, sp6 ds M Q E → ds.length = 2 := by
  rintro _ _ _ _ ⟨_, _, _, _, rfl, _⟩; rfl
theorem rd6 {Φ : Nat → SpD} {κ : Nat → D} (h2 : Φ 2 = sp2) : RdOk Φ κ c6 8 sp6 := by
  rintro ds M Q E hM hd ⟨ns, a, b, R, rfl, rfl, ha, hb, hQ⟩
  rw [c6]; walk_at "rd"
  rw [nxt_eq, c6_1]; walk_at "rd"
  rw [h2]
  refine ⟨ns, _, _, _, _, rfl, rfl, ha, hb, by omega, by omega, fun d a b h0 h1 ha hb => ?_⟩
  dsimp only; rw [nxt_eq, c6_2]; walk_at "rd"
  rw [h2]
  refine ⟨ns, _, _, _, _, rfl, rfl, ha, hb, by omega, by omega, fun d2 a b h20 h21 ha hb => ?_⟩
  walk_at "rd"
  have e4 : ∀ (m : Int) (k : Bool) (x5 x6 x7 : Option D) (a b : Int), 0 ≤ m → m < 90 → 0 ≤ a → 0 ≤ b → At Φ κ E (R.length + 1) Q c6_4 [some (.scr ns), some (.ref 0), some (.ref (R.length + 1)), some (.int m), some (.bl k), x5, x6, x7] (.lst [.int a, .int b] :: (R ++ [.lst []])) := by
    intro m k x5 x6 x7 a b hm hm2 ha hb
    rw [At, nxt_eq, c6_4]; walk_at "rd"
    refine ⟨by omega, by omega, ?_⟩
    refine loop_to (fun j σ M' => ∃ ps a b x5 x6 x7, σ = [some (.scr ns), some (.ref 0), some (.ref (R.length + 1)), some (.int m), some (.bl k), x5, x6, x7] ∧ M' = .lst [.int a, .int b] :: (R ++ [.lst (ps.map pr)]) ∧ 0 ≤ a ∧ 0 ≤ b ∧ (ps.length : Int) = j ∧ ∀ p ∈ ps, 0 ≤ p.1 ∧ p.1 ≤ 128 ∧ 0 ≤ p.2 ∧ p.2 ≤ 128)
      hm ⟨[], a, b, _, _, _, rfl, rfl, ha, hb, rfl, (by intro p hp; cases hp)⟩ ?_ ?_
    · rintro j σ M' nx hj hj2 ⟨ps, a, b, x5, x6, x7, rfl, rfl, ha, hb, hps, hall⟩ hn
      walk_at "rd"
      rw [c6_7]; walk_at "rd"
      rw [h2]
      refine ⟨ns, _, _, _, _, rfl, rfl, ha, hb, by omega, by omega, fun lo a b hlo hlo2 ha hb => ?_⟩
      dsimp only; rw [nxt_eq, c6_8]; walk_at "rd"
      rw [h2]
      refine ⟨ns, _, _, _, _, rfl, rfl, ha, hb, by omega, by omega, fun hi a b hhi hhi2 ha hb => ?_⟩
      dsimp only; rw [nxt_eq, c6_9]; walk_at "rd"
      have e10 : ∀ (h a b : Int), 0 ≤ h → h ≤ 128 → 0 ≤ a → 0 ≤ b → nxt Φ κ c6_10 (fun x _ M => E x M) ⟨nx, (endsD (R.length + 1) Q).rt, nxt Φ κ c6_5 (fun x _ M => E x M) (endsD (R.length + 1) Q), nx⟩ [some (.scr ns), some (.ref 0), some (.ref (R.length + 1)), some (.int m), some (.bl k), some (.int j), some (.int lo), some (.int h)] (.lst [.int a, .int b] :: (R ++ [.lst (ps.map pr)])) := by
        intro h a b h0 h1 ha hb
        rw [nxt_eq, c6_10]; walk_at "rd"
        refine ⟨by rw [List.length_map, size_eq]; omega, ?_⟩
        refine hn _ _ ⟨ps ++ [(lo, h)], a, b, _, _, _, rfl, by rw [List.map_append]; rfl, ha, hb, by simp; omega, fun p hp => ?_⟩
        rcases List.mem_append.mp hp with hp | hp
        · exact hall p hp
        · rw [List.mem_singleton.mp hp]
          exact ⟨hlo, by show lo ≤ 128; omega, h0, h1⟩
      split
      · rw [c6_11]; walk_at "rd"
        refine e10 _ _ _ ?_ ?_ ha hb <;> split <;> omega
      · rw [c6_12]; walk_at "rd"
        rw [h2]
        refine ⟨ns, _, _, _, _, rfl, rfl, ha, hb, by omega, by omega, fun t a b ht ht2 ha hb => ?_⟩
        walk_at "rd"
        split
        · rw [c6_13]; walk_at "rd"
          refine ⟨⟨by omega, by omega⟩, ?_⟩
          refine e10 _ _ _ ?_ ?_ ha hb <;> split <;> omega
        · exact e10 _ _ _ hhi (by omega) ha hb
    · rintro σ M' ⟨ps, a, b, x5, x6, x7, rfl, rfl, ha, hb, hps, hall⟩
      dsimp only; rw [nxt_eq, c6_5]; walk_at "rd"
      exact Fin.settle_head rfl (noRefs_lt (noRefs_pr ps)) hM.st (hQ ps a b (by omega) hall ha hb)
  rw [nxt_eq, c6_3]; walk_at "rd"
  split
  · rw [c6_6]; walk_at "rd"
    rw [h2]
    refine ⟨ns, _, _, _, _, rfl, rfl, ha, hb, by omega, by omega, fun d3 a b h30 h31 ha hb => ?_⟩
    exact e4 _ _ _ _ _ _ _ h30 (by omega) ha hb
  · exact e4 _ _ _ _ _ _ _ h0 (by omega) ha hb

/-! def 5: _law_ranges; slots 0:_law_bits 1:_law_found 2:_law_start 3:_law_code 4:_law_inside; calls []; consts []; built-ins ['range', 'tuple'] -/
def c5_7 : CSs := .cons (.set 2 (.var 3)) .nil
def c5_9 : CSs := .cons (.set 2 (.neg (.int 1))) .nil
def c5_8 : CSs := .cons (.expr (.mth .append (.var 1) (.cons (.tup (.cons (.var 2) (.cons (.var 3) .nil))) .nil))) c5_9
def c5_6 : CSs := .cons (.ifs (.and (.not (.var 4)) (.cmp .ge (.var 2) (.int 0))) c5_8 .nil) .nil
def c5_5 : CSs := .cons (.ifs (.and (.var 4) (.cmp .lt (.var 2) (.int 0))) c5_7 .nil) c5_6
def c5_4 : CSs := .cons (.set 4 (.and (.cmp .lt (.var 3) (.int 128)) (.idx (.var 0) (.var 3)))) c5_5
def c5_3 : CSs := .cons (.ret (.blt .tuple (.cons (.var 1) .nil))) .nil
def c5_2 : CSs := .cons (.fors (.nm 3) (.rng1 (.int 129)) c5_4) c5_3
def c5_1 : CSs := .cons (.set 2 (.neg (.int 1))) c5_2
def c5 : CSs := .cons (.set 1 (.lst true .nil)) c5_1
/-- where the walk over the bits stands -/
structure Rg (bt : Int → Prop) (j : Int) (L : List (Int × Int)) (s : Int) : Prop where
  c : Canon L
  n : (L.length : Int) ≤ j
  l : -1 ≤ s
  u : s < j
  e : ∀ p ∈ L, p.2 < if s < 0 then j else s
  i : ∀ x, inP L x = true ↔ 0 ≤ x ∧ (x < if s < 0 then j else s) ∧ bt x
  t : ∀ x, 0 ≤ s → s ≤ x → x < j → bt x
theorem Rg.start {bt : Int → Prop} : Rg bt 0 [] (-1) := ⟨trivial, by simp, by omega, by omega, fun _ h => (by cases h), fun x => by rw [inP_nil]; simp; omega, fun x h => by omega⟩
theorem Rg.open_ {bt : Int → Prop} {j s : Int} {L : List (Int × Int)} (h : Rg bt j L s) (hs : s < 0) (hb : bt j) (hj : 0 ≤ j) : Rg bt (j + 1) L j := by
  refine ⟨h.c, by have := h.n; omega, by omega, by omega, fun p hp => ?_, fun x => ?_, fun x h0 h1 h2 => ?_⟩
  · have := h.e p hp
    rw [if_pos hs] at this
    rw [if_neg (by omega)]; exact this
  · have := h.i x
    rw [if_pos hs] at this
    rw [if_neg (by omega)]; exact this
  · have : x = j := by omega
    rw [this]; exact hb
theorem Rg.go {bt : Int → Prop} {j s : Int} {L : List (Int × Int)} (h : Rg bt j L s) (hs : ¬ s < 0) (hb : bt j) : Rg bt (j + 1) L s := by
  refine ⟨h.c, by have := h.n; omega, h.l, by have := h.u; omega, fun p hp => ?_, fun x => ?_, fun x h0 h1 h2 => ?_⟩
  · have := h.e p hp
    rw [if_neg hs] at this ⊢; exact this
  · have := h.i x
    rw [if_neg hs] at this ⊢; exact this
  · rcases Decidable.em (x < j) with z | z
    · exact h.t x h0 h1 z
    · have : x = j := by omega
      rw [this]; exact hb
theorem Rg.out {bt : Int → Prop} {j s : Int} {L : List (Int × Int)} (h : Rg bt j L s) (hs : s < 0) (hb : ¬ bt j) : Rg bt (j + 1) L s := by
  refine ⟨h.c, by have := h.n; omega, h.l, by have := h.u; omega, fun p hp => ?_, fun x => ?_, fun x h0 => by omega⟩
  · have := h.e p hp
    rw [if_pos hs] at this ⊢; omega
  · have := h.i x
    rw [if_pos hs] at this ⊢
    rw [this]
    constructor
    · rintro ⟨h1, h2, h3⟩; exact ⟨h1, by omega, h3⟩
    · rintro ⟨h1, h2, h3⟩
      rcases Decidable.em (x < j) with z | z
      · exact ⟨h1, z, h3⟩
      · have : x = j := by omega
        rw [this] at h3; exact absurd h3 hb
theorem Rg.close {bt : Int → Prop} {j s : Int} {L : List (Int × Int)} (h : Rg bt j L s) (hs : ¬ s < 0) (hb : ¬ bt j) : Rg bt (j + 1) (L ++ [(s, j)]) (-1) := by
  have hu := h.u
  refine ⟨h.c.snoc hu fun q hq => ?_, by have := h.n; simp; omega, by omega, by omega, fun p hp => ?_, fun x => ?_, fun x h0 => by omega⟩
  · have := h.e q hq
    rw [if_neg hs] at this; exact this
  · rw [if_pos (by omega)]
    rcases List.mem_append.mp hp with hp | hp
    · have := h.e p hp
      rw [if_neg hs] at this; omega
    · rw [List.mem_singleton.mp hp]
      show j < j + 1
      omega
  · have := h.i x
    rw [if_neg hs] at this
    rw [if_pos (by omega), inP_append, inP_one, this]
    constructor
    · rintro (⟨h1, h2, h3⟩ | ⟨h1, h2⟩)
      · exact ⟨h1, by omega, h3⟩
      · exact ⟨by have : s ≤ x := h1; omega, by have : x < j := h2; omega, h.t x (by omega) h1 h2⟩
    · rintro ⟨h1, h2, h3⟩
      rcases Decidable.em (x < s) with z | z
      · exact .inl ⟨h1, z, h3⟩
      · rcases Decidable.em (x < j) with z2 | z2
        · exact .inr ⟨by show s ≤ x; omega, z2⟩
        · have : x = j := by omega
          rw [this] at h3; exact absurd h3 hb
def sp5 : SpD := fun ds M Q _ => ∃ (bs : List Bool), ds = [.lst (bs.map .bl)] ∧ bs.length = 128 ∧ ∀ L, Canon L → (∀ x : Int, inP L x = true ↔ 0 ≤ x ∧ bs[x.toNat]? = some true) → Q (.tup (L.map pr)) M
theorem ln5 : ∀ ds M Q E, sp5 ds M Q E → ds.length = 1 := by
  rintro _ _ _ _ ⟨_, rfl, _⟩; rfl
theorem rd5 {Φ : Nat → SpD} {κ : Nat → D} : RdOk Φ κ c5 5 sp5 := by
  rintro ds M Q E hM hd ⟨bs, rfl, hbs, hQ⟩
  rw [c5]; walk_at "rd"
  rw [nxt_eq, c5_1]; walk_at "rd"
  rw [nxt_eq, c5_2]; walk_at "rd"
  refine ⟨by omega, by omega, ?_⟩
  refine loop_to (fun j σ M' => ∃ L s x3 x4, σ = [some (.lst (bs.map .bl)), some (.ref M.length), some (.int s), x3, x4] ∧ M' = M ++ [.lst (L.map pr)] ∧ j ≤ 129 ∧ Rg (fun x => bs[x.toNat]? = some true) j L s) (by omega) ⟨[], -1, _, _, rfl, rfl, by omega, .start⟩ ?_ ?_
  · rintro j σ M' nx hj hj2 ⟨L, s, x3, x4, rfl, rfl, hj3, G⟩ hn
    walk_at "rd"
    rw [c5_4]; walk_at "rd"
    have key : ∀ (k : Bool), (k = true ↔ bs[j.toNat]? = some true) → nxt Φ κ c5_5 (fun x _ M => E x M) ⟨nx, (endsD M.length Q).rt, nxt Φ κ c5_3 (fun x _ M => E x M) (endsD M.length Q), nx⟩ [some (.lst (bs.map .bl)), some (.ref M.length), some (.int s), some (.int j), some (.bl k)] (M ++ [.lst (L.map pr)]) := by
      intro k hk
      have hsz : L.length < sizeLine := by
        have := G.n
        rw [size_eq]
        omega
      cases k with
      | true =>
        have hb := hk.mp rfl
        rw [nxt_eq, c5_5]; walk_at "rd"
        split
        · rw [c5_7]; walk_at "rd"
          rw [nxt_eq, c5_6]; walk_at "rd"
          exact hn _ _ ⟨L, j, _, _, rfl, rfl, by omega, G.open_ (by assumption) hb hj⟩
        · rw [nxt_eq, c5_6]; walk_at "rd"
          exact hn _ _ ⟨L, s, _, _, rfl, rfl, by omega, G.go (by assumption) hb⟩
      | false =>
        have hb : ¬ bs[j.toNat]? = some true := fun h => by cases hk.mpr h
        rw [nxt_eq, c5_5]; walk_at "rd"
        rw [nxt_eq, c5_6]; walk_at "rd"
        split
        · rw [c5_8]; walk_at "rd"
          refine ⟨by rw [List.length_map]; exact hsz, ?_⟩
          rw [nxt_eq, c5_9]; walk_at "rd"
          exact hn _ _ ⟨L ++ [(s, j)], -1, _, _, rfl, by rw [List.map_append]; rfl, by omega, G.close (by omega) hb⟩
        · exact hn _ _ ⟨L, s, _, _, rfl, rfl, by omega, G.out (by omega) hb⟩
    split
    · have hjl : j.toNat < bs.length := by omega
      obtain ⟨i, rfl⟩ : ∃ i : Nat, j = i := ⟨j.toNat, by omega⟩
      have hjl : i < bs.length := by omega
      rw [atQ_some (d := .bl bs[i]) (atI_nat (by rw [List.getElem?_map, List.getElem?_eq_getElem hjl]; rfl))]
      refine key _ ?_
      rw [Int.toNat_natCast, List.getElem?_eq_getElem hjl]
      simp
    · refine key _ ?_
      rw [List.getElem?_eq_none (by omega), decide_eq_false (by omega)]
      simp
  · rintro σ M' ⟨L, s, x3, x4, rfl, rfl, hj3, G⟩
    dsimp only; rw [nxt_eq, c5_3]; walk_at "rd"
    have h128 : ¬ bs[(128 : Int).toNat]? = some true := by
      rw [List.getElem?_eq_none (by rw [hbs]; decide)]; simp
    have hs : s < 0 := by
      rcases Decidable.em (s < 0) with h | h
      · exact h
      · exact absurd (G.t 128 (by omega) (by have := G.u; omega) (by omega)) h128
    refine Fin.tail rfl (noRefs_lt (noRefs_pr L)) hM (hQ L G.c fun x => ?_)
    rw [G.i x, if_pos hs]
    constructor
    · rintro ⟨h1, _, h3⟩; exact ⟨h1, h3⟩
    · rintro ⟨h1, h3⟩
      refine ⟨h1, ?_, h3⟩
      obtain ⟨h, _⟩ := List.getElem?_eq_some_iff.mp h3
      omega
theorem use5 {f : Nat → Bool} {M : Md} {Q : QE} {E : EX} (h : ∀ L, Canon L → (∀ x : Int, inP L x = true ↔ 0 ≤ x ∧ x < 128 ∧ f x.toNat = true) → Q (.tup (L.map pr)) M) : sp5 [.lst (bitsD f)] M Q E := by
  refine ⟨(List.range 128).map f, by unfold bitsD; rw [List.map_map]; rfl, by simp, fun L hL hx => h L hL fun x => ?_⟩
  rw [hx]
  constructor
  · rintro ⟨h1, h2⟩
    obtain ⟨h3, h4⟩ := List.getElem?_eq_some_iff.mp h2
    rw [List.getElem_map, List.getElem_range] at h4
    simp at h3
    exact ⟨h1, by omega, h4⟩
  · rintro ⟨h1, h2, h3⟩
    refine ⟨h1, ?_⟩
    rw [List.getElem?_map, List.getElem?_range (by omega), Option.map_some, h3]

/-! def 4: _law_in; slots 0:_law_codes 1:_law_code 2:_law_pair; calls []; consts []; built-ins [] -/
def c4_3 : CSs := .cons (.ret (.bl true)) .nil
def c4_2 : CSs := .cons (.ifs (.and (.cmp .le (.idx (.var 2) (.int 0)) (.var 1)) (.cmp .lt (.var 1) (.idx (.var 2) (.int 1)))) c4_3 .nil) .nil
def c4_1 : CSs := .cons (.ret (.bl false)) .nil
def c4 : CSs := .cons (.fors (.nm 2) (.seq (.var 0)) c4_2) c4_1
def sp4 : SpD := fun ds M Q _ => ∃ (c : D) (x : Int) (ps : List (Int × Int)), ds = [c, .int x] ∧ seqOf c M = some (ps.map pr) ∧ Q (.bl (inP ps x)) M
theorem ln4 : ∀ ds M Q E, sp4 ds M Q E → ds.length = 2 := by
  rintro _ _ _ _ ⟨_, _, _, rfl, _⟩; rfl
theorem rd4 {Φ : Nat → SpD} {κ : Nat → D} : RdOk Φ κ c4 3 sp4 := by
  rintro ds M Q E hM hd ⟨c, x, ps, rfl, hc, hQ⟩
  rw [c4]; walk_at "rd"
  rw [walkS hc]
  refine loop_list (fun rem σ M' => M' = M ∧ ∃ y qs, σ = [some c, some (.int x), y] ∧ rem = qs.map pr ∧ inP ps x = inP qs x) ?_ ?_ ?_ _ _ _ ⟨rfl, _, ps, rfl, rfl, rfl⟩
  · rintro _ _ _ ⟨rfl, _⟩; exact lkS hc
  · rintro d rem σ M' nx ⟨rfl, y, qs, rfl, he, hi⟩ hn
    obtain ⟨q, qs, rfl, rfl, rfl⟩ : ∃ q qs', qs = q :: qs' ∧ d = pr q ∧ rem = qs'.map pr := by
      cases qs with
      | nil => cases he
      | cons q qs => cases he; exact ⟨q, qs, rfl, rfl, rfl⟩
    walk_at "rd"
    rw [c4_2]; walk_at "rd"; rw [pr_eq]; walk_at "rd"
    have no : ¬ (q.1 ≤ x ∧ x < q.2) → inP ps x = inP qs x := fun h => by
      rw [hi, Bool.eq_iff_iff, inP_cons]
      exact ⟨fun z => z.resolve_left h, .inr⟩
    split
    · split
      · rw [c4_3]; walk_at "rd"
        rw [hi, inP_cons.mpr (.inl ⟨by assumption, by assumption⟩)] at hQ
        exact .keep hQ
      · exact hn _ _ ⟨rfl, _, qs, rfl, rfl, no (by omega)⟩
    · exact hn _ _ ⟨rfl, _, qs, rfl, rfl, no (by omega)⟩
  · rintro σ M' ⟨rfl, y, qs, rfl, he, hi⟩
    dsimp only; rw [nxt_eq, c4_1]; walk_at "rd"
    cases qs with
    | nil => rw [hi, inP_nil] at hQ; exact .keep hQ
    | cons q qs => cases he

/-! def 0: make_set; slots 0:pairs 1:ranges 2:low 3:high; calls []; consts []; built-ins ['sorted', 'max', 'tuple'] -/
def c0_5 : CSs := .cons .cont .nil
def c0_6 : CSs := .cons (.setIx (.var 1) (.neg (.int 1)) (.tup (.cons (.idx (.idx (.var 1) (.neg (.int 1))) (.int 0)) (.cons (.blt .max2 (.cons (.idx (.idx (.var 1) (.neg (.int 1))) (.int 1)) (.cons (.var 3) .nil))) .nil)))) .nil
def c0_7 : CSs := .cons (.expr (.mth .append (.var 1) (.cons (.tup (.cons (.var 2) (.cons (.var 3) .nil))) .nil))) .nil
def c0_4 : CSs := .cons (.ifs (.and (.var 1) (.cmp .le (.var 2) (.idx (.idx (.var 1) (.neg (.int 1))) (.int 1)))) c0_6 c0_7) .nil
def c0_3 : CSs := .cons (.ifs (.cmp .ge (.var 2) (.var 3)) c0_5 .nil) c0_4
def c0_2 : CSs := .cons (.ret (.blt .tuple (.cons (.var 1) .nil))) .nil
def c0_1 : CSs := .cons (.fors (.tp [2, 3]) (.seq (.blt .sorted (.cons (.var 0) .nil))) c0_3) c0_2
def c0 : CSs := .cons (.set 1 (.lst true .nil)) c0_1
/-- where make_set's walk stands -/
structure Mk (ps acc qs : List (Int × Int)) : Prop where
  c : Canon acc
  n : acc.length + qs.length ≤ ps.length
  s : qs.Pairwise fun p q => p.1 < q.1 ∨ p.1 = q.1 ∧ p.2 ≤ q.2
  l : ∀ p ∈ acc, ∀ q ∈ qs, p.1 ≤ q.1
  i : ∀ x, (inP acc x = true ∨ inP qs x = true) ↔ inP ps x = true
theorem Mk.skip {ps acc qs : List (Int × Int)} {q : Int × Int} (h : Mk ps acc (q :: qs)) (hq : q.2 ≤ q.1) : Mk ps acc qs := by
  refine ⟨h.c, by have := h.n; simp at this; omega, (List.pairwise_cons.mp h.s).2, fun p hp r hr => h.l p hp r (List.mem_cons_of_mem _ hr), fun x => ?_⟩
  rw [← h.i x, inP_cons]
  constructor
  · rintro (z | z)
    · exact .inl z
    · exact .inr (.inr z)
  · rintro (z | z | z)
    · exact .inl z
    · omega
    · exact .inr z
theorem Mk.more {ps acc qs : List (Int × Int)} {q : Int × Int} (h : Mk ps acc (q :: qs)) (hq : q.1 < q.2) (hl : ∀ p ∈ acc, p.2 < q.1) : Mk ps (acc ++ [q]) qs := by
  refine ⟨h.c.snoc hq hl, by have := h.n; simp at this ⊢; omega, (List.pairwise_cons.mp h.s).2, fun p hp r hr => ?_, fun x => ?_⟩
  · rcases List.mem_append.mp hp with hp | hp
    · exact h.l p hp r (List.mem_cons_of_mem _ hr)
    · rw [List.mem_singleton.mp hp]
      have := (List.pairwise_cons.mp h.s).1 r hr
      omega
  · rw [← h.i x, inP_cons, inP_append, inP_one, or_assoc]
theorem Mk.join {ps acc qs : List (Int × Int)} {p q : Int × Int} (h : Mk ps (acc ++ [p]) (q :: qs)) (hq : q.1 < q.2) (hl : q.1 ≤ p.2) : Mk ps (acc ++ [(p.1, if q.2 > p.2 then q.2 else p.2)]) qs := by
  obtain ⟨h1, h2, h3⟩ := h.c.init
  have h4 := h.l p (List.mem_append_right _ List.mem_cons_self) q List.mem_cons_self
  have e : ∀ y : Int, (y < if q.2 > p.2 then q.2 else p.2) ↔ y < p.2 ∨ y < q.2 := fun y => by split <;> omega
  refine ⟨h1.snoc ((e _).mpr (.inl h2)) h3, by have := h.n; simp at this ⊢; omega, (List.pairwise_cons.mp h.s).2, fun r hr z hz => ?_, fun x => ?_⟩
  · rcases List.mem_append.mp hr with hr | hr
    · exact h.l r (List.mem_append_left _ hr) z (List.mem_cons_of_mem _ hz)
    · rw [List.mem_singleton.mp hr]
      exact h.l p (List.mem_append_right _ List.mem_cons_self) z (List.mem_cons_of_mem _ hz)
  · rw [← h.i x, inP_cons, inP_append, inP_append, inP_one, inP_one]
    show (inP acc x = true ∨ p.1 ≤ x ∧ x < if q.2 > p.2 then q.2 else p.2) ∨ inP qs x = true ↔ _
    rw [e]
    constructor
    · rintro ((z | ⟨z1, z2 | z2⟩) | z)
      · exact .inl (.inl z)
      · exact .inl (.inr ⟨z1, z2⟩)
      · rcases Decidable.em (x < p.2) with y | y
        · exact .inl (.inr ⟨z1, y⟩)
        · exact .inr (.inl ⟨by omega, z2⟩)
      · exact .inr (.inr z)
    · rintro ((z | z) | z | z)
      · exact .inl (.inl z)
      · exact .inl (.inr ⟨z.1, .inl z.2⟩)
      · exact .inl (.inr ⟨by omega, .inr z.2⟩)
      · exact .inr z
def sp0 : SpD := fun ds M Q _ => ∃ (c : D) (ps : List (Int × Int)), ds = [c] ∧ lstOf c M = some (ps.map pr) ∧ ps.length ≤ sizeLine ∧ ∀ L, Canon L → (∀ x : Int, inP L x = true ↔ inP ps x = true) → L.length ≤ ps.length → Q (.tup (L.map pr)) M
theorem ln0 : ∀ ds M Q E, sp0 ds M Q E → ds.length = 1 := by
  rintro _ _ _ _ ⟨_, _, rfl, _⟩; rfl
theorem rd0 {Φ : Nat → SpD} {κ : Nat → D} : RdOk Φ κ c0 4 sp0 := by
  rintro ds M Q E hM hd ⟨c, ps, rfl, hc, hsz, hQ⟩
  have hc' : lstOf c (M ++ [.lst []]) = some (ps.map pr) := by
    cases c with
    | lst _ => exact hc
    | ref k =>
      rw [lstOf_R] at hc ⊢
      unfold seqR at hc
      split at hc
      · next e => rw [at_old e]; exact hc
      · cases hc
    | _ => cases hc
  obtain ⟨so, qs, hqs, hperm, hsort⟩ := sort_pairs ps
  rw [c0]; walk_at "rd"
  rw [nxt_eq, c0_1]; walk_at "rd"
  rw [sorted_l hc']; walk_at "rd"
  rw [hqs]
  refine ⟨so, ?_⟩
  refine loop_list (fun rem σ M' => ∃ acc qs x2 x3, σ = [some c, some (.ref M.length), x2, x3] ∧ M' = M ++ [.lst (acc.map pr)] ∧ rem = qs.map pr ∧ Mk ps acc qs) ?_ ?_ ?_ _ _ _ ⟨[], qs, _, _, rfl, rfl, rfl, trivial, by simp [hperm.length_eq], hsort, (by intro p hp; cases hp), fun x => ?_⟩
  · intro _ _ _ _; trivial
  · rintro d rem σ M' nx ⟨acc, qs, x2, x3, rfl, rfl, he, G⟩ hn
    obtain ⟨q, qs, rfl, rfl, rfl⟩ : ∃ q qs', qs = q :: qs' ∧ d = pr q ∧ rem = qs'.map pr := by
      cases qs with
      | nil => cases he
      | cons q qs => cases he; exact ⟨q, qs, rfl, rfl, rfl⟩
    have hlen : acc.length < sizeLine := by
      have := G.n
      simp at this
      omega
    rw [pr_eq]; walk_at "rd"
    rw [c0_3]; walk_at "rd"
    split
    · rw [c0_5]; walk_at "rd"
      exact hn _ _ ⟨acc, qs, _, _, rfl, rfl, rfl, G.skip (by omega)⟩
    · rcases snoc_cases acc with rfl | ⟨acc, p, rfl⟩
      · rw [nxt_eq, c0_4]; walk_at "rd"
        rw [c0_7]; walk_at "rd"
        exact ⟨hlen, hn _ _ ⟨[q], qs, _, _, rfl, rfl, rfl, G.more (by omega) (by intro p hp; cases hp)⟩⟩
      · rw [List.map_append, List.map_cons, List.map_nil, nxt_eq, c0_4]; walk_at "rd"
        rw [pr_eq p]; walk_at "rd"
        split
        · rw [c0_6]; walk_at "rd"
          exact hn _ _ ⟨acc ++ [(p.1, if q.2 > p.2 then q.2 else p.2)], qs, _, _, rfl, by rw [List.map_append]; rfl, rfl, G.join (by omega) (by assumption)⟩
        · rw [c0_7]; walk_at "rd"
          refine ⟨by simpa using hlen, hn _ _ ⟨(acc ++ [p]) ++ [q], qs, _, _, rfl, by simp [pr], rfl, G.more (by omega) fun r hr => ?_⟩⟩
          obtain ⟨h1, h2, h3⟩ := G.c.init
          rcases List.mem_append.mp hr with hr | hr
          · have := h3 r hr
            omega
          · rw [List.mem_singleton.mp hr]; omega
  · rintro σ M' ⟨acc, qs, x2, x3, rfl, rfl, he, G⟩
    dsimp only; rw [nxt_eq, c0_2]; walk_at "rd"
    cases qs with
    | cons _ _ => cases he
    | nil => exact Fin.tail rfl (noRefs_lt (noRefs_pr acc)) hM (hQ acc G.c (fun x => by rw [← G.i x, inP_nil]; simp) (by have := G.n; simpa using this))
  · rw [inP_nil, inP_iff, inP_iff]
    simp only [Bool.false_eq_true, false_or]
    constructor
    · rintro ⟨p, h1, h2⟩; exact ⟨p, hperm.mem_iff.mp h1, h2⟩
    · rintro ⟨p, h1, h2⟩; exact ⟨p, hperm.mem_iff.mpr h1, h2⟩

/-! def 7: law; slots 0:_law_script 1:_law_state 2:_law_pairs_here 3:_law_given 4:_law_expected 5:_law_code; calls [('_law_pairs', 6), ('_law_ranges', 5), ('_law_in', 4), ('_law_same', 3), ('make_set', 0)]; consts []; built-ins ['list', 'range'] -/
def c7_4 : CSs := .cons (.ret (.and (.call 3 (.cons (.call 0 (.cons (.var 3) .nil)) (.cons (.var 4) .nil))) (.call 3 (.cons (.var 3) (.cons (.var 2) .nil))))) .nil
def c7_3 : CSs := .cons (.set 4 (.call 5 (.cons (.comp false (.call 4 (.cons (.var 2) (.cons (.var 5) .nil))) (.nm 5) (.rng1 (.int 128)) .none [5]) .nil))) c7_4
def c7_2 : CSs := .cons (.set 3 (.blt .list (.cons (.var 2) .nil))) c7_3
def c7_1 : CSs := .cons (.set 2 (.call 6 (.cons (.var 0) (.cons (.var 1) .nil)))) c7_2
def c7 : CSs := .cons (.set 1 (.lst true (.cons (.int 0) (.cons (.int 0) .nil)))) c7_1
theorem plain_prs {ps : List (Int × Int)} (h : ps.length < 2 ^ 62) : ∀ d ∈ ps.map pr, Plain 2 d := fun d hd => by
  obtain ⟨p, _, rfl⟩ := List.mem_map.mp hd
  refine ⟨by show (2 : Nat) < 2 ^ 62; decide, fun d hd => ?_⟩
  simp at hd
  rcases hd with rfl | rfl <;> trivial
theorem rd7 {Φ : Nat → SpD} {κ : Nat → D} (h6 : Φ 6 = sp6) (h5 : Φ 5 = sp5) (h4 : Φ 4 = sp4) (h3 : Φ 3 = sp3 3) (h0 : Φ 0 = sp0) : RdOk Φ κ c7 6 (spLaw 63) := by
  rintro ds M Q E hM hd ⟨ns, hns, rfl, rfl, hQ⟩
  rw [c7]; walk_at "rd"
  rw [nxt_eq, c7_1]; walk_at "rd"
  rw [h6]
  refine ⟨ns, 0, 0, [], rfl, rfl, by omega, by omega, fun ps a b hps hall ha hb => ?_⟩
  dsimp only; rw [nxt_eq, c7_2]; walk_at "rd"
  rw [nxt_eq, c7_3]; walk_at "rd"
  refine ⟨by omega, by omega, ?_⟩
  rw [show rngD 0 128 = (List.range 128).map fun i => D.int (i : Nat) from rngD_eq 128]
  refine comp_map (fun i : Nat => D.int i) (fun i : Nat => D.bl (inP ps i)) trivial (by simp [size_eq]) ?_ ?_
  · intro i hi yes no hy
    walk_at "rd"
    rw [h4]
    exact ⟨_, _, ps, rfl, rfl, hy⟩
  · rw [h5]
    refine ⟨(List.range 128).map fun i : Nat => inP ps i, by rw [List.map_map]; rfl, by simp, fun L hL hx => ?_⟩
    dsimp only; rw [nxt_eq, c7_4]; walk_at "rd"
    rw [h0]
    refine ⟨.lst (ps.map pr), ps, rfl, rfl, by rw [size_eq]; omega, fun L' hL' hx' hl' => ?_⟩
    obtain rfl : L' = L := canon_eq hL' hL fun x => by
      rw [Bool.eq_iff_iff, hx', hx]
      constructor
      · intro h
        obtain ⟨p, hp, h1, h2⟩ := inP_iff.mp h
        have := hall p hp
        refine ⟨by omega, ?_⟩
        rw [List.getElem?_map, List.getElem?_range (by omega), Option.map_some, Int.toNat_of_nonneg (by omega), h]
      · rintro ⟨h1, h2⟩
        rw [List.getElem?_map] at h2
        obtain ⟨i, hi, he⟩ := Option.map_eq_some_iff.mp h2
        obtain ⟨h3, h4⟩ := List.getElem?_eq_some_iff.mp hi
        rw [List.getElem_range] at h4
        rw [← h4, Int.toNat_of_nonneg h1] at he
        exact he
    rw [h3]
    refine ⟨_, _, rfl, eqv_refl (d := .tup (L'.map pr)) ⟨by rw [List.length_map]; omega, plain_prs (by omega)⟩, ?_⟩
    walk_at "rd"
    refine ⟨_, _, rfl, eqv_refl (d := .lst (ps.map pr)) ⟨by rw [List.length_map]; omega, plain_prs (by omega)⟩, ?_⟩
    exact .keep (hQ _)

/-! core trees -/
inductive Cr where
  | set (n : Int) (ps : List (Int × Int)) | seq (a b : Cr) | alt (a b : Cr) | ne (t : Cr) | star (t : Cr) (x : Bool) | leaf (s : Str) (r : List D)
def crD : Cr → D
  | .set n ps => .tup [.str "set", .int n, .tup (ps.map pr)]
  | .seq a b => .tup [.str "sequence", crD a, crD b]
  | .alt a b => .tup [.str "choice", crD a, crD b]
  | .ne t => .tup [.str "nonempty", crD t]
  | .star t x => .tup [.str "star", crD t, .bl x]
  | .leaf s r => .tup (.str s :: r)
def Cr.hd : Cr → Str
  | .set _ _ => "set" | .seq _ _ => "sequence" | .alt _ _ => "choice" | .ne _ => "nonempty" | .star _ _ => "star" | .leaf s _ => s
theorem crD_0 {t : Cr} {M : Md} {Q : QE} : ixD (crD t) (.int 0) M Q = Q (.str t.hd) M := by
  cases t <;> exact (ix_tup'.trans atQ_0)
def Cr.ht : Cr → Nat
  | .seq a b => max a.ht b.ht + 1
  | .alt a b => max a.ht b.ht + 1
  | .ne t => t.ht + 1
  | .star t _ => t.ht + 1
  | _ => 0
/-- a leaf of another kind -/
def leafOk (s : Str) (r : List D) : Prop := s ≠ "set" ∧ s ≠ "sequence" ∧ s ≠ "choice" ∧ s ≠ "nonempty" ∧ s ≠ "star" ∧ s.length ≤ sizeLine ∧ r.length ≤ 10 ∧ noRefs r = true ∧ ∀ d ∈ r, Plain 3 d
def Cr.ok : Cr → Prop
  | .set _ ps => ps.length ≤ 100
  | .seq a b => a.ok ∧ b.ok
  | .alt a b => a.ok ∧ b.ok
  | .ne t => t.ok
  | .star t _ => t.ok
  | .leaf s r => leafOk s r
/-- the sets of a core with their rests -/
def coll : Cr → List D → List (D × D)
  | .set _ ps, bh => [(.tup (ps.map pr), .tup bh)]
  | .seq a b, bh => coll a (crD b :: bh) ++ coll b bh
  | .alt a b, bh => coll a bh ++ coll b bh
  | .ne t, bh => coll t bh
  | .star t x, bh => coll t (crD (.star t x) :: bh)
  | .leaf _ _, _ => []
def prD (p : D × D) : D := .tup [p.1, p.2]
theorem prD_eq (p : D × D) : prD p = .tup [p.1, p.2] := rfl
theorem coll_len : ∀ {t : Cr} {bh : List D}, (coll t bh).length ≤ 2 ^ t.ht
  | .set _ _, _ => by show 1 ≤ 2 ^ 0; decide
  | .seq a b, bh => by
    have h1 := coll_len (t := a) (bh := crD b :: bh)
    have h2 := coll_len (t := b) (bh := bh)
    show (coll a (crD b :: bh) ++ coll b bh).length ≤ 2 ^ (max a.ht b.ht + 1)
    rw [List.length_append, Nat.pow_succ]
    have h3 : 2 ^ a.ht ≤ 2 ^ (max a.ht b.ht) := Nat.pow_le_pow_right (by omega) (by omega)
    have h4 : 2 ^ b.ht ≤ 2 ^ (max a.ht b.ht) := Nat.pow_le_pow_right (by omega) (by omega)
    omega
  | .alt a b, bh => by
    have h1 := coll_len (t := a) (bh := bh)
    have h2 := coll_len (t := b) (bh := bh)
    show (coll a bh ++ coll b bh).length ≤ 2 ^ (max a.ht b.ht + 1)
    rw [List.length_append, Nat.pow_succ]
    have h3 : 2 ^ a.ht ≤ 2 ^ (max a.ht b.ht) := Nat.pow_le_pow_right (by omega) (by omega)
    have h4 : 2 ^ b.ht ≤ 2 ^ (max a.ht b.ht) := Nat.pow_le_pow_right (by omega) (by omega)
    omega
  | .ne t, bh => by
    have h1 := coll_len (t := t) (bh := bh)
    show (coll t bh).length ≤ 2 ^ (t.ht + 1)
    rw [Nat.pow_succ]; omega
  | .star t x, bh => by
    have h1 := coll_len (t := t) (bh := crD (.star t x) :: bh)
    show (coll t (crD (.star t x) :: bh)).length ≤ 2 ^ (t.ht + 1)
    rw [Nat.pow_succ]; omega
  | .leaf _ _, _ => Nat.zero_le _
theorem plain_up : ∀ {n : Nat} {d : D}, Plain n d → Plain (n + 1) d
  | 0, _, h => h.elim
  | _ + 1, .non, _ => trivial
  | _ + 1, .bl _, _ => trivial
  | _ + 1, .int _, _ => trivial
  | _ + 1, .str _, h => h
  | _ + 1, .tup _, h => ⟨h.1, fun d hd => plain_up (h.2 d hd)⟩
  | _ + 1, .lst _, h => ⟨h.1, fun d hd => plain_up (h.2 d hd)⟩
  | _ + 1, .scr _, h => h.elim
  | _ + 1, .ref _, h => h.elim
theorem plain_mono {n m : Nat} {d : D} (h : Plain n d) (hm : n ≤ m) : Plain m d := by
  induction hm with
  | refl => exact h
  | step _ ih => exact plain_up ih
theorem plain_str {n : Nat} {s : Str} (h : s.length ≤ sizeLine) : Plain (n + 1) (.str s) := h
theorem plain_cr : ∀ {t : Cr}, t.ok → Plain (t.ht + 4) (crD t)
  | .set n ps, h => by
    have h : ps.length ≤ 100 := h
    refine ⟨by show (3 : Nat) < 2 ^ 62; decide, fun d hd => ?_⟩
    simp only [List.mem_cons, List.not_mem_nil, or_false] at hd
    rcases hd with rfl | rfl | rfl
    · exact plain_str (by decide)
    · trivial
    · exact ⟨by rw [List.length_map]; omega, plain_prs (by omega)⟩
  | .seq a b, h => by
    have h1 := plain_cr h.1
    have h2 := plain_cr h.2
    show Plain ((max a.ht b.ht + 1) + 4) _
    refine ⟨by show (3 : Nat) < 2 ^ 62; decide, fun d hd => ?_⟩
    simp only [List.mem_cons, List.not_mem_nil, or_false] at hd
    rcases hd with rfl | rfl | rfl
    · exact plain_str (by decide)
    · exact plain_mono h1 (by omega)
    · exact plain_mono h2 (by omega)
  | .alt a b, h => by
    have h1 := plain_cr h.1
    have h2 := plain_cr h.2
    show Plain ((max a.ht b.ht + 1) + 4) _
    refine ⟨by show (3 : Nat) < 2 ^ 62; decide, fun d hd => ?_⟩
    simp only [List.mem_cons, List.not_mem_nil, or_false] at hd
    rcases hd with rfl | rfl | rfl
    · exact plain_str (by decide)
    · exact plain_mono h1 (by omega)
    · exact plain_mono h2 (by omega)
  | .ne t, h => by
    have h1 := plain_cr (t := t) h
    show Plain ((t.ht + 1) + 4) _
    refine ⟨by show (2 : Nat) < 2 ^ 62; decide, fun d hd => ?_⟩
    simp only [List.mem_cons, List.not_mem_nil, or_false] at hd
    rcases hd with rfl | rfl
    · exact plain_str (by decide)
    · exact plain_mono h1 (by omega)
  | .star t x, h => by
    have h1 := plain_cr (t := t) h
    show Plain ((t.ht + 1) + 4) _
    refine ⟨by show (3 : Nat) < 2 ^ 62; decide, fun d hd => ?_⟩
    simp only [List.mem_cons, List.not_mem_nil, or_false] at hd
    rcases hd with rfl | rfl | rfl
    · exact plain_str (by decide)
    · exact plain_mono h1 (by omega)
    · trivial
  | .leaf s r, h => by
    obtain ⟨_, _, _, _, _, hs, hr, _, hp⟩ := h
    refine ⟨by show r.length + 1 < 2 ^ 62; omega, fun d hd => ?_⟩
    rcases List.mem_cons.mp hd with rfl | hd
    · exact plain_str hs
    · exact hp d hd
/-- the pairs' parts are plain -/
theorem plain_coll {n : Nat} : ∀ {t : Cr} {bh : List D}, t.ok → t.ht + 4 ≤ n → (∀ d ∈ bh, Plain n d) → bh.length + t.ht ≤ 1000 → ∀ p ∈ coll t bh, Plain n p.1 ∧ Plain (n + 1) p.2
  | .set k ps, bh, ho, hn, hb, hl, p, hp => by
    have ho : ps.length ≤ 100 := ho
    simp only [coll, List.mem_cons, List.not_mem_nil, or_false] at hp
    subst hp
    refine ⟨plain_mono (n := 3) ⟨by rw [List.length_map]; omega, plain_prs (by omega)⟩ (by show 3 ≤ n; omega), ?_⟩
    exact ⟨by omega, hb⟩
  | .seq a b, bh, ho, hn, hb, hl, p, hp => by
    have hn : max a.ht b.ht + 1 + 4 ≤ n := hn
    have hl : bh.length + (max a.ht b.ht + 1) ≤ 1000 := hl
    rcases List.mem_append.mp hp with hp | hp
    · refine plain_coll ho.1 (by omega) (fun d hd => ?_) (by rw [List.length_cons]; omega) p hp
      rcases List.mem_cons.mp hd with rfl | hd
      · exact plain_mono (plain_cr ho.2) (by omega)
      · exact hb d hd
    · exact plain_coll ho.2 (by omega) hb (by omega) p hp
  | .alt a b, bh, ho, hn, hb, hl, p, hp => by
    have hn : max a.ht b.ht + 1 + 4 ≤ n := hn
    have hl : bh.length + (max a.ht b.ht + 1) ≤ 1000 := hl
    rcases List.mem_append.mp hp with hp | hp
    · exact plain_coll ho.1 (by omega) hb (by omega) p hp
    · exact plain_coll ho.2 (by omega) hb (by omega) p hp
  | .ne t, bh, ho, hn, hb, hl, p, hp => by
    have hn : t.ht + 1 + 4 ≤ n := hn
    have hl : bh.length + (t.ht + 1) ≤ 1000 := hl
    exact plain_coll (t := t) ho (by omega) hb (by omega) p hp
  | .star t x, bh, ho, hn, hb, hl, p, hp => by
    have hn2 : t.ht + 1 + 4 ≤ n := hn
    have hl : bh.length + (t.ht + 1) ≤ 1000 := hl
    refine plain_coll (t := t) ho (by omega) (fun d hd => ?_) (by rw [List.length_cons]; omega) p hp
    rcases List.mem_cons.mp hd with rfl | hd
    · exact plain_mono (plain_cr (t := .star t x) ho) hn
    · exact hb d hd
  | .leaf _ _, bh, _, _, _, _, p, hp => by cases hp
theorem set_same {M : Md} {k : Nat} {m : MO} (h : M[k]? = some m) : M.set k m = M := by
  obtain ⟨h1, h2⟩ := List.getElem?_eq_some_iff.mp h
  rw [← h2]
  exact List.set_getElem_self h1
/-- what collect and the law's own walk promise -/
def spColl (n : Nat) : SpD := fun ds M Q _ => ∃ (t : Cr) (bh : List D) (k : Nat) (acc : List (D × D)), ds = [crD t, .tup bh, .ref k] ∧ M[k]? = some (.lst (acc.map prD)) ∧ t.ht < n ∧ t.ok ∧ bh.length + t.ht ≤ 1000 ∧ acc.length + (coll t bh).length ≤ 100000 ∧
  Q .non (M.set k (.lst ((acc ++ coll t bh).map prD)))
theorem lnColl (n : Nat) : ∀ ds M Q E, spColl n ds M Q E → ds.length = 3 := by
  rintro _ _ _ _ ⟨_, _, _, _, rfl, _⟩; rfl
theorem zColl : ∀ ds M Q E, spColl 0 ds M Q E → False := by
  rintro _ _ _ _ ⟨_, _, _, _, _, _, h, _⟩; omega
theorem noRef_cr : ∀ {t : Cr}, t.ok → noRef (crD t) = true
  | .set n ps, _ => by
    show (true && (true && (noRefs (ps.map pr) && true))) = true
    rw [noRefs_pr]; rfl
  | .seq a b, h => by
    show (true && (noRef (crD a) && (noRef (crD b) && true))) = true
    rw [noRef_cr h.1, noRef_cr h.2]; rfl
  | .alt a b, h => by
    show (true && (noRef (crD a) && (noRef (crD b) && true))) = true
    rw [noRef_cr h.1, noRef_cr h.2]; rfl
  | .ne t, h => by
    show (true && (noRef (crD t) && true)) = true
    rw [noRef_cr (t := t) h]; rfl
  | .star t x, h => by
    show (true && (noRef (crD t) && (true && true))) = true
    rw [noRef_cr (t := t) h]; rfl
  | .leaf s r, h => by
    show (true && noRefs r) = true
    rw [h.2.2.2.2.2.2.2.1]; rfl
theorem noRef_coll : ∀ {t : Cr} {bh : List D}, t.ok → noRefs bh = true → ∀ p ∈ coll t bh, noRef p.1 = true ∧ noRef p.2 = true
  | .set k ps, bh, _, hb, p, hp => by
    simp only [coll, List.mem_cons, List.not_mem_nil, or_false] at hp
    subst hp
    exact ⟨noRefs_pr ps, hb⟩
  | .seq a b, bh, ho, hb, p, hp => by
    rcases List.mem_append.mp hp with hp | hp
    · refine noRef_coll ho.1 ?_ p hp
      show (noRef (crD b) && noRefs bh) = true
      rw [noRef_cr ho.2, hb]; rfl
    · exact noRef_coll ho.2 hb p hp
  | .alt a b, bh, ho, hb, p, hp => by
    rcases List.mem_append.mp hp with hp | hp
    · exact noRef_coll ho.1 hb p hp
    · exact noRef_coll ho.2 hb p hp
  | .ne t, bh, ho, hb, p, hp => noRef_coll (t := t) ho hb p hp
  | .star t x, bh, ho, hb, p, hp => by
    refine noRef_coll (t := t) ho ?_ p hp
    show (noRef (crD (.star t x)) && noRefs bh) = true
    rw [noRef_cr (t := .star t x) ho, hb]; rfl
  | .leaf _ _, _, _, _, p, hp => by cases hp
/-- a field that stands -/
theorem fld_at {c : Str} {k : Nat} {fs : List (Str × D)} {f : Str} {d : D} {M : Md} {Q : QE} (h : M[k]? = some (.ins c fs)) (hl : fs.lookup f = some d) : fldD c f (.ref k) M Q = Q d M := by
  simp only [fldD, h, hl, true_and]
theorem setF_at {c : Str} {k : Nat} {fs : List (Str × D)} {f : Str} {d : D} {M : Md} {Q : Md → Prop} (h : M[k]? = some (.ins c fs)) (hn : fs.length < 1000) (q : Q (M.set k (.ins c (putFD f d fs)))) : setFD c f (.ref k) d M Q := by
  simp only [setFD, h, true_and]
  exact ⟨hn, q⟩

/-! def 13: contains; slots 0:a 1:code 2:low 3:high; calls []; consts []; built-ins [] -/
def c13_3 : CSs := .cons (.ret (.bl true)) .nil
def c13_2 : CSs := .cons (.ifs (.chain .le .lt (.var 2) (.var 1) (.var 3)) c13_3 .nil) .nil
def c13_1 : CSs := .cons (.ret (.bl false)) .nil
def c13 : CSs := .cons (.fors (.tp [2, 3]) (.seq (.var 0)) c13_2) c13_1
def sp13 : SpD := fun ds M Q _ => ∃ (c : D) (x : Int) (ps : List (Int × Int)), ds = [c, .int x] ∧ seqOf c M = some (ps.map pr) ∧ Q (.bl (inP ps x)) M
theorem ln13 : ∀ ds M Q E, sp13 ds M Q E → ds.length = 2 := by
  rintro _ _ _ _ ⟨_, _, _, rfl, _⟩; rfl
theorem rd13 {Φ : Nat → SpD} {κ : Nat → D} : RdOk Φ κ c13 4 sp13 := by
  rintro ds M Q E hM hd ⟨c, x, ps, rfl, hc, hQ⟩
  rw [c13]; walk_at "rd"
  rw [walkS hc]
  refine loop_list (fun rem σ M' => M' = M ∧ ∃ y z qs, σ = [some c, some (.int x), y, z] ∧ rem = qs.map pr ∧ inP ps x = inP qs x) ?_ ?_ ?_ _ _ _ ⟨rfl, _, _, ps, rfl, rfl, rfl⟩
  · rintro _ _ _ ⟨rfl, _⟩; exact lkS hc
  · rintro d rem σ M' nx ⟨rfl, y, z, qs, rfl, he, hi⟩ hn
    obtain ⟨q, qs, rfl, rfl, rfl⟩ : ∃ q qs', qs = q :: qs' ∧ d = pr q ∧ rem = qs'.map pr := by
      cases qs with
      | nil => cases he
      | cons q qs => cases he; exact ⟨q, qs, rfl, rfl, rfl⟩
    rw [pr_eq]; walk_at "rd"
    rw [c13_2]; walk_at "rd"
    have no : ¬ (q.1 ≤ x ∧ x < q.2) → inP ps x = inP qs x := fun h => by
      rw [hi, Bool.eq_iff_iff, inP_cons]
      exact ⟨fun z => z.resolve_left h, .inr⟩
    split
    · split
      · rw [c13_3]; walk_at "rd"
        rw [hi, inP_cons.mpr (.inl ⟨by assumption, by assumption⟩)] at hQ
        exact .keep hQ
      · exact hn _ _ ⟨rfl, _, _, qs, rfl, rfl, no (by omega)⟩
    · exact hn _ _ ⟨rfl, _, _, qs, rfl, rfl, no (by omega)⟩
  · rintro σ M' ⟨rfl, y, z, qs, rfl, he, hi⟩
    dsimp only; rw [nxt_eq, c13_1]; walk_at "rd"
    cases qs with
    | nil => rw [hi, inP_nil] at hQ; exact .keep hQ
    | cons q qs => cases he

/-! def 23: is_in; slots 0:codes 1:code; calls [('contains', 13)]; consts []; built-ins [] -/
def c23 : CSs := .cons (.ret (.and (.cmp .notN (.var 1) .non) (.call 13 (.cons (.var 0) (.cons (.var 1) .nil))))) .nil
def sp23 : SpD := fun ds M Q _ => ∃ (c : D) (x : Option Int) (ps : List (Int × Int)), ds = [c, oD x] ∧ seqOf c M = some (ps.map pr) ∧ Q (.bl (isIn ps x)) M
theorem ln23 : ∀ ds M Q E, sp23 ds M Q E → ds.length = 2 := by
  rintro _ _ _ _ ⟨_, _, _, rfl, _⟩; rfl
theorem rd23 {Φ : Nat → SpD} {κ : Nat → D} (h13 : Φ 13 = sp13) : RdOk Φ κ c23 2 sp23 := by
  rintro ds M Q E hM hd ⟨c, x, ps, rfl, hc, hQ⟩
  rw [c23]
  cases x with
  | none =>
    unfold oD; walk_at "rd"
    exact .keep hQ
  | some i =>
    unfold oD; walk_at "rd"
    rw [h13]
    exact ⟨c, i, ps, rfl, hc, .keep hQ⟩

/-! def 24: anchor_holds; slots 0:name 1:before 2:after 3:differs; calls [('is_in', 23)]; consts [('LINE_ENDS', 2), ('WORD', 4)]; built-ins [] -/
def c24_6 : CSs := .cons (.ret (.cmp .isN (.var 1) .non)) .nil
def c24_7 : CSs := .cons (.ret (.cmp .isN (.var 2) .non)) .nil
def c24_8 : CSs := .cons (.ret (.or (.cmp .isN (.var 1) .non) (.call 23 (.cons (.glob 2) (.cons (.var 1) .nil))))) .nil
def c24_9 : CSs := .cons (.ret (.or (.cmp .isN (.var 2) .non) (.call 23 (.cons (.glob 2) (.cons (.var 2) .nil))))) .nil
def c24_5 : CSs := .cons (.ret (.cmp .eq (.var 3) (.cmp .eq (.var 0) (.str "word_boundary")))) .nil
def c24_4 : CSs := .cons (.set 3 (.cmp .ne (.call 23 (.cons (.glob 4) (.cons (.var 1) .nil))) (.call 23 (.cons (.glob 4) (.cons (.var 2) .nil))))) c24_5
def c24_3 : CSs := .cons (.ifs (.cmp .eq (.var 0) (.str "line_end")) c24_9 .nil) c24_4
def c24_2 : CSs := .cons (.ifs (.cmp .eq (.var 0) (.str "line_start")) c24_8 .nil) c24_3
def c24_1 : CSs := .cons (.ifs (.cmp .eq (.var 0) (.str "text_end")) c24_7 .nil) c24_2
def c24 : CSs := .cons (.ifs (.cmp .eq (.var 0) (.str "text_start")) c24_6 .nil) c24_1
def endsR : List (Int × Int) := [(10, 11), (13, 14)]
def wordR : List (Int × Int) := [(48, 58), (65, 91), (95, 96), (97, 123)]
def anch (s : Str) (b a : Option Int) : Bool :=
  if s = "text_start" then b.isNone else if s = "text_end" then a.isNone else if s = "line_start" then b.isNone || isIn endsR b else if s = "line_end" then a.isNone || isIn endsR a
  else decide (decide (isIn wordR b = isIn wordR a) = !decide (s = "word_boundary"))
def sp24 : SpD := fun ds M Q _ => ∃ (s : Str) (b a : Option Int), ds = [.str s, oD b, oD a] ∧ Q (.bl (anch s b a)) M
theorem ln24 : ∀ ds M Q E, sp24 ds M Q E → ds.length = 3 := by
  rintro _ _ _ _ ⟨_, _, _, rfl, _⟩; rfl
theorem isNon_oD {x : Option Int} : isNon (oD x) = x.isNone := by cases x <;> rfl
theorem rd24 {Φ : Nat → SpD} {κ : Nat → D} (h23 : Φ 23 = sp23) (hk2 : κ 2 = k2) (hk4 : κ 4 = k4) : RdOk Φ κ c24 4 sp24 := by
  rintro ds M Q E hM hd ⟨s, b, a, rfl, hQ⟩
  unfold anch at hQ
  rw [c24]; walk_at "rd"
  split
  · next h =>
    rw [if_pos h] at hQ
    rw [c24_6]; walk_at "rd"
    rw [isNon_oD]
    exact .keep hQ
  · next h =>
    rw [if_neg h] at hQ
    rw [nxt_eq, c24_1]; walk_at "rd"
    split
    · next h =>
      rw [if_pos h] at hQ
      rw [c24_7]; walk_at "rd"
      rw [isNon_oD]
      exact .keep hQ
    · next h =>
      rw [if_neg h] at hQ
      rw [nxt_eq, c24_2]; walk_at "rd"
      split
      · next h =>
        rw [if_pos h] at hQ
        rw [c24_8]; walk_at "rd"
        rw [isNon_oD]
        split
        · next z => rw [z, Bool.true_or] at hQ; rw [z]; exact .keep hQ
        · next z =>
          rw [Bool.not_eq_true] at z
          rw [z, Bool.false_or] at hQ
          rw [h23, hk2]
          exact ⟨_, b, endsR, rfl, rfl, .keep hQ⟩
      · next h =>
        rw [if_neg h] at hQ
        rw [nxt_eq, c24_3]; walk_at "rd"
        split
        · next h =>
          rw [if_pos h] at hQ
          rw [c24_9]; walk_at "rd"
          rw [isNon_oD]
          split
          · next z => rw [z, Bool.true_or] at hQ; rw [z]; exact .keep hQ
          · next z =>
            rw [Bool.not_eq_true] at z
            rw [z, Bool.false_or] at hQ
            rw [h23, hk2]
            exact ⟨_, a, endsR, rfl, rfl, .keep hQ⟩
        · next h =>
          rw [if_neg h] at hQ
          rw [nxt_eq, c24_4]; walk_at "rd"
          rw [h23, hk4]
          refine ⟨_, b, wordR, rfl, rfl, ?_⟩
          refine ⟨_, a, wordR, rfl, rfl, ?_⟩
          walk_at "rd"
          rw [nxt_eq, c24_5]; walk_at "rd"
          exact .keep hQ

/-! core trees in full, registers, moves -/
inductive Co where
  | set (n : Nat) (ps : List (Int × Int)) | opn (g : Nat) | cls (g : Nat) | fgt (gs ms : List Nat) | bit (k : Nat) (b : Bool) | anc (s : Str) | emp
  | seq (a b : Co) | alt (a b : Co) | ne (a : Co) | star (a : Co) (g : Bool)
def nats (l : List Nat) : D := .tup (l.map fun k : Nat => D.int k)
def coD : Co → D
  | .set n ps => .tup [.str "set", .int n, .tup (ps.map pr)]
  | .opn g => .tup [.str "open", .int g]
  | .cls g => .tup [.str "close", .int g]
  | .fgt gs ms => .tup [.str "forget", nats gs, nats ms]
  | .bit k b => .tup [.str "bit", .int k, .bl b]
  | .anc s => .tup [.str "anchor", .str s]
  | .emp => .tup [.str "empty"]
  | .seq a b => .tup [.str "sequence", coD a, coD b]
  | .alt a b => .tup [.str "choice", coD a, coD b]
  | .ne a => .tup [.str "nonempty", coD a]
  | .star a g => .tup [.str "star", coD a, .bl g]
def Co.cr : Co → Cr
  | .set n ps => .set n ps
  | .opn g => .leaf "open" [.int g]
  | .cls g => .leaf "close" [.int g]
  | .fgt gs ms => .leaf "forget" [nats gs, nats ms]
  | .bit k b => .leaf "bit" [.int k, .bl b]
  | .anc s => .leaf "anchor" [.str s]
  | .emp => .leaf "empty" []
  | .seq a b => .seq a.cr b.cr
  | .alt a b => .alt a.cr b.cr
  | .ne a => .ne a.cr
  | .star a g => .star a.cr g
theorem coD_cr : ∀ t : Co, crD t.cr = coD t
  | .set _ _ | .opn _ | .cls _ | .fgt _ _ | .bit _ _ | .anc _ | .emp => rfl
  | .seq a b => by simp only [Co.cr, crD, coD, coD_cr a, coD_cr b]
  | .alt a b => by simp only [Co.cr, crD, coD, coD_cr a, coD_cr b]
  | .ne a => by simp only [Co.cr, crD, coD, coD_cr a]
  | .star a g => by simp only [Co.cr, crD, coD, coD_cr a]
def Co.ht : Co → Nat
  | .seq a b => max a.ht b.ht + 1
  | .alt a b => max a.ht b.ht + 1
  | .ne t => t.ht + 1
  | .star t _ => t.ht + 1
  | _ => 0
theorem co_ht : ∀ t : Co, t.cr.ht = t.ht
  | .set _ _ | .opn _ | .cls _ | .fgt _ _ | .bit _ _ | .anc _ | .emp => rfl
  | .seq a b => by simp only [Co.cr, Cr.ht, Co.ht, co_ht a, co_ht b]
  | .alt a b => by simp only [Co.cr, Cr.ht, Co.ht, co_ht a, co_ht b]
  | .ne a => by simp only [Co.cr, Cr.ht, Co.ht, co_ht a]
  | .star a g => by simp only [Co.cr, Cr.ht, Co.ht, co_ht a]
/-- opened, held, marks -/
abbrev Rgs := List (Option Int) × List (Option (Int × Int)) × List (Option Int)
def gpD : Option (Int × Int) → D
  | none => .non
  | some p => pr p
def rg1 (r : Rgs) : D := .tup [.tup (r.1.map oD), .tup (r.2.1.map gpD), .tup (r.2.2.map oD)]
def rgD : Option Rgs → D
  | none => .non
  | some r => rg1 r
def onD : Option Nat → D
  | none => .non
  | some n => .int n
abbrev Mv := Option Nat × Option Rgs
def mvD (m : Mv) : D := .tup [onD m.1, rgD m.2]
theorem mvD_eq (m : Mv) : mvD m = .tup [onD m.1, rgD m.2] := rfl
/-- the first of each number -/
def foe (seen : List (Option Nat)) : List Mv → List Mv
  | [] => []
  | m :: ms => if m.1 ∈ seen then foe seen ms else m :: foe (m.1 :: seen) ms
structure Sp where
  pos : Int
  bf : Option Int
  af : Option Int
  bits : List Bool
def spotD (s : Sp) : D := .obj "Spot" ["position", "before", "after", "bits"] [.int s.pos, oD s.bf, oD s.af, .tup (s.bits.map .bl)]
def putN {α : Type} (l : List (Option α)) (n : Nat) (v : Option α) : List (Option α) := l.set n v
def wipeN {α : Type} (l : List (Option α)) : List Nat → List (Option α)
  | [] => l
  | n :: ns => wipeN (l.set n none) ns
theorem wipeN_len {α : Type} : ∀ {ns : List Nat} {l : List (Option α)}, (wipeN l ns).length = l.length
  | [], _ => rfl
  | n :: ns, l => by rw [wipeN, wipeN_len, List.length_set]
/-- what a core that takes nothing leaves -/
def notedR (pos : Int) : Co → Rgs → Option Rgs
  | .opn g, (o, h, m) => some (o.set g (some pos), h, m)
  | .cls g, (o, h, m) => match o[g]? with
    | some (some st) => some (o, h.set g (some (if pos < st then pos else st, if pos > st then pos else st)), m)
    | _ => none
  | .fgt gs ms, (o, h, m) => some (o, wipeN h gs, wipeN m ms)
  | .bit k true, (o, h, m) => some (o, h, m.set k (some pos))
  | _, r => some r
def passB (s : Sp) : Co → Bool
  | .bit k b => s.bits[k]? == some b
  | .anc a => anch a s.bf s.af
  | _ => true
def noteO (pos : Int) (t : Co) : Option Rgs → Option (Option Rgs)
  | none => some none
  | some r => (notedR pos t r).map some
/-- numbers of groups and looks in range -/
def Co.fit (g l : Nat) : Co → Prop
  | .opn k => k < g
  | .cls k => k < g
  | .fgt gs ms => (∀ k ∈ gs, k < g) ∧ ∀ k ∈ ms, k < l
  | .bit k _ => k < l
  | .seq a b => a.fit g l ∧ b.fit g l
  | .alt a b => a.fit g l ∧ b.fit g l
  | .ne a => a.fit g l
  | .star a _ => a.fit g l
  | _ => True
def Rgs.fit (g l : Nat) (r : Rgs) : Prop := r.1.length = g ∧ r.2.1.length = g ∧ r.2.2.length = l
def rgFit (g l : Nat) : Option Rgs → Prop
  | none => True
  | some r => Rgs.fit g l r
theorem notedR_fit {g l : Nat} {pos : Int} {t : Co} {r r' : Rgs} (hr : Rgs.fit g l r) (h : notedR pos t r = some r') : Rgs.fit g l r' := by
  unfold notedR at h
  obtain ⟨h1, h2, h3⟩ := hr
  split at h
  · cases h; exact ⟨by simpa using h1, h2, h3⟩
  · split at h
    · cases h; exact ⟨h1, by simpa using h2, h3⟩
    · cases h
  · cases h; exact ⟨h1, by simpa [wipeN_len] using h2, by simpa [wipeN_len] using h3⟩
  · cases h; exact ⟨h1, h2, by simpa using h3⟩
  · cases h; exact ⟨h1, h2, h3⟩
theorem noteO_fit {g l : Nat} {pos : Int} {t : Co} {r x : Option Rgs} (hr : rgFit g l r) (h : noteO pos t r = some x) : rgFit g l x := by
  cases r with
  | none => cases h; trivial
  | some r =>
    unfold noteO at h
    obtain ⟨q, hq, e⟩ := Option.map_eq_some_iff.mp h
    subst e
    exact notedR_fit hr hq
/-- the moves behind others -/
def spl (f : Option Rgs → Option (List Mv)) : List Mv → Option (List Mv)
  | [] => some []
  | m :: ms => match m.1 with
    | none => match f m.2, spl f ms with
      | some a, some b => some (a ++ b)
      | _, _ => none
    | some _ => (spl f ms).map (m :: ·)
def tks (ms : List Mv) : List Mv := ms.filter fun m => m.1.isSome
/-- the moves of a core tree; none: an error -/
def mv (s : Sp) : Co → Option Rgs → Option (List Mv)
  | .set n _, r => some [(some n, r)]
  | .seq a b, r => ((mv s a r).bind (spl (mv s b))).map (foe [])
  | .alt a b, r => match mv s a r, mv s b r with
    | some x, some y => some (foe [] (x ++ y))
    | _, _ => none
  | .ne a, r => (mv s a r).map tks
  | .star a g, r => (mv s a r).map fun x => if g then tks x ++ [(none, r)] else (none, r) :: tks x
  | t, r => if passB s t then (noteO s.pos t r).map fun q => [(none, q)] else some []
/-- at most one end -/
def ends1 (ms : List Mv) : Prop := (ms.filter fun m => m.1.isNone).length ≤ 1
def Co.sz : Co → Nat
  | .seq a b => a.sz + b.sz
  | .alt a b => a.sz + b.sz
  | .ne a => a.sz
  | .star a _ => a.sz + 1
  | _ => 1
theorem foe_sub : ∀ {ms : List Mv} {seen : List (Option Nat)}, (foe seen ms).length ≤ ms.length
  | [], _ => Nat.le_refl _
  | m :: ms, seen => by
    unfold foe
    split
    · exact Nat.le_succ_of_le foe_sub
    · exact Nat.succ_le_succ foe_sub
theorem foe_ends : ∀ {ms : List Mv} {seen : List (Option Nat)}, ((foe seen ms).filter fun m => m.1.isNone).length ≤ if none ∈ seen then 0 else 1
  | [], _ => by simp [foe]
  | m :: ms, seen => by
    unfold foe
    split
    · exact foe_ends
    · next hm =>
      have ih := foe_ends (ms := ms) (seen := m.1 :: seen)
      cases e : m.1 with
      | none =>
        rw [e] at ih hm
        rw [List.filter_cons]
        simp only [e, Option.isNone_none, if_true, List.length_cons]
        rw [if_pos (by simp)] at ih
        rw [if_neg hm]
        omega
      | some n =>
        rw [e] at ih
        rw [List.filter_cons]
        simp only [e, Option.isNone_some, Bool.false_eq_true, if_false]
        refine Nat.le_trans ih ?_
        by_cases h : none ∈ seen
        · rw [if_pos h, if_pos (by simp [h])]; exact Nat.le_refl _
        · rw [if_neg h, if_neg (by simp [h])]; exact Nat.le_refl _
theorem tks_ends {ms : List Mv} : ((tks ms).filter fun m => m.1.isNone).length = 0 := by
  unfold tks
  rw [List.filter_filter, List.length_eq_zero_iff, List.filter_eq_nil_iff]
  intro m _
  cases m.1 <;> simp
theorem tks_len {ms : List Mv} : (tks ms).length ≤ ms.length := List.length_filter_le _ _
theorem spl_len {f : Option Rgs → Option (List Mv)} {k : Nat} (hf : ∀ r x, f r = some x → x.length ≤ k) : ∀ {ms x : List Mv}, spl f ms = some x → x.length ≤ ms.length + (ms.filter fun m => m.1.isNone).length * k
  | [], _, h => by cases h; exact Nat.zero_le _
  | m :: ms, x, h => by
    unfold spl at h
    split at h
    · next hm =>
      split at h
      · next a b ha hb =>
        cases h
        have := spl_len hf hb
        have := hf _ _ ha
        rw [List.filter_cons]
        simp only [hm, Option.isNone_none, if_true, List.length_cons, List.length_append, Nat.add_mul]
        omega
      · cases h
    · next hm =>
      obtain ⟨y, hy, e⟩ := Option.map_eq_some_iff.mp h
      subst e
      have := spl_len hf hy
      rw [List.filter_cons]
      simp only [hm, Option.isNone_some, Bool.false_eq_true, if_false, List.length_cons]
      omega
theorem mv_len {s : Sp} : ∀ {t : Co} {r : Option Rgs} {x : List Mv}, mv s t r = some x → x.length ≤ t.sz ∧ ends1 x
  | .set n ps, r, x, h => by cases h; exact ⟨Nat.le_refl _, by simp [ends1]⟩
  | .seq a b, r, x, h => by
    obtain ⟨y, hy, e⟩ := Option.map_eq_some_iff.mp h
    obtain ⟨z, hz, hy⟩ := Option.bind_eq_some_iff.mp hy
    subst e
    obtain ⟨l1, e1⟩ := mv_len hz
    have l2 := spl_len (k := b.sz) (fun r x h => (mv_len h).1) hy
    unfold ends1 at e1
    refine ⟨Nat.le_trans foe_sub (Nat.le_trans l2 ?_), ?_⟩
    · show _ ≤ a.sz + b.sz
      have : (z.filter fun m => m.1.isNone).length * b.sz ≤ 1 * b.sz := Nat.mul_le_mul_right _ e1
      omega
    · have := foe_ends (ms := y) (seen := [])
      rw [if_neg (by simp)] at this
      exact this
  | .alt a b, r, x, h => by
    unfold mv at h
    split at h
    · next y z hy hz =>
      cases h
      have l1 := (mv_len hy).1
      have l2 := (mv_len hz).1
      refine ⟨Nat.le_trans foe_sub ?_, ?_⟩
      · rw [List.length_append]; show _ ≤ a.sz + b.sz; omega
      · have := foe_ends (ms := y ++ z) (seen := [])
        rw [if_neg (by simp)] at this
        exact this
    · cases h
  | .ne a, r, x, h => by
    obtain ⟨y, hy, e⟩ := Option.map_eq_some_iff.mp h
    subst e
    refine ⟨Nat.le_trans tks_len (mv_len hy).1, ?_⟩
    unfold ends1
    rw [tks_ends]; omega
  | .star a g, r, x, h => by
    obtain ⟨y, hy, e⟩ := Option.map_eq_some_iff.mp h
    subst e
    have := (mv_len hy).1
    have h2 := tks_len (ms := y)
    unfold ends1
    cases g
    · refine ⟨by show (tks y).length + 1 ≤ a.sz + 1; omega, ?_⟩
      simp [List.filter_cons, tks_ends]
    · refine ⟨by simp; show (tks y).length + 1 ≤ a.sz + 1; omega, ?_⟩
      simp [tks_ends]
  | .opn _, r, x, h | .cls _, r, x, h | .fgt _ _, r, x, h | .bit _ _, r, x, h | .anc _, r, x, h | .emp, r, x, h => by
    unfold mv at h
    split at h
    · obtain ⟨y, hy, e⟩ := Option.map_eq_some_iff.mp h
      subst e
      exact ⟨Nat.le_refl _, by simp [ends1]⟩
    · cases h
      exact ⟨Nat.zero_le _, by simp [ends1]⟩
/-- registers stay in form -/
def mvsFit (g l : Nat) (ms : List Mv) : Prop := ∀ m ∈ ms, rgFit g l m.2
theorem foe_mem : ∀ {ms : List Mv} {seen : List (Option Nat)} {m : Mv}, m ∈ foe seen ms → m ∈ ms
  | x :: ms, seen, m, h => by
    unfold foe at h
    split at h
    · exact List.mem_cons_of_mem _ (foe_mem h)
    · rcases List.mem_cons.mp h with h | h
      · rw [h]; exact List.mem_cons_self
      · exact List.mem_cons_of_mem _ (foe_mem h)
theorem tks_mem {ms : List Mv} {m : Mv} (h : m ∈ tks ms) : m ∈ ms := (List.mem_filter.mp h).1
theorem spl_fit {g l : Nat} {f : Option Rgs → Option (List Mv)} (hf : ∀ r x, rgFit g l r → f r = some x → mvsFit g l x) : ∀ {ms x : List Mv}, mvsFit g l ms → spl f ms = some x → mvsFit g l x
  | [], _, _, h => by cases h; intro m hm; cases hm
  | m :: ms, x, hm, h => by
    have hm2 : mvsFit g l ms := fun y hy => hm y (List.mem_cons_of_mem _ hy)
    unfold spl at h
    split at h
    · split at h
      · next a b ha hb =>
        cases h
        intro y hy
        rcases List.mem_append.mp hy with hy | hy
        · exact hf _ _ (hm m List.mem_cons_self) ha y hy
        · exact spl_fit hf hm2 hb y hy
      · cases h
    · obtain ⟨z, hz, e⟩ := Option.map_eq_some_iff.mp h
      subst e
      intro y hy
      rcases List.mem_cons.mp hy with hy | hy
      · rw [hy]; exact hm m List.mem_cons_self
      · exact spl_fit hf hm2 hz y hy
theorem mv_fit {g l : Nat} {s : Sp} : ∀ {t : Co} {r : Option Rgs} {x : List Mv}, rgFit g l r → mv s t r = some x → mvsFit g l x
  | .set n ps, r, x, hr, h => by cases h; intro m hm; simp at hm; subst hm; exact hr
  | .seq a b, r, x, hr, h => by
    obtain ⟨y, hy, e⟩ := Option.map_eq_some_iff.mp h
    obtain ⟨z, hz, hy⟩ := Option.bind_eq_some_iff.mp hy
    subst e
    have := spl_fit (fun r x hr h => mv_fit hr h) (mv_fit hr hz) hy
    exact fun m hm => this m (foe_mem hm)
  | .alt a b, r, x, hr, h => by
    unfold mv at h
    split at h
    · next y z hy hz =>
      cases h
      intro m hm
      rcases List.mem_append.mp (foe_mem hm) with hm | hm
      · exact mv_fit hr hy m hm
      · exact mv_fit hr hz m hm
    · cases h
  | .ne a, r, x, hr, h => by
    obtain ⟨y, hy, e⟩ := Option.map_eq_some_iff.mp h
    subst e
    exact fun m hm => mv_fit hr hy m (tks_mem hm)
  | .star a g, r, x, hr, h => by
    obtain ⟨y, hy, e⟩ := Option.map_eq_some_iff.mp h
    subst e
    intro m hm
    cases g
    · simp at hm
      rcases hm with hm | hm
      · subst hm; exact hr
      · exact mv_fit hr hy m (tks_mem hm)
    · simp at hm
      rcases hm with hm | hm
      · exact mv_fit hr hy m (tks_mem hm)
      · subst hm; exact hr
  | .opn _, r, x, hr, h | .cls _, r, x, hr, h | .fgt _ _, r, x, hr, h | .bit _ _, r, x, hr, h | .anc _, r, x, hr, h | .emp, r, x, hr, h => by
    unfold mv at h
    split at h
    · obtain ⟨y, hy, e⟩ := Option.map_eq_some_iff.mp h
      subst e
      intro m hm
      simp at hm
      subst hm
      exact noteO_fit hr hy
    · cases h
      intro m hm; cases hm

/-! def 521: collect; slots 0:tree 1:behind 2:found 3:kind; calls [('collect', 521)]; consts []; built-ins [] -/
abbrev c521_2 : CSs := .cons (.expr (.mth .append (.var 2) (.cons (.tup (.cons (.idx (.var 0) (.int 2)) (.cons (.var 1) .nil))) .nil))) .nil
abbrev c521_5 : CSs := .cons (.expr (.call 521 (.cons (.idx (.var 0) (.int 2)) (.cons (.var 1) (.cons (.var 2) .nil))))) .nil
abbrev c521_4 : CSs := .cons (.expr (.call 521 (.cons (.idx (.var 0) (.int 1)) (.cons (.bin .add (.tup (.cons (.idx (.var 0) (.int 2)) .nil)) (.var 1)) (.cons (.var 2) .nil))))) c521_5
abbrev c521_8 : CSs := .cons (.expr (.call 521 (.cons (.idx (.var 0) (.int 2)) (.cons (.var 1) (.cons (.var 2) .nil))))) .nil
abbrev c521_7 : CSs := .cons (.expr (.call 521 (.cons (.idx (.var 0) (.int 1)) (.cons (.var 1) (.cons (.var 2) .nil))))) c521_8
abbrev c521_10 : CSs := .cons (.expr (.call 521 (.cons (.idx (.var 0) (.int 1)) (.cons (.var 1) (.cons (.var 2) .nil))))) .nil
abbrev c521_12 : CSs := .cons (.expr (.call 521 (.cons (.idx (.var 0) (.int 1)) (.cons (.bin .add (.tup (.cons (.var 0) .nil)) (.var 1)) (.cons (.var 2) .nil))))) .nil
abbrev c521_11 : CSs := .cons (.ifs (.cmp .eq (.var 3) (.str "star")) c521_12 .nil) .nil
abbrev c521_9 : CSs := .cons (.ifs (.cmp .eq (.var 3) (.str "nonempty")) c521_10 c521_11) .nil
abbrev c521_6 : CSs := .cons (.ifs (.cmp .eq (.var 3) (.str "choice")) c521_7 c521_9) .nil
abbrev c521_3 : CSs := .cons (.ifs (.cmp .eq (.var 3) (.str "sequence")) c521_4 c521_6) .nil
abbrev c521_1 : CSs := .cons (.ifs (.cmp .eq (.var 3) (.str "set")) c521_2 c521_3) .nil
abbrev c521 : CSs := .cons (.set 3 (.idx (.var 0) (.int 0))) c521_1
/-- the sets of a core tree: their numbers, codes, rests -/
def collT : Co → List Co → List (Nat × List (Int × Int) × List Co)
  | .set n ps, bh => [(n, ps, bh)]
  | .seq a b, bh => collT a (b :: bh) ++ collT b bh
  | .alt a b, bh => collT a bh ++ collT b bh
  | .ne a, bh => collT a bh
  | .star a g, bh => collT a (.star a g :: bh)
  | _, _ => []
theorem collT_len : ∀ {t : Co} {bh : List Co}, (collT t bh).length ≤ t.sz
  | .set _ _, _ => Nat.le_refl _
  | .seq a b, bh => by
    have h1 := collT_len (t := a) (bh := b :: bh)
    have h2 := collT_len (t := b) (bh := bh)
    show (collT a (b :: bh) ++ collT b bh).length ≤ a.sz + b.sz
    rw [List.length_append]; omega
  | .alt a b, bh => by
    have h1 := collT_len (t := a) (bh := bh)
    have h2 := collT_len (t := b) (bh := bh)
    show (collT a bh ++ collT b bh).length ≤ a.sz + b.sz
    rw [List.length_append]; omega
  | .ne a, bh => collT_len (t := a) (bh := bh)
  | .star a g, bh => Nat.le_succ_of_le (collT_len (t := a) (bh := .star a g :: bh))
  | .opn _, _ | .cls _, _ | .fgt _ _, _ | .bit _ _, _ | .anc _, _ | .emp, _ => Nat.zero_le _
def cdD (ps : List (Int × Int)) : D := .tup (ps.map pr)
def rsD' (bh : List Co) : D := .tup (bh.map coD)
def clD (p : Nat × List (Int × Int) × List Co) : D := .tup [cdD p.2.1, rsD' p.2.2]
theorem clD_eq (p : Nat × List (Int × Int) × List Co) : clD p = .tup [cdD p.2.1, rsD' p.2.2] := rfl
def sp521 (n : Nat) : SpD := fun ds M Q _ => ∃ (t : Co) (bh : List Co) (k : Nat) (acc : List D), ds = [coD t, rsD' bh, .ref k] ∧ M[k]? = some (.lst acc) ∧ t.ht < n ∧ bh.length + t.ht < 100000 ∧ acc.length + t.sz ≤ 10000000 ∧
  Q .non (M.set k (.lst (acc ++ (collT t bh).map clD)))
theorem ln521 (n : Nat) : ∀ ds M Q E, sp521 n ds M Q E → ds.length = 3 := by
  rintro _ _ _ _ ⟨_, _, _, _, rfl, _⟩; rfl
theorem z521 : ∀ ds M Q E, sp521 0 ds M Q E → False := by
  rintro _ _ _ _ ⟨_, _, _, _, _, _, h, _⟩; omega
theorem at_set' {M : Md} {k : Nat} {m m' : MO} (h : M[k]? = some m) : (M.set k m')[k]? = some m' := by
  rw [List.getElem?_set_self (List.getElem?_eq_some_iff.mp h).1]
theorem set_id {M : Md} {k : Nat} {m : MO} (h : M[k]? = some m) : M.set k m = M := by
  apply List.ext_getElem?
  intro j
  by_cases hj : j = k
  · subst hj; rw [at_set' h, h]
  · rw [List.getElem?_set_ne (Ne.symm hj)]
theorem rd521 {Φ : Nat → SpD} {κ : Nat → D} {n : Nat} (h521 : Φ 521 = sp521 n) : RdOk Φ κ c521 4 (sp521 (n + 1)) := by
  rintro ds M Q E hM hd ⟨t, bh, k, acc, rfl, hk, hh, hb, hl, hQ⟩
  have sub : ∀ (u : Co) (bh : List Co) (acc : List D) (M : Md) (Q : QE) (E : EX), M[k]? = some (.lst acc) → u.ht < n → bh.length + u.ht < 100000 → acc.length + u.sz ≤ 10000000 → Q .non (M.set k (.lst (acc ++ (collT u bh).map clD))) → Φ 521 [coD u, rsD' bh, .ref k] M Q E := by
    intro u bh acc M Q E h1 h2 h3 h4 q
    rw [h521]
    exact ⟨u, bh, k, acc, rfl, h1, h2, h3, h4, q⟩
  have none : ∀ c, collT t bh = [] → c = coD t → Fin M.length Q .non M := by
    intro c e _
    rw [e, List.map_nil, List.append_nil, set_id hk] at hQ
    exact .keep hQ
  cases t with
  | set m ps =>
    simp only [coD, rsD'] at hd ⊢; walk_at "go"
    rw [hk]; walk_at "go"
    have : (Co.set m ps).sz = 1 := rfl
    walk_at "go"
    exact .keep hQ
  | seq a b =>
    have ha : a.ht < n ∧ b.ht < n := by simp [Co.ht] at hh; omega
    have hht : (Co.seq a b).ht = max a.ht b.ht + 1 := rfl
    have hs : (Co.seq a b).sz = a.sz + b.sz := rfl
    have hcl := collT_len (t := a) (bh := b :: bh)
    rw [show coD (.seq a b) = .tup [.str "sequence", coD a, coD b] from rfl, rsD'] at hd ⊢; walk_at "go"
    refine sub a (b :: bh) acc _ _ _ hk ha.1 (by rw [List.length_cons]; omega) (by omega) ?_
    walk_at "go"
    refine sub b bh _ _ _ _ (at_set' hk) ha.2 (by omega) (by rw [List.length_append, List.length_map]; omega) ?_
    rw [set_set', List.append_assoc, ← List.map_append]
    walk_at "go"
    exact .keep hQ
  | alt a b =>
    have ha : a.ht < n ∧ b.ht < n := by simp [Co.ht] at hh; omega
    have hht : (Co.alt a b).ht = max a.ht b.ht + 1 := rfl
    have hs : (Co.alt a b).sz = a.sz + b.sz := rfl
    have hcl := collT_len (t := a) (bh := bh)
    rw [show coD (.alt a b) = .tup [.str "choice", coD a, coD b] from rfl] at hd ⊢; walk_at "go"
    refine sub a bh acc _ _ _ hk ha.1 (by omega) (by omega) ?_
    walk_at "go"
    refine sub b bh _ _ _ _ (at_set' hk) ha.2 (by omega) (by rw [List.length_append, List.length_map]; omega) ?_
    rw [set_set', List.append_assoc, ← List.map_append]
    walk_at "go"
    exact .keep hQ
  | ne a =>
    have hht : (Co.ne a).ht = a.ht + 1 := rfl
    have hs : (Co.ne a).sz = a.sz := rfl
    rw [show coD (.ne a) = .tup [.str "nonempty", coD a] from rfl] at hd ⊢; walk_at "go"
    refine sub a bh acc _ _ _ hk (by omega) (by omega) (by omega) ?_
    walk_at "go"
    exact .keep hQ
  | star a g =>
    have hht : (Co.star a g).ht = a.ht + 1 := rfl
    have hs : (Co.star a g).sz = a.sz + 1 := rfl
    rw [show coD (.star a g) = .tup [.str "star", coD a, .bl g] from rfl, rsD'] at hd ⊢; walk_at "go"
    refine sub a (.star a g :: bh) acc _ _ _ hk (by omega) (by rw [List.length_cons]; omega) (by omega) ?_
    walk_at "go"
    exact .keep hQ
  | opn _ | cls _ | fgt _ _ | bit _ _ | anc _ | emp =>
    simp only [coD] at hd ⊢; walk_at "go"
    exact none _ rfl rfl

/-! def 520: Core.__init__; slots 0:self 1:tree 2:backward 3:found 4:codes 5:rest; calls [('collect', 521)]; consts []; built-ins ['tuple'] -/
abbrev c520_5 : CSs := .cons (.setFld "Core" (.var 0) "rests" (.blt .tuple (.cons (.comp false (.var 5) (.tp [4, 5]) (.seq (.var 3)) .none [4, 5]) .nil))) .nil
abbrev c520_4 : CSs := .cons (.setFld "Core" (.var 0) "sets" (.blt .tuple (.cons (.comp false (.var 4) (.tp [4, 5]) (.seq (.var 3)) .none [4, 5]) .nil))) c520_5
abbrev c520_3 : CSs := .cons (.expr (.call 521 (.cons (.var 1) (.cons (.tup .nil) (.cons (.var 3) .nil))))) c520_4
abbrev c520_2 : CSs := .cons (.set 3 (.lst true .nil)) c520_3
abbrev c520_1 : CSs := .cons (.setFld "Core" (.var 0) "backward" (.var 2)) c520_2
abbrev c520 : CSs := .cons (.setFld "Core" (.var 0) "tree" (.var 1)) c520_1
def coreV (t : Co) (b : Bool) : D := .obj "Core" ["tree", "backward", "sets", "rests"] [coD t, .bl b, .tup ((collT t []).map fun p => cdD p.2.1), .tup ((collT t []).map fun p => rsD' p.2.2)]
theorem coreV_eq (t : Co) (b : Bool) : coreV t b = .obj "Core" ["tree", "backward", "sets", "rests"] [coD t, .bl b, .tup ((collT t []).map fun p => cdD p.2.1), .tup ((collT t []).map fun p => rsD' p.2.2)] := rfl
theorem nr_nats (l : List Nat) : noRef (nats l) = true := noRefs_map fun _ _ => rfl
theorem nr_co : ∀ t : Co, noRef (coD t) = true
  | .set n ps => by
    have : noRef (.tup (ps.map pr)) = true := noRefs_pr ps
    have this : noRefs (ps.map pr) = true := this
    simp only [coD, noRef, noRefs, this, Bool.and_self]
  | .opn _ | .cls _ | .bit _ _ | .anc _ | .emp => rfl
  | .fgt gs ms => by simp only [coD, noRef, noRefs, nr_nats, Bool.and_self]
  | .seq a b => by simp only [coD, noRef, noRefs, nr_co a, nr_co b, Bool.and_self]
  | .alt a b => by simp only [coD, noRef, noRefs, nr_co a, nr_co b, Bool.and_self]
  | .ne a => by simp only [coD, noRef, noRefs, nr_co a, Bool.and_self]
  | .star a g => by simp only [coD, noRef, noRefs, nr_co a, Bool.and_self]
theorem nr_cd (ps : List (Int × Int)) : noRef (cdD ps) = true := noRefs_pr ps
theorem nr_rs (bh : List Co) : noRef (rsD' bh) = true := noRefs_map fun t _ => nr_co t
theorem nr_core (t : Co) (b : Bool) : noRef (coreV t b) = true := by
  have h1 : noRef (.tup ((collT t []).map fun p => cdD p.2.1)) = true := noRefs_map fun p _ => nr_cd _
  have h2 : noRef (.tup ((collT t []).map fun p => rsD' p.2.2)) = true := noRefs_map fun p _ => nr_rs _
  show noRefs [_, _, _, _] = true
  simp only [noRefs, noRef, nr_co, h1, h2, Bool.and_self] at h1 h2 ⊢
  simp [h1, h2]
def sp520 : SpD := fun ds M Q _ => ∃ (M0 : Md) (t : Co) (b : Bool), ds = [.ref M0.length, coD t, .bl b] ∧ M = M0 ++ [.ins "Core" []] ∧ t.ht < 60 ∧ t.sz ≤ 1000000 ∧
  Q .non (M0 ++ [.ins "Core" [("tree", coD t), ("backward", .bl b), ("sets", .tup ((collT t []).map fun p => cdD p.2.1)), ("rests", .tup ((collT t []).map fun p => rsD' p.2.2))]])
theorem ln520 : ∀ ds M Q E, sp520 ds M Q E → ds.length = 3 := by
  rintro _ _ _ _ ⟨_, _, _, rfl, _⟩; rfl
theorem rd520 {Φ : Nat → SpD} {κ : Nat → D} (h521 : Φ 521 = sp521 (60)) : RdOk Φ κ c520 6 (sp520) := by
  rintro ds M Q E hM hd ⟨M0, t, b, rfl, rfl, hh, hz, hQ⟩
  have hcl := collT_len (t := t) (bh := [])
  walk_at "go"
  rw [h521]
  refine ⟨t, [], M0.length + 1, [], rfl, by simp, hh, by simp; omega, by simp; omega, ?_⟩
  walk_at "go"
  refine comp_map clD (fun p => cdD p.2.1) (by show _ = _; rw [at_new]; rfl) (by rw [size_eq]; omega) ?_ ?_
  · intro p hp yes no hy
    rw [clD_eq]; walk_at "go"
    exact hy
  walk_at "go"
  refine comp_map clD (fun p => rsD' p.2.2) (by show _ = _; rw [at_new]; rfl) (by rw [size_eq]; omega) ?_ ?_
  · intro p hp yes no hy
    rw [clD_eq]; walk_at "go"
    exact hy
  walk_at "go"
  refine Fin.init rfl hM ?_ hQ
  have h1 : noRef (.tup ((collT t []).map fun p => cdD p.2.1)) = true := noRefs_map fun p _ => nr_cd _
  have h2 : noRef (.tup ((collT t []).map fun p => rsD' p.2.2)) = true := noRefs_map fun p _ => nr_rs _
  have h1 : noRefs ((collT t []).map fun p => cdD p.2.1) = true := h1
  have h2 : noRefs ((collT t []).map fun p => rsD' p.2.2) = true := h2
  simp [noRefs, noRef, nr_co, h1, h2]
theorem core_lt {t : Co} {b : Bool} (n : Nat) : ∀ p ∈ [(("tree" : Str), coD t), ("backward", .bl b), ("sets", .tup ((collT t []).map fun p => cdD p.2.1)), ("rests", .tup ((collT t []).map fun p => rsD' p.2.2))], RLt n p.2 := by
  intro p hp
  have h1 : noRef (.tup ((collT t []).map fun p => cdD p.2.1)) = true := noRefs_map fun p _ => nr_cd _
  have h2 : noRef (.tup ((collT t []).map fun p => rsD' p.2.2)) = true := noRefs_map fun p _ => nr_rs _
  refine noRef_lt ?_
  simp only [List.mem_cons, List.not_mem_nil, or_false] at hp
  rcases hp with rfl | rfl | rfl | rfl
  · exact nr_co t
  · rfl
  · exact h1
  · exact h2

/-! def 218: first_of_each; slots 0:found 1:kept 2:numbers 3:move; calls []; consts []; built-ins [] -/
abbrev c218_6 : CSs := .cons (.expr (.mth .append (.var 1) (.cons (.var 3) .nil))) .nil
abbrev c218_5 : CSs := .cons (.setIx (.var 2) (.idx (.var 3) (.int 0)) (.bl true)) c218_6
abbrev c218_4 : CSs := .cons (.ifs (.cmp .nin (.idx (.var 3) (.int 0)) (.var 2)) c218_5 .nil) .nil
abbrev c218_3 : CSs := .cons (.ret (.var 1)) .nil
abbrev c218_2 : CSs := .cons (.fors (.nm 3) (.seq (.var 0)) c218_4) c218_3
abbrev c218_1 : CSs := .cons (.set 2 .dnew) c218_2
abbrev c218 : CSs := .cons (.set 1 (.lst true .nil)) c218_1
theorem nr_oD (o : Option Int) : noRef (oD o) = true := by cases o <;> rfl
theorem nr_gp (o : Option (Int × Int)) : noRef (gpD o) = true := by cases o <;> rfl
theorem nr_rg (r : Option Rgs) : noRef (rgD r) = true := by
  cases r with
  | none => rfl
  | some r =>
    show noRefs [.tup (r.1.map oD), .tup (r.2.1.map gpD), .tup (r.2.2.map oD)] = true
    have h1 : noRef (.tup (r.1.map oD)) = true := noRefs_map fun x _ => nr_oD x
    have h2 : noRef (.tup (r.2.1.map gpD)) = true := noRefs_map fun x _ => nr_gp x
    have h3 : noRef (.tup (r.2.2.map oD)) = true := noRefs_map fun x _ => nr_oD x
    simp only [noRefs, h1, h2, h3, Bool.and_self]
theorem nr_mv (m : Mv) : noRef (mvD m) = true := by
  show noRefs [onD m.1, rgD m.2] = true
  have : noRef (onD m.1) = true := by cases m.1 <;> rfl
  simp only [noRefs, this, nr_rg, Bool.and_self]
theorem nr_mvs (ms : List Mv) : noRefs (ms.map mvD) = true := noRefs_map fun m _ => nr_mv m
def okey (n : Option Nat) : Option Key := n.map fun n : Nat => .inl (n : Int)
theorem okey_inj {a b : Option Nat} : okey a = okey b ↔ a = b := by
  cases a <;> cases b <;> simp [okey] <;> omega
theorem key_on (n : Option Nat) : keyD (onD n) = some (okey n) := by cases n <;> rfl
def ndct (l : List (Option Nat)) : List (Option Key × D) := l.map fun n => (okey n, .bl true)
theorem ndct_val {l : List (Option Nat)} {n : Option Nat} : (dctVal (ndct l) (okey n)).isSome = decide (n ∈ l) := by
  induction l with
  | nil => rfl
  | cons x l ih =>
    unfold dctVal ndct at ih ⊢
    rw [List.map_cons, List.find?_cons]
    by_cases h : x = n
    · subst h; simp
    · have h2 : ¬ okey x = okey n := fun z => h (okey_inj.mp z)
      simp only [decide_eq_false h2]
      rw [ih]
      have : ¬ n = x := fun z => h z.symm
      simp [this]
theorem ndct_put {l : List (Option Nat)} {n : Option Nat} (h : n ∉ l) : dctPut (ndct l) (okey n) (.bl true) = ndct (l ++ [n]) := by
  unfold dctPut
  rw [if_neg]
  · simp [ndct]
  · simp only [ndct, List.any_map, List.any_eq_true, Function.comp, decide_eq_true_eq, not_exists, not_and]
    intro x hx e
    rw [okey_inj] at e
    exact h (e ▸ hx)
theorem ndct_len {l : List (Option Nat)} : (ndct l).length = l.length := List.length_map ..
def sp218 : SpD := fun ds M Q _ => ∃ (c : D) (ms : List Mv), ds = [c] ∧ seqOf c M = some (ms.map mvD) ∧ ms.length < 16000000 ∧ Q (.lst ((foe [] ms).map mvD)) M
theorem ln218 : ∀ ds M Q E, sp218 ds M Q E → ds.length = 1 := by
  rintro _ _ _ _ ⟨_, _, rfl, _⟩; rfl
theorem rd218 {Φ : Nat → SpD} {κ : Nat → D} : RdOk Φ κ c218 4 (sp218) := by
  rintro ds M Q E hM hd ⟨c, ms, rfl, hc, hl, hQ⟩
  walk_at "go"
  rw [walk_seq (seqOf_app hc)]
  refine for_any (M0 := M) [3] (fun rem js M' => ∃ acc seen x3, js = [x3] ∧ M' = M ++ [.lst (acc.map mvD), .dct (ndct seen.reverse)] ∧ acc ++ foe seen rem = foe [] ms ∧ acc.length + rem.length ≤ ms.length ∧ seen.length + rem.length ≤ ms.length) hc ?_ ⟨[_], rfl, [], [], _, rfl, rfl, rfl, by simp, by simp⟩ ?_ ?_
  · rintro r js M' ⟨acc, seen, x3, rfl, rfl, _⟩; exact ⟨_, rfl⟩
  · rintro m r js M' nx ⟨acc, seen, x3, rfl, rfl, h1, h2, h3⟩ hn
    rw [List.length_cons] at h2 h3
    rw [mvD_eq]; walk_at "go"
    rw [key_on, optQ_some, ndct_val]
    by_cases hm : m.1 ∈ seen
    · rw [if_neg (by simp [hm])]
      exact hn [_] _ ⟨acc, seen, _, rfl, rfl, by rw [← h1, foe, if_pos hm], by omega, by omega⟩
    · rw [if_pos (by simp [hm])]
      walk_at "go"
      rw [key_on]; walk_at "go"
      rw [ndct_put (by simpa using hm)]
      refine ⟨by rw [ndct_len, List.length_reverse, size_eq]; omega, ?_⟩
      walk_at "go"
      refine hn [_] _ ⟨acc ++ [m], m.1 :: seen, _, rfl, ?_, ?_, by simp; omega, by simp; omega⟩
      · simp [mvD_eq]
      · rw [← h1, List.append_assoc]
        show acc ++ (m :: foe (m.1 :: seen) r) = acc ++ foe seen (m :: r)
        rw [foe, if_neg hm]
  · rintro js M' ⟨acc, seen, x3, rfl, rfl, h1, h2, h3⟩
    walk_at "go"
    have h1 : acc = foe [] ms := by simpa [foe] using h1
    subst h1
    exact .lst rfl hM (by rw [at_new0]; rfl) (Nat.le_refl _) (nr_mvs _) hQ

/-! def 221: passable; slots 0:core 1:spot; calls [('anchor_holds', 24)]; consts []; built-ins [] -/
abbrev c221_3 : CSs := .cons (.ret (.cmp .eq (.idx (.fld "Spot" (.var 1) "bits") (.idx (.var 0) (.int 1))) (.idx (.var 0) (.int 2)))) .nil
abbrev c221_4 : CSs := .cons (.ret (.call 24 (.cons (.idx (.var 0) (.int 1)) (.cons (.fld "Spot" (.var 1) "before") (.cons (.fld "Spot" (.var 1) "after") .nil))))) .nil
abbrev c221_2 : CSs := .cons (.ret (.bl true)) .nil
abbrev c221_1 : CSs := .cons (.ifs (.cmp .eq (.idx (.var 0) (.int 0)) (.str "anchor")) c221_4 .nil) c221_2
abbrev c221 : CSs := .cons (.ifs (.cmp .eq (.idx (.var 0) (.int 0)) (.str "bit")) c221_3 .nil) c221_1
theorem spotD_eq (s : Sp) : spotD s = .obj "Spot" ["position", "before", "after", "bits"] [.int s.pos, oD s.bf, oD s.af, .tup (s.bits.map .bl)] := rfl
def Co.leaf : Co → Prop
  | .set _ _ | .seq _ _ | .alt _ _ | .ne _ | .star _ _ => False
  | _ => True
def sp221 : SpD := fun ds M Q _ => ∃ (t : Co) (s : Sp) (g l : Nat), ds = [coD t, spotD s] ∧ t.leaf ∧ t.fit g l ∧ s.bits.length = l ∧ Q (.bl (passB s t)) M
theorem ln221 : ∀ ds M Q E, sp221 ds M Q E → ds.length = 2 := by
  rintro _ _ _ _ ⟨_, _, _, _, rfl, _⟩; rfl
theorem rd221 {Φ : Nat → SpD} {κ : Nat → D} (h24 : Φ 24 = sp24) : RdOk Φ κ c221 2 (sp221) := by
  rintro ds M Q E hM hd ⟨t, s, g, l, rfl, ht, hf, hb, hQ⟩
  rw [spotD_eq]
  cases t with
  | set _ _ | seq _ _ | alt _ _ | ne _ | star _ _ => exact ht.elim
  | opn _ | cls _ | fgt _ _ | emp =>
    simp only [coD] at hd ⊢; walk_at "go"
    exact .keep hQ
  | bit k b =>
    have hf : k < l := hf
    simp only [coD] at hd ⊢; walk_at "go"
    rw [atQ_some (d := .bl (s.bits[k]'(by omega))) (atI_nat (by rw [List.getElem?_map, List.getElem?_eq_getElem (by omega)]; rfl))]
    walk_at "go"
    refine .keep ?_
    have : passB s (.bit k b) = decide (s.bits[k]'(by omega) = b) := by
      show (s.bits[k]? == some b) = _
      rw [List.getElem?_eq_getElem (by omega)]
      cases s.bits[k]'(by omega) <;> cases b <;> rfl
    rwa [this] at hQ
  | anc a =>
    simp only [coD] at hd ⊢; walk_at "go"
    rw [h24]
    exact ⟨_, _, _, rfl, .keep hQ⟩

/-! def 225: replaced; slots 0:entries 1:number 2:value; calls []; consts []; built-ins [] -/
abbrev c225 : CSs := .cons (.ret (.bin .add (.bin .add (.slc false (.var 0) .none (.some (.var 1))) (.tup (.cons (.var 2) .nil))) (.slc false (.var 0) (.some (.bin .add (.var 1) (.int 1))) .none))) .nil
theorem cut_to {α : Type} {xs : List α} {n : Nat} : cutD xs none (some (n : Int)) = xs.take n := by
  unfold cutD
  rw [HT.sIx_none, HT.sIx_nat, List.drop_zero, Nat.sub_zero]
  by_cases h : n ≤ xs.length
  · rw [Nat.min_eq_left h]
  · rw [Nat.min_eq_right (by omega), List.take_of_length_le (Nat.le_refl _), List.take_of_length_le (by omega)]
theorem cut_from {α : Type} {xs : List α} {n : Nat} : cutD xs (some (n : Int)) none = xs.drop n := by
  unfold cutD
  rw [HT.sIx_none, HT.sIx_nat]
  by_cases h : n ≤ xs.length
  · rw [Nat.min_eq_left h, List.take_of_length_le (by rw [List.length_drop]; exact Nat.le_refl _)]
  · rw [Nat.min_eq_right (by omega), List.drop_of_length_le (by omega), List.drop_of_length_le (by omega), List.take_nil]
def sp225 : SpD := fun ds M Q _ => ∃ (es : List D) (n : Nat) (v : D), ds = [.tup es, .int n, v] ∧ n < es.length ∧ es.length < 1000000 ∧ Q (.tup (es.set n v)) M
theorem ln225 : ∀ ds M Q E, sp225 ds M Q E → ds.length = 3 := by
  rintro _ _ _ _ ⟨_, _, _, rfl, _⟩; rfl
theorem set_cut {es : List D} {n : Nat} {v : D} (h : n < es.length) : es.take n ++ (v :: es.drop (n + 1)) = es.set n v := by
  rw [List.set_eq_take_append_cons_drop, if_pos h]
theorem rd225 {Φ : Nat → SpD} {κ : Nat → D} : RdOk Φ κ c225 3 (sp225) := by
  rintro ds M Q E hM hd ⟨es, n, v, rfl, hn, hl, hQ⟩
  walk_at "go"
  rw [cut_to, show (n : Int) + 1 = ((n + 1 : Nat) : Int) by omega, cut_from]
  refine ⟨by rw [List.length_take, size_eq]; omega, by rw [List.length_take, List.length_drop, size_eq]; omega, ?_⟩
  rw [set_cut hn]
  exact .keep hQ

/-! def 226: without_some; slots 0:entries 1:numbers 2:number; calls [('replaced', 225)]; consts []; built-ins [] -/
abbrev c226_2 : CSs := .cons (.set 0 (.call 225 (.cons (.var 0) (.cons (.var 2) (.cons .non .nil))))) .nil
abbrev c226_1 : CSs := .cons (.ret (.var 0)) .nil
abbrev c226 : CSs := .cons (.fors (.nm 2) (.seq (.var 1)) c226_2) c226_1
def wipeD' (es : List D) : List Nat → List D
  | [] => es
  | n :: ns => wipeD' (es.set n .non) ns
def sp226 : SpD := fun ds M Q _ => ∃ (es : List D) (ns : List Nat), ds = [.tup es, nats ns] ∧ (∀ n ∈ ns, n < es.length) ∧ es.length < 1000000 ∧ Q (.tup (wipeD' es ns)) M
theorem ln226 : ∀ ds M Q E, sp226 ds M Q E → ds.length = 2 := by
  rintro _ _ _ _ ⟨_, _, rfl, _⟩; rfl
theorem wipe_map {α : Type} {f : Option α → D} (hf : f none = .non) : ∀ {ns : List Nat} {l : List (Option α)}, wipeD' (l.map f) ns = (wipeN l ns).map f
  | [], _ => rfl
  | n :: ns, l => by
    rw [wipeD', wipeN, ← hf, ← List.map_set, wipe_map hf]
theorem rd226 {Φ : Nat → SpD} {κ : Nat → D} (h225 : Φ 225 = sp225) : RdOk Φ κ c226 3 (sp226) := by
  rintro ds M Q E hM hd ⟨es, ns, rfl, hn, hl, hQ⟩
  unfold nats; walk_at "go"
  refine for_list [0, 2] (fun rem js M' => ∃ es' x2, js = [some (.tup es'), x2] ∧ M' = M ∧ es'.length = es.length ∧ (∀ n ∈ rem, n < es.length) ∧ wipeD' es' rem = wipeD' es ns) ⟨[_, _], rfl, es, _, rfl, rfl, rfl, hn, rfl⟩ ?_ ?_
  · rintro n r js M' nx ⟨es', x2, rfl, rfl, h1, h2, h3⟩ hk
    walk_at "go"
    rw [h225]
    refine ⟨es', n, .non, rfl, by have := h2 n List.mem_cons_self; omega, by omega, ?_⟩
    walk_at "go"
    exact hk [_, _] _ ⟨es'.set n .non, _, rfl, rfl, by simpa using h1, fun m hm => h2 m (List.mem_cons_of_mem _ hm), h3⟩
  · rintro js M' ⟨es', x2, rfl, rfl, h1, h2, h3⟩
    walk_at "go"
    have h3 : es' = wipeD' es ns := h3
    subst h3
    exact .keep hQ

/-! def 222: noted; slots 0:core 1:position 2:registers 3:kind 4:opened 5:held 6:marks 7:start; calls [('replaced', 225), ('without_some', 226)]; consts []; built-ins ['max', 'min'] -/
abbrev c222_8 : CSs := .cons (.ret .non) .nil
abbrev c222_9 : CSs := .cons (.ret (.tup (.cons (.call 225 (.cons (.var 4) (.cons (.idx (.var 0) (.int 1)) (.cons (.var 1) .nil)))) (.cons (.var 5) (.cons (.var 6) .nil))))) .nil
abbrev c222_11 : CSs := .cons (.ret (.tup (.cons (.var 4) (.cons (.call 225 (.cons (.var 5) (.cons (.idx (.var 0) (.int 1)) (.cons (.tup (.cons (.blt .min2 (.cons (.var 7) (.cons (.var 1) .nil))) (.cons (.blt .max2 (.cons (.var 7) (.cons (.var 1) .nil))) .nil))) .nil)))) (.cons (.var 6) .nil))))) .nil
abbrev c222_10 : CSs := .cons (.set 7 (.idx (.var 4) (.idx (.var 0) (.int 1)))) c222_11
abbrev c222_12 : CSs := .cons (.ret (.tup (.cons (.var 4) (.cons (.call 226 (.cons (.var 5) (.cons (.idx (.var 0) (.int 1)) .nil))) (.cons (.call 226 (.cons (.var 6) (.cons (.idx (.var 0) (.int 2)) .nil))) .nil))))) .nil
abbrev c222_13 : CSs := .cons (.ret (.tup (.cons (.var 4) (.cons (.var 5) (.cons (.call 225 (.cons (.var 6) (.cons (.idx (.var 0) (.int 1)) (.cons (.var 1) .nil)))) .nil))))) .nil
abbrev c222_7 : CSs := .cons (.ret (.var 2)) .nil
abbrev c222_6 : CSs := .cons (.ifs (.and (.cmp .eq (.var 3) (.str "bit")) (.idx (.var 0) (.int 2))) c222_13 .nil) c222_7
abbrev c222_5 : CSs := .cons (.ifs (.cmp .eq (.var 3) (.str "forget")) c222_12 .nil) c222_6
abbrev c222_4 : CSs := .cons (.ifs (.cmp .eq (.var 3) (.str "close")) c222_10 .nil) c222_5
abbrev c222_3 : CSs := .cons (.ifs (.cmp .eq (.var 3) (.str "open")) c222_9 .nil) c222_4
abbrev c222_2 : CSs := .cons (.set 3 (.idx (.var 0) (.int 0))) c222_3
abbrev c222_1 : CSs := .cons (.setT [4, 5, 6] (.var 2)) c222_2
abbrev c222 : CSs := .cons (.ifs (.cmp .isN (.var 2) .non) c222_8 .nil) c222_1
def sp222 : SpD := fun ds M Q _ => ∃ (t : Co) (pos : Int) (r : Option Rgs) (g l : Nat) (x : Option Rgs), ds = [coD t, .int pos, rgD r] ∧ t.leaf ∧ t.fit g l ∧ rgFit g l r ∧ g < 1000 ∧ l < 1000 ∧ noteO pos t r = some x ∧ Q (rgD x) M
theorem ln222 : ∀ ds M Q E, sp222 ds M Q E → ds.length = 3 := by
  rintro _ _ _ _ ⟨_, _, _, _, _, _, rfl, _⟩; rfl
theorem rg1_eq (r : Rgs) : rgD (some r) = .tup [.tup (r.1.map oD), .tup (r.2.1.map gpD), .tup (r.2.2.map oD)] := rfl
theorem rgD_none : rgD none = .non := rfl
theorem rd222 {Φ : Nat → SpD} {κ : Nat → D} (h225 : Φ 225 = sp225) (h226 : Φ 226 = sp226) : RdOk Φ κ c222 8 (sp222) := by
  rintro ds M Q E hM hd ⟨t, pos, r, g, l, x, rfl, ht, hf, hr, hg, hl, hx, hQ⟩
  cases r with
  | none =>
    cases hx
    rw [rgD_none]
    walk_at "go"
    exact .keep hQ
  | some r =>
    obtain ⟨o, h, m⟩ := r
    obtain ⟨h1, h2, h3⟩ := hr
    have h1 : o.length = g := h1
    have h2 : h.length = g := h2
    have h3 : m.length = l := h3
    rw [rg1_eq]
    cases t with
    | set _ _ | seq _ _ | alt _ _ | ne _ | star _ _ => exact ht.elim
    | opn k =>
      cases hx
      have hf : k < g := hf
      rw [rg1_eq, List.map_set] at hQ
      simp only [coD] at hd ⊢; walk_at "go"
      rw [h225]
      refine ⟨_, k, .int pos, rfl, by rw [List.length_map]; omega, by rw [List.length_map]; omega, ?_⟩
      walk_at "go"
      exact .keep hQ
    | cls k =>
      have hf : k < g := hf
      unfold noteO at hx
      obtain ⟨q, hx, e⟩ := Option.map_eq_some_iff.mp hx
      subst e
      unfold notedR at hx
      dsimp only at hx
      split at hx
      · next st hst =>
        cases hx
        rw [rg1_eq, List.map_set] at hQ
        simp only [coD] at hd ⊢; walk_at "go"
        rw [atQ_some (d := .int st) (atI_nat (by rw [List.getElem?_map, hst]; rfl))]
        walk_at "go"
        rw [h225]
        refine ⟨_, k, _, rfl, by rw [List.length_map]; omega, by rw [List.length_map]; omega, ?_⟩
        walk_at "go"
        exact .keep hQ
      · cases hx
    | fgt gs ms =>
      cases hx
      obtain ⟨f1, f2⟩ := hf
      rw [rg1_eq] at hQ
      simp only [coD] at hd ⊢; walk_at "go"
      rw [h226]
      refine ⟨_, gs, rfl, fun n hn => by rw [List.length_map]; have := f1 n hn; omega, by rw [List.length_map]; omega, ?_⟩
      walk_at "go"
      refine ⟨_, ms, rfl, fun n hn => by rw [List.length_map]; have := f2 n hn; omega, by rw [List.length_map]; omega, ?_⟩
      walk_at "go"
      rw [wipe_map rfl, wipe_map rfl]
      exact .keep hQ
    | bit k b =>
      have hf : k < l := hf
      simp only [coD] at hd ⊢; walk_at "go"
      cases b with
      | true =>
        cases hx
        rw [rg1_eq, List.map_set] at hQ
        walk_at "go"
        rw [h225]
        refine ⟨_, k, .int pos, rfl, by rw [List.length_map]; omega, by rw [List.length_map]; omega, ?_⟩
        walk_at "go"
        exact .keep hQ
      | false =>
        cases hx
        walk_at "go"
        exact .keep hQ
    | anc a =>
      cases hx
      simp only [coD] at hd ⊢; walk_at "go"
      exact .keep hQ
    | emp =>
      cases hx
      simp only [coD] at hd ⊢; walk_at "go"
      exact .keep hQ

/-! def 219: takes_of; slots 0:found 1:move; calls []; consts []; built-ins [] -/
abbrev c219 : CSs := .cons (.ret (.comp false (.var 1) (.nm 1) (.seq (.var 0)) (.some (.cmp .notN (.idx (.var 1) (.int 0)) .non)) [1])) .nil
def sp219 : SpD := fun ds M Q _ => ∃ (c : D) (ms : List Mv), ds = [c] ∧ seqOf c M = some (ms.map mvD) ∧ ms.length < 16000000 ∧ Q (.lst ((tks ms).map mvD)) M
theorem ln219 : ∀ ds M Q E, sp219 ds M Q E → ds.length = 1 := by
  rintro _ _ _ _ ⟨_, _, rfl, _⟩; rfl
theorem isNon_on (n : Option Nat) : isNon (onD n) = n.isNone := by cases n <;> rfl
theorem filterMap_mv {ms : List Mv} {g : D → Option D} (h : ∀ m : Mv, g (mvD m) = if m.1.isSome then some (mvD m) else none) : (ms.map mvD).filterMap g = (tks ms).map mvD := by
  induction ms with
  | nil => rfl
  | cons m ms ih =>
    rw [List.map_cons, List.filterMap_cons, h, ih]
    unfold tks
    rw [List.filter_cons]
    cases m.1 <;> rfl
def tkg (d : D) : Option D := match d with
  | .tup (x :: _) => if isNon x then none else some d
  | _ => none
theorem tkg_mv (m : Mv) : tkg (mvD m) = if m.1.isSome then some (mvD m) else none := by
  show (if isNon (onD m.1) then none else some (mvD m)) = _
  rw [isNon_on]
  cases m.1 <;> rfl
theorem rd219 {Φ : Nat → SpD} {κ : Nat → D} : RdOk Φ κ c219 2 (sp219) := by
  rintro ds M Q E hM hd ⟨c, ms, rfl, hc, hl, hQ⟩
  walk_at "go"
  rw [walk_seq hc]
  refine comp_pure tkg (lk_seq hc) (by rw [List.length_map, size_eq]; omega) ?_ ?_
  · intro d hd yes no hg
    obtain ⟨m, _, rfl⟩ := List.mem_map.mp hd
    rw [tkg_mv] at hg
    rw [mvD_eq] at hg ⊢
    walk_at "go"
    rw [isNon_on]
    cases e : m.1 with
    | none => rw [e] at hg; walk_at "go"; exact hg
    | some n => rw [e] at hg; walk_at "go"; exact hg
  · rw [filterMap_mv tkg_mv]
    exact .keep hQ

/-! def 216: spliced; slots 0:found 1:core 2:spot 3:result 4:move; calls [('core_moves', 217), ('first_of_each', 218)]; consts []; built-ins [] -/
abbrev c216_4 : CSs := .cons (.expr (.mth .extend (.var 3) (.cons (.call 217 (.cons (.var 1) (.cons (.var 2) (.cons (.idx (.var 4) (.int 1)) .nil)))) .nil))) .nil
abbrev c216_5 : CSs := .cons (.expr (.mth .append (.var 3) (.cons (.var 4) .nil))) .nil
abbrev c216_3 : CSs := .cons (.ifs (.cmp .isN (.idx (.var 4) (.int 0)) .non) c216_4 c216_5) .nil
abbrev c216_2 : CSs := .cons (.ret (.call 218 (.cons (.var 3) .nil))) .nil
abbrev c216_1 : CSs := .cons (.fors (.nm 4) (.seq (.var 0)) c216_3) c216_2
abbrev c216 : CSs := .cons (.set 3 (.lst true .nil)) c216_1
def sp217 (n : Nat) : SpD := fun ds M Q _ => ∃ (t : Co) (s : Sp) (r : Option Rgs) (g l : Nat) (x : List Mv), ds = [coD t, spotD s, rgD r] ∧ t.ht < n ∧ t.fit g l ∧ s.bits.length = l ∧ rgFit g l r ∧ g < 1000 ∧ l < 1000 ∧ t.sz ≤ 1000000 ∧ mv s t r = some x ∧ Q (.lst (x.map mvD)) M
def sp216 (n : Nat) : SpD := fun ds M Q _ => ∃ (c : D) (ms : List Mv) (t : Co) (s : Sp) (g l : Nat) (x : List Mv), ds = [c, coD t, spotD s] ∧ seqOf c M = some (ms.map mvD) ∧ t.ht < n ∧ t.fit g l ∧ s.bits.length = l ∧ mvsFit g l ms ∧ g < 1000 ∧ l < 1000 ∧
  ends1 ms ∧ ms.length + t.sz ≤ 2000000 ∧ t.sz ≤ 1000000 ∧ spl (mv s t) ms = some x ∧ Q (.lst ((foe [] x).map mvD)) M
theorem ln216 (n : Nat) : ∀ ds M Q E, sp216 n ds M Q E → ds.length = 3 := by
  rintro _ _ _ _ ⟨_, _, _, _, _, _, _, rfl, _⟩; rfl
theorem on_none : onD none = .non := rfl
theorem on_some (n : Nat) : onD (some n) = .int n := rfl
theorem spl_app {f : Option Rgs → Option (List Mv)} : ∀ {a b x y : List Mv}, spl f a = some x → spl f b = some y → spl f (a ++ b) = some (x ++ y)
  | [], b, x, y, h1, h2 => by cases h1; exact h2
  | m :: a, b, x, y, h1, h2 => by
    unfold spl at h1
    rw [List.cons_append]; unfold spl
    split at h1
    · split at h1
      · next p q hp hq =>
        cases h1
        rw [hp, spl_app hq h2]
        simp
      · cases h1
    · obtain ⟨z, hz, e⟩ := Option.map_eq_some_iff.mp h1
      subst e
      rw [spl_app hz h2]; rfl
theorem spl_cons {f : Option Rgs → Option (List Mv)} {m : Mv} {ms x : List Mv} (h : spl f (m :: ms) = some x) : (∃ a b, m.1 = none ∧ f m.2 = some a ∧ spl f ms = some b ∧ x = a ++ b) ∨ ∃ n b, m.1 = some n ∧ spl f ms = some b ∧ x = m :: b := by
  unfold spl at h
  split at h
  · next hm =>
    split at h
    · next a b ha hb => cases h; exact .inl ⟨a, b, hm, ha, hb, rfl⟩
    · cases h
  · next n hm =>
    obtain ⟨z, hz, e⟩ := Option.map_eq_some_iff.mp h
    exact .inr ⟨n, z, hm, hz, e.symm⟩
theorem rd216 {Φ : Nat → SpD} {κ : Nat → D} {n : Nat} (h217 : Φ 217 = sp217 n) (h218 : Φ 218 = sp218) : RdOk Φ κ c216 5 (sp216 n) := by
  rintro ds M Q E hM hd ⟨c, ms, t, s, g, l, x, rfl, hc, hh, hf, hb, hm, hg, hl, he, hz, hz2, hx, hQ⟩
  have hxl : x.length ≤ ms.length + t.sz := by
    have := spl_len (k := t.sz) (fun r x h => (mv_len h).1) hx
    unfold ends1 at he
    have : (ms.filter fun m => m.1.isNone).length * t.sz ≤ 1 * t.sz := Nat.mul_le_mul_right _ he
    omega
  walk_at "go"
  rw [walk_seq (seqOf_app hc)]
  refine for_any (M0 := M) [4] (fun rem js M' => ∃ acc y x4, js = [x4] ∧ M' = M ++ [.lst (acc.map mvD)] ∧ spl (mv s t) rem = some y ∧ acc ++ y = x ∧ mvsFit g l rem) hc ?_ ⟨[_], rfl, [], x, _, rfl, rfl, hx, rfl, hm⟩ ?_ ?_
  · rintro r js M' ⟨acc, y, x3, rfl, rfl, _⟩; exact ⟨_, rfl⟩
  · rintro m r js M' nx ⟨acc, y, x4, rfl, rfl, h1, h2, h3⟩ hn
    have h3' : mvsFit g l r := fun z hz => h3 z (List.mem_cons_of_mem _ hz)
    rw [mvD_eq]
    rcases spl_cons h1 with ⟨a, b, e1, e2, e3, rfl⟩ | ⟨k, b, e1, e3, rfl⟩
    · rw [e1, on_none]; walk_at "go"
      rw [h217]
      have hlen : acc.length + a.length ≤ x.length := by rw [← h2]; simp <;> omega
      refine ⟨t, s, m.2, g, l, a, rfl, hh, hf, hb, h3 m List.mem_cons_self, hg, hl, hz2, e2, ?_⟩
      walk_at "go"
      refine hn [_] _ ⟨acc ++ a, b, _, rfl, by simp, e3, by rw [List.append_assoc]; exact h2, h3'⟩
    · rw [e1, on_some]; walk_at "go"
      have hlen : acc.length + (b.length + 1) ≤ x.length := by rw [← h2]; simp <;> omega
      walk_at "go"
      refine hn [_] _ ⟨acc ++ [m], b, _, rfl, by simp [mvD_eq, e1, on_some], e3, by rw [List.append_assoc]; exact h2, h3'⟩
  · rintro js M' ⟨acc, y, x4, rfl, rfl, h1, h2, h3⟩
    cases h1
    walk_at "go"
    rw [h218]
    rw [List.append_nil] at h2
    subst h2
    exact ⟨_, acc, rfl, by rw [seqOf_R, at_new0]; rfl, by omega, .val rfl hM (nr_mvs _) hQ⟩

/-! def 220: star_moves; slots 0:core 1:spot 2:registers 3:takes; calls [('takes_of', 219), ('core_moves', 217)]; consts []; built-ins [] -/
abbrev c220_3 : CSs := .cons (.ret (.bin .add (.var 3) (.lst false (.cons (.tup (.cons .non (.cons (.var 2) .nil))) .nil)))) .nil
abbrev c220_2 : CSs := .cons (.ret (.bin .add (.lst false (.cons (.tup (.cons .non (.cons (.var 2) .nil))) .nil)) (.var 3))) .nil
abbrev c220_1 : CSs := .cons (.ifs (.idx (.var 0) (.int 2)) c220_3 .nil) c220_2
abbrev c220 : CSs := .cons (.set 3 (.call 219 (.cons (.call 217 (.cons (.idx (.var 0) (.int 1)) (.cons (.var 1) (.cons (.var 2) .nil)))) .nil))) c220_1
def sp220 (n : Nat) : SpD := fun ds M Q _ => ∃ (a : Co) (b : Bool) (s : Sp) (r : Option Rgs) (g l : Nat) (x : List Mv), ds = [coD (.star a b), spotD s, rgD r] ∧ a.ht < n ∧ a.fit g l ∧ s.bits.length = l ∧ rgFit g l r ∧ g < 1000 ∧ l < 1000 ∧ a.sz ≤ 1000000 ∧ mv s a r = some x ∧
  Q (.lst ((if b then tks x ++ [(none, r)] else (none, r) :: tks x).map mvD)) M
theorem ln220 (n : Nat) : ∀ ds M Q E, sp220 n ds M Q E → ds.length = 3 := by
  rintro _ _ _ _ ⟨_, _, _, _, _, _, _, rfl, _⟩; rfl
theorem rd220 {Φ : Nat → SpD} {κ : Nat → D} {n : Nat} (h219 : Φ 219 = sp219) (h217 : Φ 217 = sp217 n) : RdOk Φ κ c220 4 (sp220 n) := by
  rintro ds M Q E hM hd ⟨a, b, s, r, g, l, x, rfl, hh, hf, hb, hr, hg, hl, hz, hx, hQ⟩
  have h1 := (mv_len hx).1
  have h2 := tks_len (ms := x)
  simp only [coD] at hd ⊢
  walk_at "go"
  rw [h217]
  refine ⟨a, s, r, g, l, x, rfl, hh, hf, hb, hr, hg, hl, hz, hx, ?_⟩
  walk_at "go"
  rw [h219]
  refine ⟨_, x, rfl, rfl, by omega, ?_⟩
  walk_at "go"
  cases b with
  | true =>
    walk_at "go"
    rw [if_pos rfl, List.map_append] at hQ
    exact .keep hQ
  | false =>
    walk_at "go"
    exact .keep hQ

/-! def 217: core_moves; slots 0:core 1:spot 2:registers 3:kind; calls [('spliced', 216), ('core_moves', 217), ('first_of_each', 218), ('takes_of', 219), ('star_moves', 220), ('passable', 221), ('noted', 222)]; consts []; built-ins [] -/
abbrev c217_8 : CSs := .cons (.ret (.lst false (.cons (.tup (.cons (.idx (.var 0) (.int 1)) (.cons (.var 2) .nil))) .nil))) .nil
abbrev c217_9 : CSs := .cons (.ret (.call 216 (.cons (.call 217 (.cons (.idx (.var 0) (.int 1)) (.cons (.var 1) (.cons (.var 2) .nil)))) (.cons (.idx (.var 0) (.int 2)) (.cons (.var 1) .nil))))) .nil
abbrev c217_10 : CSs := .cons (.ret (.call 218 (.cons (.bin .add (.call 217 (.cons (.idx (.var 0) (.int 1)) (.cons (.var 1) (.cons (.var 2) .nil)))) (.call 217 (.cons (.idx (.var 0) (.int 2)) (.cons (.var 1) (.cons (.var 2) .nil))))) .nil))) .nil
abbrev c217_11 : CSs := .cons (.ret (.call 219 (.cons (.call 217 (.cons (.idx (.var 0) (.int 1)) (.cons (.var 1) (.cons (.var 2) .nil)))) .nil))) .nil
abbrev c217_12 : CSs := .cons (.ret (.call 220 (.cons (.var 0) (.cons (.var 1) (.cons (.var 2) .nil))))) .nil
abbrev c217_13 : CSs := .cons (.ret (.lst false (.cons (.tup (.cons .non (.cons (.call 222 (.cons (.var 0) (.cons (.fld "Spot" (.var 1) "position") (.cons (.var 2) .nil)))) .nil))) .nil))) .nil
abbrev c217_7 : CSs := .cons (.ret (.lst false .nil)) .nil
abbrev c217_6 : CSs := .cons (.ifs (.call 221 (.cons (.var 0) (.cons (.var 1) .nil))) c217_13 .nil) c217_7
abbrev c217_5 : CSs := .cons (.ifs (.cmp .eq (.var 3) (.str "star")) c217_12 .nil) c217_6
abbrev c217_4 : CSs := .cons (.ifs (.cmp .eq (.var 3) (.str "nonempty")) c217_11 .nil) c217_5
abbrev c217_3 : CSs := .cons (.ifs (.cmp .eq (.var 3) (.str "choice")) c217_10 .nil) c217_4
abbrev c217_2 : CSs := .cons (.ifs (.cmp .eq (.var 3) (.str "sequence")) c217_9 .nil) c217_3
abbrev c217_1 : CSs := .cons (.ifs (.cmp .eq (.var 3) (.str "set")) c217_8 .nil) c217_2
abbrev c217 : CSs := .cons (.set 3 (.idx (.var 0) (.int 0))) c217_1
theorem ln217 (n : Nat) : ∀ ds M Q E, sp217 n ds M Q E → ds.length = 3 := by
  rintro _ _ _ _ ⟨_, _, _, _, _, _, rfl, _⟩; rfl
theorem z217 : ∀ ds M Q E, sp217 0 ds M Q E → False := by
  rintro _ _ _ _ ⟨_, _, _, _, _, _, _, h, _⟩; omega
def Co.hd : Co → Str
  | .set _ _ => "set" | .opn _ => "open" | .cls _ => "close" | .fgt _ _ => "forget" | .bit _ _ => "bit" | .anc _ => "anchor" | .emp => "empty"
  | .seq _ _ => "sequence" | .alt _ _ => "choice" | .ne _ => "nonempty" | .star _ _ => "star"
theorem coD_0 {t : Co} {M : Md} {Q : QE} : ixD (coD t) (.int 0) M Q = Q (.str t.hd) M := by
  cases t <;> exact (ix_tup'.trans atQ_0)
theorem leaf_hd {t : Co} (h : t.leaf) : t.hd ≠ "set" ∧ t.hd ≠ "sequence" ∧ t.hd ≠ "choice" ∧ t.hd ≠ "nonempty" ∧ t.hd ≠ "star" := by
  cases t <;> first | exact h.elim | (simp only [Co.hd] <;> decide)
theorem mv_leaf {t : Co} (h : t.leaf) {s : Sp} {r : Option Rgs} : mv s t r = if passB s t then (noteO s.pos t r).map fun q => [(none, q)] else some [] := by
  cases t <;> first | exact h.elim | rfl
theorem rd217 {Φ : Nat → SpD} {κ : Nat → D} {n : Nat} (h216 : Φ 216 = sp216 n) (h217 : Φ 217 = sp217 n) (h218 : Φ 218 = sp218) (h219 : Φ 219 = sp219) (h220 : Φ 220 = sp220 n) (h221 : Φ 221 = sp221) (h222 : Φ 222 = sp222) : RdOk Φ κ c217 4 (sp217 (n + 1)) := by
  rintro ds M Q E hM hd ⟨t, s, r, g, l, x, rfl, hh, hf, hb, hr, hg, hl, hz, hx, hQ⟩
  have leaf : ∀ t : Co, t.leaf → t.fit g l → mv s t r = some x → rSs Φ κ c217 (fun x _ M => E x M) (endsD M.length Q) (startD 4 [coD t, spotD s, rgD r]) M := by
    intro t ht hf hx
    obtain ⟨n1, n2, n3, n4, n5⟩ := leaf_hd ht
    rw [mv_leaf ht] at hx
    walk_at "go"
    rw [coD_0]
    walk_at "go"
    iterate 5 (rw [if_neg (by first | exact n1 | exact n2 | exact n3 | exact n4 | exact n5)]; walk_at "go")
    rw [h221]
    refine ⟨t, s, g, l, rfl, ht, hf, hb, ?_⟩
    walk_at "go"
    split at hx
    · next hp =>
      obtain ⟨q, hq, e⟩ := Option.map_eq_some_iff.mp hx
      subst e
      rw [if_pos hp, spotD_eq]
      walk_at "go"
      rw [h222]
      refine ⟨t, s.pos, r, g, l, q, rfl, ht, hf, hr, hg, hl, hq, ?_⟩
      walk_at "go"
      exact .keep hQ
    · next hp =>
      cases hx
      rw [if_neg hp]
      walk_at "go"
      exact .keep hQ
  cases t with
  | set n ps =>
    cases hx
    simp only [coD] at hd ⊢; walk_at "go"
    exact .keep hQ
  | seq a b =>
    have ha : a.ht < n ∧ b.ht < n := by simp [Co.ht] at hh; omega
    have hs : a.sz + b.sz ≤ 1000000 := hz
    obtain ⟨y, hy, e⟩ := Option.map_eq_some_iff.mp hx
    obtain ⟨z, hzz, hy⟩ := Option.bind_eq_some_iff.mp hy
    subst e
    have hl1 := mv_len hzz
    simp only [coD] at hd ⊢; walk_at "go"
    rw [h217]
    refine ⟨a, s, r, g, l, z, rfl, ha.1, hf.1, hb, hr, hg, hl, by omega, hzz, ?_⟩
    walk_at "go"
    rw [h216]
    exact ⟨_, z, b, s, g, l, y, rfl, rfl, ha.2, hf.2, hb, mv_fit hr hzz, hg, hl, hl1.2, by omega, by omega, hy, .keep hQ⟩
  | alt a b =>
    have ha : a.ht < n ∧ b.ht < n := by simp [Co.ht] at hh; omega
    have hs : a.sz + b.sz ≤ 1000000 := hz
    unfold mv at hx
    split at hx
    · next y z hy hzz =>
      cases hx
      have l1 := (mv_len hy).1
      have l2 := (mv_len hzz).1
      simp only [coD] at hd ⊢; walk_at "go"
      rw [h217]
      refine ⟨a, s, r, g, l, y, rfl, ha.1, hf.1, hb, hr, hg, hl, by omega, hy, ?_⟩
      walk_at "go"
      refine ⟨b, s, r, g, l, z, rfl, ha.2, hf.2, hb, hr, hg, hl, by omega, hzz, ?_⟩
      walk_at "go"
      rw [h218]
      exact ⟨_, y ++ z, rfl, by rw [List.map_append]; rfl, by simp; omega, .keep hQ⟩
    · cases hx
  | ne a =>
    have ha : a.ht < n := by simp [Co.ht] at hh; omega
    have hs : a.sz ≤ 1000000 := hz
    obtain ⟨y, hy, e⟩ := Option.map_eq_some_iff.mp hx
    subst e
    have l1 := (mv_len hy).1
    simp only [coD] at hd ⊢; walk_at "go"
    rw [h217]
    refine ⟨a, s, r, g, l, y, rfl, ha, hf, hb, hr, hg, hl, by omega, hy, ?_⟩
    walk_at "go"
    rw [h219]
    exact ⟨_, y, rfl, rfl, by omega, .keep hQ⟩
  | star a b =>
    have ha : a.ht < n := by simp [Co.ht] at hh; omega
    have hs : a.sz + 1 ≤ 1000000 := hz
    obtain ⟨y, hy, e⟩ := Option.map_eq_some_iff.mp hx
    subst e
    simp only [coD] at hd ⊢; walk_at "go"
    rw [h220]
    exact ⟨a, b, s, r, g, l, y, rfl, ha, hf, hb, hr, hg, hl, by omega, hy, .keep hQ⟩
  | opn _ | cls _ | fgt _ _ | bit _ _ | anc _ | emp => exact leaf _ trivial hf hx

/-! def 227: moves; slots 0:core 1:number 2:spot 3:registers 4:found 5:tree; calls [('core_moves', 217), ('spliced', 216)]; consts []; built-ins [] -/
abbrev c227_4 : CSs := .cons (.ret (.call 217 (.cons (.fld "Core" (.var 0) "tree") (.cons (.var 2) (.cons (.var 3) .nil))))) .nil
abbrev c227_5 : CSs := .cons (.set 4 (.call 216 (.cons (.var 4) (.cons (.var 5) (.cons (.var 2) .nil))))) .nil
abbrev c227_3 : CSs := .cons (.ret (.var 4)) .nil
abbrev c227_2 : CSs := .cons (.fors (.nm 5) (.seq (.idx (.fld "Core" (.var 0) "rests") (.var 1))) c227_5) c227_3
abbrev c227_1 : CSs := .cons (.set 4 (.lst false (.cons (.tup (.cons .non (.cons (.var 3) .nil))) .nil))) c227_2
abbrev c227 : CSs := .cons (.ifs (.cmp .isN (.var 1) .non) c227_4 .nil) c227_1
def mvR (s : Sp) : List Co → List Mv → Option (List Mv)
  | [], ms => some ms
  | u :: us, ms => match spl (mv s u) ms with
    | some x => mvR s us (foe [] x)
    | none => none
/-- the moves behind a set, or those of the whole core -/
def mvs (s : Sp) (t : Co) (n : Option Nat) (r : Option Rgs) : Option (List Mv) := match n with
  | none => mv s t r
  | some n => match (collT t [])[n]? with
    | some p => mvR s p.2.2 [(none, r)]
    | none => none
theorem rsD'_eq (bh : List Co) : rsD' bh = .tup (bh.map coD) := rfl
theorem fit_rests {g l n : Nat} : ∀ {t : Co} {bh : List Co}, t.fit g l → (∀ u ∈ bh, u.fit g l ∧ u.ht ≤ n ∧ u.sz ≤ 1000000) → t.ht ≤ n → t.sz ≤ 1000000 → ∀ p ∈ collT t bh, ∀ u ∈ p.2.2, u.fit g l ∧ u.ht ≤ n ∧ u.sz ≤ 1000000
  | .set _ _, bh, _, hb, _, _, p, hp, u, hu => by
    rw [List.mem_singleton.mp hp] at hu; exact hb u hu
  | .seq a b, bh, hf, hb, hh, hz, p, hp, u, hu => by
    have hht : (Co.seq a b).ht = max a.ht b.ht + 1 := rfl
    have hs : (Co.seq a b).sz = a.sz + b.sz := rfl
    rcases List.mem_append.mp hp with hp | hp
    · refine fit_rests hf.1 (fun v hv => ?_) (by omega) (by omega) p hp u hu
      rcases List.mem_cons.mp hv with hv | hv
      · rw [hv]; exact ⟨hf.2, by omega, by omega⟩
      · exact hb v hv
    · exact fit_rests hf.2 hb (by omega) (by omega) p hp u hu
  | .alt a b, bh, hf, hb, hh, hz, p, hp, u, hu => by
    have hht : (Co.alt a b).ht = max a.ht b.ht + 1 := rfl
    have hs : (Co.alt a b).sz = a.sz + b.sz := rfl
    rcases List.mem_append.mp hp with hp | hp
    · exact fit_rests hf.1 hb (by omega) (by omega) p hp u hu
    · exact fit_rests hf.2 hb (by omega) (by omega) p hp u hu
  | .ne a, bh, hf, hb, hh, hz, p, hp, u, hu => by
    have hht : (Co.ne a).ht = a.ht + 1 := rfl
    exact fit_rests (t := a) hf hb (by omega) hz p hp u hu
  | .star a g', bh, hf, hb, hh, hz, p, hp, u, hu => by
    have hht : (Co.star a g').ht = a.ht + 1 := rfl
    have hs : (Co.star a g').sz = a.sz + 1 := rfl
    refine fit_rests (t := a) hf (fun v hv => ?_) (by omega) (by omega) p hp u hu
    rcases List.mem_cons.mp hv with hv | hv
    · rw [hv]; exact ⟨hf, by omega, by omega⟩
    · exact hb v hv
  | .opn _, _, _, _, _, _, p, hp, _, _ | .cls _, _, _, _, _, _, p, hp, _, _ | .fgt _ _, _, _, _, _, _, p, hp, _, _ | .bit _ _, _, _, _, _, _, p, hp, _, _ | .anc _, _, _, _, _, _, p, hp, _, _ | .emp, _, _, _, _, _, p, hp, _, _ => by cases hp
theorem foe_ends1 {ms : List Mv} : ends1 (foe [] ms) := by
  have := foe_ends (ms := ms) (seen := [])
  rw [if_neg (by simp)] at this
  exact this
def sp227 : SpD := fun ds M Q _ => ∃ (t : Co) (b : Bool) (n : Option Nat) (s : Sp) (r : Option Rgs) (g l : Nat) (x : List Mv), ds = [coreV t b, onD n, spotD s, rgD r] ∧ t.ht < 60 ∧ t.fit g l ∧ s.bits.length = l ∧ rgFit g l r ∧ g < 1000 ∧ l < 1000 ∧ t.sz ≤ 10000 ∧ mvs s t n r = some x ∧ Q (.lst (x.map mvD)) M
theorem ln227 : ∀ ds M Q E, sp227 ds M Q E → ds.length = 4 := by
  rintro _ _ _ _ ⟨_, _, _, _, _, _, _, _, rfl, _⟩; rfl
theorem rests_len {t : Co} : ∀ {bh : List Co}, ∀ p ∈ collT t bh, p.2.2.length ≤ bh.length + t.ht := by
  induction t with
  | set _ _ => intro bh p hp; rw [List.mem_singleton.mp hp]; exact Nat.le_refl _
  | seq a b iha ihb =>
    intro bh p hp
    have hht : (Co.seq a b).ht = max a.ht b.ht + 1 := rfl
    rcases List.mem_append.mp hp with hp | hp
    · have := iha p hp; simp at this; omega
    · have := ihb p hp; omega
  | alt a b iha ihb =>
    intro bh p hp
    have hht : (Co.alt a b).ht = max a.ht b.ht + 1 := rfl
    rcases List.mem_append.mp hp with hp | hp
    · have := iha p hp; omega
    · have := ihb p hp; omega
  | ne a iha => intro bh p hp; have hht : (Co.ne a).ht = a.ht + 1 := rfl; have := iha p hp; omega
  | star a g iha => intro bh p hp; have hht : (Co.star a g).ht = a.ht + 1 := rfl; have := iha p hp; simp at this; omega
  | _ => intro bh p hp; cases hp
theorem rests_sz {t : Co} : ∀ {bh : List Co} {k : Nat}, (∀ u ∈ bh, u.sz ≤ k) → t.sz ≤ k → ∀ p ∈ collT t bh, ∀ u ∈ p.2.2, u.sz ≤ k := by
  induction t with
  | set _ _ => intro bh k hb _ p hp u hu; rw [List.mem_singleton.mp hp] at hu; exact hb u hu
  | seq a b iha ihb =>
    intro bh k hb hz p hp u hu
    have hs : (Co.seq a b).sz = a.sz + b.sz := rfl
    rcases List.mem_append.mp hp with hp | hp
    · refine iha (fun v hv => ?_) (by omega) p hp u hu
      rcases List.mem_cons.mp hv with hv | hv
      · rw [hv]; omega
      · exact hb v hv
    · exact ihb hb (by omega) p hp u hu
  | alt a b iha ihb =>
    intro bh k hb hz p hp u hu
    have hs : (Co.alt a b).sz = a.sz + b.sz := rfl
    rcases List.mem_append.mp hp with hp | hp
    · exact iha hb (by omega) p hp u hu
    · exact ihb hb (by omega) p hp u hu
  | ne a iha => intro bh k hb hz p hp u hu; exact iha hb hz p hp u hu
  | star a g iha =>
    intro bh k hb hz p hp u hu
    have hs : (Co.star a g).sz = a.sz + 1 := rfl
    refine iha (fun v hv => ?_) (by omega) p hp u hu
    rcases List.mem_cons.mp hv with hv | hv
    · rw [hv]; omega
    · exact hb v hv
  | _ => intro bh k hb hz p hp; cases hp
theorem rd227 {Φ : Nat → SpD} {κ : Nat → D} (h217 : Φ 217 = sp217 (60)) (h216 : Φ 216 = sp216 (60)) : RdOk Φ κ c227 6 (sp227) := by
  rintro ds M Q E hM hd ⟨t, b, n, s, r, g, l, x, rfl, hh, hf, hb, hr, hg, hl, hz, hx, hQ⟩
  rw [coreV_eq]
  cases n with
  | none =>
    rw [on_none]; walk_at "go"
    rw [h217]
    exact ⟨t, s, r, g, l, x, rfl, hh, hf, hb, hr, hg, hl, by omega, hx, .keep hQ⟩
  | some n =>
    unfold mvs at hx
    dsimp only at hx
    split at hx
    · next p hp =>
      have hpm := List.mem_of_getElem? hp
      have hrl := rests_len p hpm
      simp only [List.length_nil, Nat.zero_add] at hrl
      have hfr := fit_rests hf (fun _ h => by cases h) (Nat.le_refl _) (by omega) p hpm
      have hrz := rests_sz (k := 10000) (fun _ h => by cases h) hz p hpm
      rw [on_some]; walk_at "go"
      rw [atQ_at (f := fun p => rsD' p.2.2) hp, rsD'_eq]
      walk_at "go"
      refine for_list [4, 5] (fun rem js M' => ∃ (ms : List Mv) (x5 : Option D), js = [some (.lst (ms.map mvD)), x5] ∧ M = M' ∧ mvR s rem ms = some x ∧ ends1 ms ∧ mvsFit g l ms ∧ ms.length + rem.length * 10000 ≤ 1 + p.2.2.length * 10000 ∧ ∀ u ∈ rem, u ∈ p.2.2) ⟨[_, _], rfl, [(none, r)], _, rfl, rfl, hx, by simp [ends1], fun m hm => by rw [List.mem_singleton.mp hm]; exact hr, by simp, fun _ h => h⟩ ?_ ?_
      · rintro u rem js M' nx ⟨ms, x5, rfl, rfl, h1, h2, h3, h4, h5⟩ hn
        have hu := h5 u List.mem_cons_self
        have hu2 := hfr u hu
        have hu3 := hrz u hu
        walk_at "go"
        unfold mvR at h1
        split at h1
        · next y hy =>
          have hyl := spl_len (k := u.sz) (fun r x h => (mv_len h).1) hy
          unfold ends1 at h2
          have hy2 : (ms.filter fun m => m.1.isNone).length * u.sz ≤ 1 * u.sz := Nat.mul_le_mul_right _ h2
          rw [List.length_cons, Nat.add_mul] at h4
          have hfl := foe_sub (ms := y) (seen := [])
          rw [h216]
          refine ⟨_, ms, u, s, g, l, y, rfl, rfl, by omega, hu2.1, hb, h3, hg, hl, h2, by omega, by omega, hy, ?_⟩
          walk_at "go"
          refine hn [_, _] _ ⟨foe [] y, _, rfl, rfl, h1, foe_ends1, fun m hm => spl_fit (fun r x hr h => mv_fit hr h) h3 hy m (foe_mem hm), by omega, fun v hv => h5 v (List.mem_cons_of_mem _ hv)⟩
        · cases h1
      · rintro js M' ⟨ms, x5, rfl, rfl, h1, h2, h3, h4, h5⟩
        cases h1
        walk_at "go"
        exact .keep hQ
    · cases hx

/-! moves are always there where all groups were opened -/
def rgOp (g l : Nat) : Option Rgs → Prop
  | none => True
  | some r => Rgs.fit g l r ∧ ∀ x ∈ r.1, x.isSome = true
def mvsOp (g l : Nat) (ms : List Mv) : Prop := ∀ m ∈ ms, rgOp g l m.2
theorem notedR_cls {pos : Int} {o : List (Option Int)} {h : List (Option (Int × Int))} {m : List (Option Int)} {g : Nat} {st : Int} (hst : o[g]? = some (some st)) : notedR pos (.cls g) (o, h, m) = some (o, h.set g (some (if pos < st then pos else st, if pos > st then pos else st)), m) := by
  show (match o[g]? with
    | some (some st) => some (o, h.set g (some (if pos < st then pos else st, if pos > st then pos else st)), m)
    | _ => none) = _
  rw [hst]
theorem note_tot {g l : Nat} {pos : Int} {t : Co} {r : Option Rgs} (ht : t.fit g l) (hr : rgOp g l r) : ∃ q, noteO pos t r = some q ∧ rgOp g l q := by
  cases r with
  | none => exact ⟨none, rfl, trivial⟩
  | some r =>
    obtain ⟨hf, ho⟩ := hr
    have key : ∃ q, notedR pos t r = some q ∧ ∀ x ∈ q.1, x.isSome = true := by
      obtain ⟨o, h, m⟩ := r
      cases t with
      | opn k =>
        refine ⟨_, rfl, fun x hx => ?_⟩
        rcases List.mem_or_eq_of_mem_set hx with z | z
        · exact ho x z
        · rw [z]; rfl
      | cls k =>
        have hk : k < o.length := by
          have h1 : o.length = g := hf.1
          have h2 : k < g := ht
          omega
        have hs := ho _ (List.getElem_mem hk)
        obtain ⟨st, hst⟩ := Option.isSome_iff_exists.mp hs
        exact ⟨_, notedR_cls (by rw [List.getElem?_eq_getElem hk, hst]), ho⟩
      | bit k b => cases b <;> exact ⟨_, rfl, ho⟩
      | _ => exact ⟨_, rfl, ho⟩
    obtain ⟨q, h1, h2⟩ := key
    exact ⟨some q, by show Option.map some (notedR pos t r) = _; rw [h1]; rfl, notedR_fit hf h1, h2⟩
theorem spl_tot {g l : Nat} {f : Option Rgs → Option (List Mv)} (hf : ∀ r, rgOp g l r → ∃ x, f r = some x ∧ mvsOp g l x) : ∀ {ms : List Mv}, mvsOp g l ms → ∃ x, spl f ms = some x ∧ mvsOp g l x
  | [], _ => ⟨[], rfl, fun m hm => by cases hm⟩
  | m :: ms, hm => by
    obtain ⟨x, h1, h2⟩ := spl_tot hf (ms := ms) fun y hy => hm y (List.mem_cons_of_mem _ hy)
    have hmm := hm m List.mem_cons_self
    unfold spl
    cases e : m.1 with
    | none =>
      obtain ⟨a, ha, ha2⟩ := hf _ hmm
      refine ⟨a ++ x, by simp only [ha, h1], fun y hy => ?_⟩
      rcases List.mem_append.mp hy with hy | hy
      · exact ha2 y hy
      · exact h2 y hy
    | some k =>
      refine ⟨m :: x, by simp only [h1]; rfl, fun y hy => ?_⟩
      rcases List.mem_cons.mp hy with hy | hy
      · rw [hy]; exact hmm
      · exact h2 y hy
theorem mv_tot {g l : Nat} {s : Sp} : ∀ {t : Co} {r : Option Rgs}, t.fit g l → rgOp g l r → ∃ x, mv s t r = some x ∧ mvsOp g l x
  | .set n ps, r, _, hr => ⟨_, rfl, fun m hm => by rw [List.mem_singleton.mp hm]; exact hr⟩
  | .seq a b, r, hf, hr => by
    obtain ⟨z, h1, h2⟩ := mv_tot hf.1 hr
    obtain ⟨y, h3, h4⟩ := spl_tot (f := mv s b) (fun r hr => mv_tot hf.2 hr) h2
    exact ⟨foe [] y, by unfold mv; rw [h1, Option.bind_some, h3]; rfl, fun m hm => h4 m (foe_mem hm)⟩
  | .alt a b, r, hf, hr => by
    obtain ⟨z, h1, h2⟩ := mv_tot hf.1 hr
    obtain ⟨y, h3, h4⟩ := mv_tot hf.2 hr
    refine ⟨foe [] (z ++ y), by unfold mv; rw [h1, h3], fun m hm => ?_⟩
    rcases List.mem_append.mp (foe_mem hm) with hm | hm
    · exact h2 m hm
    · exact h4 m hm
  | .ne a, r, hf, hr => by
    obtain ⟨z, h1, h2⟩ := mv_tot (t := a) hf hr
    exact ⟨tks z, by unfold mv; rw [h1]; rfl, fun m hm => h2 m (tks_mem hm)⟩
  | .star a b, r, hf, hr => by
    obtain ⟨z, h1, h2⟩ := mv_tot (t := a) hf hr
    refine ⟨_, by unfold mv; rw [h1]; rfl, fun m hm => ?_⟩
    cases b
    · simp at hm
      rcases hm with hm | hm
      · subst hm; exact hr
      · exact h2 m (tks_mem hm)
    · simp at hm
      rcases hm with hm | hm
      · exact h2 m (tks_mem hm)
      · subst hm; exact hr
  | .opn _, r, hf, hr | .cls _, r, hf, hr | .fgt _ _, r, hf, hr | .bit _ _, r, hf, hr | .anc _, r, hf, hr | .emp, r, hf, hr => by
    unfold mv
    obtain ⟨q, h1, h2⟩ := note_tot hf hr
    split
    · exact ⟨[(none, q)], by rw [h1]; rfl, fun m hm => by rw [List.mem_singleton.mp hm]; exact h2⟩
    · exact ⟨[], rfl, fun m hm => by cases hm⟩
theorem mvR_tot {g l : Nat} {s : Sp} : ∀ {bh : List Co} {ms : List Mv}, (∀ u ∈ bh, u.fit g l) → mvsOp g l ms → ∃ x, mvR s bh ms = some x ∧ mvsOp g l x
  | [], ms, _, h => ⟨ms, rfl, h⟩
  | u :: us, ms, hf, h => by
    obtain ⟨y, h1, h2⟩ := spl_tot (f := mv s u) (fun r hr => mv_tot (hf u List.mem_cons_self) hr) h
    obtain ⟨x, h3, h4⟩ := mvR_tot (bh := us) (ms := foe [] y) (fun v hv => hf v (List.mem_cons_of_mem _ hv)) fun m hm => h2 m (foe_mem hm)
    exact ⟨x, by unfold mvR; rw [h1]; exact h3, h4⟩
/-- registers make no difference to the numbers -/
theorem foe_num : ∀ {a b : List Mv} {seen : List (Option Nat)}, a.map (·.1) = b.map (·.1) → (foe seen a).map (·.1) = (foe seen b).map (·.1)
  | [], [], _, _ => rfl
  | [], _ :: _, _, h => by cases h
  | _ :: _, [], _, h => by cases h
  | x :: a, y :: b, seen, h => by
    rw [List.map_cons, List.map_cons] at h
    obtain ⟨h1, h2⟩ := List.cons.inj h
    rw [foe, foe, h1]
    split
    · exact foe_num h2
    · rw [List.map_cons, List.map_cons, h1, foe_num h2]
theorem tks_num : ∀ {a b : List Mv}, a.map (·.1) = b.map (·.1) → (tks a).map (·.1) = (tks b).map (·.1)
  | [], [], _ => rfl
  | [], _ :: _, h => by cases h
  | _ :: _, [], h => by cases h
  | x :: a, y :: b, h => by
    rw [List.map_cons, List.map_cons] at h
    obtain ⟨h1, h2⟩ := List.cons.inj h
    unfold tks
    rw [List.filter_cons, List.filter_cons, h1]
    have ih := tks_num h2
    unfold tks at ih
    split
    · rw [List.map_cons, List.map_cons, h1, ih]
    · exact ih
theorem spl_num {f f' : Option Rgs → Option (List Mv)} (hf : ∀ r r' x x', f r = some x → f' r' = some x' → x.map (·.1) = x'.map (·.1)) : ∀ {a b x y : List Mv}, a.map (·.1) = b.map (·.1) → spl f a = some x → spl f' b = some y → x.map (·.1) = y.map (·.1)
  | [], [], _, _, _, h1, h2 => by cases h1; cases h2; rfl
  | [], _ :: _, _, _, h, _, _ => by cases h
  | _ :: _, [], _, _, h, _, _ => by cases h
  | m :: a, n :: b, x, y, h, h1, h2 => by
    rw [List.map_cons, List.map_cons] at h
    obtain ⟨e1, e2⟩ := List.cons.inj h
    rcases spl_cons h1 with ⟨p, q, f1, f2, f3, rfl⟩ | ⟨k, q, f1, f3, rfl⟩
    · rcases spl_cons h2 with ⟨p', q', g1, g2, g3, rfl⟩ | ⟨k', q', g1, g3, rfl⟩
      · rw [List.map_append, List.map_append, hf _ _ _ _ f2 g2, spl_num hf e2 f3 g3]
      · rw [f1, g1] at e1; cases e1
    · rcases spl_cons h2 with ⟨p', q', g1, g2, g3, rfl⟩ | ⟨k', q', g1, g3, rfl⟩
      · rw [f1, g1] at e1; cases e1
      · rw [List.map_cons, List.map_cons, e1, spl_num hf e2 f3 g3]
theorem mv_num {s : Sp} : ∀ {t : Co} {r r' : Option Rgs} {x x' : List Mv}, mv s t r = some x → mv s t r' = some x' → x.map (·.1) = x'.map (·.1)
  | .set n ps, r, r', x, x', h, h' => by cases h; cases h'; rfl
  | .seq a b, r, r', x, x', h, h' => by
    obtain ⟨y, hy, e⟩ := Option.map_eq_some_iff.mp h
    obtain ⟨z, hz, hy⟩ := Option.bind_eq_some_iff.mp hy
    obtain ⟨y', hy', e'⟩ := Option.map_eq_some_iff.mp h'
    obtain ⟨z', hz', hy'⟩ := Option.bind_eq_some_iff.mp hy'
    subst e; subst e'
    exact foe_num (spl_num (fun r r' x x' h h' => mv_num h h') (mv_num hz hz') hy hy')
  | .alt a b, r, r', x, x', h, h' => by
    unfold mv at h h'
    split at h
    · next y z hy hz =>
      split at h'
      · next y' z' hy' hz' =>
        cases h; cases h'
        refine foe_num ?_
        rw [List.map_append, List.map_append, mv_num hy hy', mv_num hz hz']
      · cases h'
    · cases h
  | .ne a, r, r', x, x', h, h' => by
    obtain ⟨y, hy, e⟩ := Option.map_eq_some_iff.mp h
    obtain ⟨y', hy', e'⟩ := Option.map_eq_some_iff.mp h'
    subst e; subst e'
    exact tks_num (mv_num hy hy')
  | .star a g, r, r', x, x', h, h' => by
    obtain ⟨y, hy, e⟩ := Option.map_eq_some_iff.mp h
    obtain ⟨y', hy', e'⟩ := Option.map_eq_some_iff.mp h'
    subst e; subst e'
    have := tks_num (mv_num hy hy')
    cases g <;> simp [this]
  | .opn _, r, r', x, x', h, h' | .cls _, r, r', x, x', h, h' | .fgt _ _, r, r', x, x', h, h' | .bit _ _, r, r', x, x', h, h' | .anc _, r, r', x, x', h, h' | .emp, r, r', x, x', h, h' => by
    unfold mv at h h'
    split at h
    · next hp =>
      rw [if_pos hp] at h'
      obtain ⟨y, hy, e⟩ := Option.map_eq_some_iff.mp h
      obtain ⟨y', hy', e'⟩ := Option.map_eq_some_iff.mp h'
      subst e; subst e'; rfl
    · next hp =>
      rw [if_neg hp] at h'
      cases h; cases h'; rfl
theorem mvR_num {s : Sp} : ∀ {bh : List Co} {a b x y : List Mv}, a.map (·.1) = b.map (·.1) → mvR s bh a = some x → mvR s bh b = some y → x.map (·.1) = y.map (·.1)
  | [], _, _, _, _, h, h1, h2 => by cases h1; cases h2; exact h
  | u :: us, a, b, x, y, h, h1, h2 => by
    unfold mvR at h1 h2
    split at h1
    · next p hp =>
      split at h2
      · next q hq => exact mvR_num (foe_num (spl_num (fun r r' x x' h h' => mv_num h h') h hp hq)) h1 h2
      · cases h2
    · cases h1
theorem plain_oi (o : Option Int) : Plain 1 (oD o) := by cases o <;> trivial
theorem plain_gp (o : Option (Int × Int)) : Plain 2 (gpD o) := by
  cases o with
  | none => trivial
  | some p => exact ⟨by show (2 : Nat) < 2 ^ 62; decide, fun d hd => by simp at hd; rcases hd with rfl | rfl <;> trivial⟩
theorem plain_rg {g l : Nat} (hg : g < 1000) (hl : l < 1000) : ∀ {r : Option Rgs}, rgFit g l r → Plain 4 (rgD r)
  | none, _ => trivial
  | some r, h => by
    obtain ⟨h1, h2, h3⟩ := h
    refine ⟨by show (3 : Nat) < 2 ^ 62; decide, fun d hd => ?_⟩
    simp only [List.mem_cons, List.not_mem_nil, or_false] at hd
    rcases hd with rfl | rfl | rfl
    · refine ⟨by show (r.1.map oD).length < 2 ^ 62; rw [List.length_map, show r.1.length = _ from h1]; omega, fun d hd => ?_⟩
      obtain ⟨o, _, rfl⟩ := List.mem_map.mp hd
      exact plain_mono (n := 1) (m := 2) (plain_oi o) (by decide)
    · refine ⟨by show (r.2.1.map gpD).length < 2 ^ 62; rw [List.length_map, show r.2.1.length = _ from h2]; omega, fun d hd => ?_⟩
      obtain ⟨o, _, rfl⟩ := List.mem_map.mp hd
      exact plain_gp o
    · refine ⟨by show (r.2.2.map oD).length < 2 ^ 62; rw [List.length_map, show r.2.2.length = _ from h3]; omega, fun d hd => ?_⟩
      obtain ⟨o, _, rfl⟩ := List.mem_map.mp hd
      exact plain_mono (n := 1) (m := 2) (plain_oi o) (by decide)
theorem plain_mvs {g l : Nat} (hg : g < 1000) (hl : l < 1000) {ms : List Mv} (h : mvsFit g l ms) (hz : ms.length < 2 ^ 62) : Plain 6 (.lst (ms.map mvD)) := by
  refine ⟨by rw [List.length_map]; exact hz, fun d hd => ?_⟩
  obtain ⟨m, hm, rfl⟩ := List.mem_map.mp hd
  refine ⟨by show (2 : Nat) < 2 ^ 62; decide, fun d hd => ?_⟩
  simp only [List.mem_cons, List.not_mem_nil, or_false] at hd
  rcases hd with rfl | rfl
  · cases m.1 <;> trivial
  · exact plain_rg hg hl (h m hm)
theorem plain_nums {ms : List Mv} (hz : ms.length < 2 ^ 62) : Plain 6 (.lst (ms.map fun m => onD m.1)) := by
  refine ⟨by rw [List.length_map]; exact hz, fun d hd => ?_⟩
  obtain ⟨m, hm, rfl⟩ := List.mem_map.mp hd
  cases m.1 <;> trivial
theorem mvsOp_fit {g l : Nat} {ms : List Mv} (h : mvsOp g l ms) : mvsFit g l ms := fun m hm => by
  have := h m hm
  cases e : m.2 with
  | none => trivial
  | some r => rw [e] at this; exact this.1
theorem same_eq {d : D} {n : Nat} {M : Md} {Q : QE} {E : EX} (h : Plain n d) (q : Q (.bl true) M) : sp3 n [d, d] M Q E := ⟨_, _, rfl, eqv_refl h, q⟩

theorem collT_at {t : Co} {n : Nat} (h : n < (collT t []).length) : ∃ p, (collT t [])[n]? = some p := ⟨_, List.getElem?_eq_getElem h⟩
theorem mvs_some {s : Sp} {t : Co} {n : Nat} {r : Option Rgs} {p : Nat × List (Int × Int) × List Co} (hp : (collT t [])[n]? = some p) : mvs s t (some n) r = mvR s p.2.2 [(none, r)] := by
  show (match (collT t [])[n]? with
    | some p => mvR s p.2.2 [(none, r)]
    | none => none) = _
  rw [hp]
theorem mvR_len {s : Sp} {k : Nat} : ∀ {bh : List Co} {ms x : List Mv}, (∀ u ∈ bh, u.sz ≤ k) → ends1 ms → mvR s bh ms = some x → x.length ≤ ms.length + bh.length * k
  | [], _, _, _, _, h => by cases h; simp
  | u :: us, ms, x, hb, he, h => by
    unfold mvR at h
    split at h
    · next y hy =>
      have h1 := spl_len (k := u.sz) (fun r x h => (mv_len h).1) hy
      unfold ends1 at he
      have h2 : (ms.filter fun m => m.1.isNone).length * u.sz ≤ 1 * u.sz := Nat.mul_le_mul_right _ he
      have h3 := foe_sub (ms := y) (seen := [])
      have h4 := mvR_len (fun v hv => hb v (List.mem_cons_of_mem _ hv)) foe_ends1 h
      have h5 := hb u List.mem_cons_self
      rw [List.length_cons, Nat.add_mul]
      omega
    · cases h
/-- the numbers of the sets are below k -/
def Co.numb (k : Nat) : Co → Prop
  | .set n _ => n < k
  | .seq a b => a.numb k ∧ b.numb k
  | .alt a b => a.numb k ∧ b.numb k
  | .ne a => a.numb k
  | .star a _ => a.numb k
  | _ => True
theorem numb_mono {k k' : Nat} (h : k ≤ k') : ∀ {t : Co}, t.numb k → t.numb k'
  | .set n ps, z => Nat.lt_of_lt_of_le z h
  | .seq a b, z => ⟨numb_mono (t := a) h z.1, numb_mono (t := b) h z.2⟩
  | .alt a b, z => ⟨numb_mono (t := a) h z.1, numb_mono (t := b) h z.2⟩
  | .ne a, z => numb_mono (t := a) h z
  | .star a g, z => numb_mono (t := a) h z
  | .opn _, _ | .cls _, _ | .fgt _ _, _ | .bit _ _, _ | .anc _, _ | .emp, _ => trivial
def mvsNb (k : Nat) (ms : List Mv) : Prop := ∀ m ∈ ms, ∀ n, m.1 = some n → n < k
theorem spl_nb {k : Nat} {f : Option Rgs → Option (List Mv)} (hf : ∀ r x, f r = some x → mvsNb k x) : ∀ {ms x : List Mv}, mvsNb k ms → spl f ms = some x → mvsNb k x
  | [], _, _, h => by cases h; intro m hm; cases hm
  | m :: ms, x, hm, h => by
    have hm2 : mvsNb k ms := fun y hy => hm y (List.mem_cons_of_mem _ hy)
    unfold spl at h
    split at h
    · split at h
      · next a b ha hb =>
        cases h
        intro y hy
        rcases List.mem_append.mp hy with hy | hy
        · exact hf _ _ ha y hy
        · exact spl_nb hf hm2 hb y hy
      · cases h
    · obtain ⟨z, hz, e⟩ := Option.map_eq_some_iff.mp h
      subst e
      intro y hy
      rcases List.mem_cons.mp hy with hy | hy
      · rw [hy]; exact hm m List.mem_cons_self
      · exact spl_nb hf hm2 hz y hy
theorem mv_nb {k : Nat} {s : Sp} : ∀ {t : Co} {r : Option Rgs} {x : List Mv}, t.numb k → mv s t r = some x → mvsNb k x
  | .set n ps, r, x, hr, h => by
    cases h; intro m hm; simp at hm; subst hm; intro n h; cases h; exact hr
  | .seq a b, r, x, hr, h => by
    obtain ⟨y, hy, e⟩ := Option.map_eq_some_iff.mp h
    obtain ⟨z, hz, hy⟩ := Option.bind_eq_some_iff.mp hy
    subst e
    have := spl_nb (fun r x h => mv_nb hr.2 h) (mv_nb hr.1 hz) hy
    exact fun m hm => this m (foe_mem hm)
  | .alt a b, r, x, hr, h => by
    unfold mv at h
    split at h
    · next y z hy hz =>
      cases h
      intro m hm
      rcases List.mem_append.mp (foe_mem hm) with hm | hm
      · exact mv_nb hr.1 hy m hm
      · exact mv_nb hr.2 hz m hm
    · cases h
  | .ne a, r, x, hr, h => by
    obtain ⟨y, hy, e⟩ := Option.map_eq_some_iff.mp h
    subst e
    exact fun m hm => mv_nb (t := a) hr hy m (tks_mem hm)
  | .star a g, r, x, hr, h => by
    obtain ⟨y, hy, e⟩ := Option.map_eq_some_iff.mp h
    subst e
    intro m hm
    cases g
    · simp at hm
      rcases hm with hm | hm
      · subst hm; intro n h; cases h
      · exact mv_nb (t := a) hr hy m (tks_mem hm)
    · simp at hm
      rcases hm with hm | hm
      · exact mv_nb (t := a) hr hy m (tks_mem hm)
      · subst hm; intro n h; cases h
  | .opn _, r, x, hr, h | .cls _, r, x, hr, h | .fgt _ _, r, x, hr, h | .bit _ _, r, x, hr, h | .anc _, r, x, hr, h | .emp, r, x, hr, h => by
    unfold mv at h
    split at h
    · obtain ⟨y, hy, e⟩ := Option.map_eq_some_iff.mp h
      subst e
      intro m hm
      simp at hm
      subst hm
      intro n h; cases h
    · cases h; intro m hm; cases hm
theorem mvR_nb {k : Nat} {s : Sp} : ∀ {bh : List Co} {ms x : List Mv}, (∀ u ∈ bh, u.numb k) → mvsNb k ms → mvR s bh ms = some x → mvsNb k x
  | [], _, _, _, hm, h => by cases h; exact hm
  | u :: us, ms, x, hb, hm, h => by
    unfold mvR at h
    split at h
    · next y hy =>
      have h1 := spl_nb (fun r x h => mv_nb (hb u List.mem_cons_self) h) hm hy
      exact mvR_nb (fun v hv => hb v (List.mem_cons_of_mem _ hv)) (fun m hm => h1 m (foe_mem hm)) h
    · cases h
theorem rests_nb {k : Nat} : ∀ {t : Co} {bh : List Co}, t.numb k → (∀ u ∈ bh, u.numb k) → ∀ p ∈ collT t bh, ∀ u ∈ p.2.2, u.numb k
  | .set _ _, bh, _, hb, p, hp, u, hu => by
    rw [List.mem_singleton.mp hp] at hu; exact hb u hu
  | .seq a b, bh, hf, hb, p, hp, u, hu => by
    rcases List.mem_append.mp hp with hp | hp
    · refine rests_nb hf.1 (fun v hv => ?_) p hp u hu
      rcases List.mem_cons.mp hv with hv | hv
      · rw [hv]; exact hf.2
      · exact hb v hv
    · exact rests_nb hf.2 hb p hp u hu
  | .alt a b, bh, hf, hb, p, hp, u, hu => by
    rcases List.mem_append.mp hp with hp | hp
    · exact rests_nb hf.1 hb p hp u hu
    · exact rests_nb hf.2 hb p hp u hu
  | .ne a, bh, hf, hb, p, hp, u, hu => rests_nb (t := a) hf hb p hp u hu
  | .star a g', bh, hf, hb, p, hp, u, hu => by
    refine rests_nb (t := a) hf (fun v hv => ?_) p hp u hu
    rcases List.mem_cons.mp hv with hv | hv
    · rw [hv]; exact hf
    · exact hb v hv
  | .opn _, _, _, _, p, hp, _, _ | .cls _, _, _, _, p, hp, _, _ | .fgt _ _, _, _, _, p, hp, _, _ | .bit _ _, _, _, _, p, hp, _, _ | .anc _, _, _, _, p, hp, _, _ | .emp, _, _, _, p, hp, _, _ => by cases hp
theorem mvs_nb {k : Nat} {s : Sp} {t : Co} {n : Option Nat} {r : Option Rgs} {x : List Mv} (ht : t.numb k) (h : mvs s t n r = some x) : mvsNb k x := by
  cases n with
  | none => exact mv_nb ht h
  | some n =>
    unfold mvs at h; dsimp only at h
    split at h
    · next p hp => exact mvR_nb (rests_nb ht (fun _ h => by cases h) p (List.mem_of_getElem? hp)) (fun m hm n h => by rw [List.mem_singleton.mp hm] at h; cases h) h
    · cases h
theorem mvs_len {s : Sp} {t : Co} {n : Option Nat} {r : Option Rgs} {x : List Mv} (hh : t.ht < 60) (hz : t.sz ≤ 10000) (h : mvs s t n r = some x) : x.length ≤ 1010000 := by
  cases n with
  | none => have := (mv_len (t := t) h).1; omega
  | some n =>
    unfold mvs at h; dsimp only at h
    split at h
    · next p hp =>
      have h1 := rests_sz (k := 10000) (fun _ h => by cases h) hz p (List.mem_of_getElem? hp)
      have h2 := rests_len p (List.mem_of_getElem? hp)
      have h3 := mvR_len h1 (by simp [ends1]) h
      have h4 : p.2.2.length * 10000 ≤ 100 * 10000 := Nat.mul_le_mul_right _ (by simp at h2; omega)
      simp only [List.length_cons, List.length_nil] at h3
      omega
    · cases h
theorem spl_fitx {g l : Nat} {s : Sp} {bh : List Co} : ∀ {ms x : List Mv}, mvsFit g l ms → mvR s bh ms = some x → mvsFit g l x := by
  induction bh with
  | nil => intro ms x hm h; cases h; exact hm
  | cons u us ih =>
    intro ms x hm h
    unfold mvR at h
    split at h
    · next y hy =>
      have h1 := spl_fit (fun r x hr h => mv_fit hr h) hm hy
      exact ih (fun m hm => h1 m (foe_mem hm)) h
    · cases h
theorem mvs_fit {g l : Nat} {s : Sp} {t : Co} {n : Option Nat} {r : Option Rgs} {x : List Mv} (hr : rgFit g l r) (h : mvs s t n r = some x) : mvsFit g l x := by
  cases n with
  | none => exact mv_fit (t := t) hr h
  | some n =>
    unfold mvs at h; dsimp only at h
    split at h
    · exact spl_fitx (fun m hm => by rw [List.mem_singleton.mp hm]; exact hr) h
    · cases h
theorem mvs_tot {g l : Nat} {s : Sp} {t : Co} {n : Option Nat} {r : Option Rgs} (hz : t.sz ≤ 1000000) (hf : t.fit g l) (hr : rgOp g l r) (hn : ∀ k, n = some k → k < (collT t []).length) : ∃ x, mvs s t n r = some x ∧ mvsOp g l x := by
  cases n with
  | none => exact mv_tot hf hr
  | some n =>
    obtain ⟨p, hp⟩ := collT_at (hn n rfl)
    rw [mvs_some hp]
    refine mvR_tot (fun u hu => ?_) fun m hm => by rw [List.mem_singleton.mp hm]; exact hr
    exact (fit_rests hf (fun _ h => by cases h) (Nat.le_refl t.ht) hz p (List.mem_of_getElem? hp) u hu).1
/-- the six anchors -/
def ancOk (s : Str) : Prop := s = "text_start" ∨ s = "text_end" ∨ s = "line_start" ∨ s = "line_end" ∨ s = "word_boundary" ∨ s = "no_word_boundary"
theorem ancOk_len {s : Str} (h : ancOk s) : s.length ≤ sizeLine := by
  rcases h with rfl | rfl | rfl | rfl | rfl | rfl <;> decide

/-! trees of patterns, their looks with numbers or without -/
inductive Pt where
  | set (ps : List (Int × Int)) | empty | anchor (s : Str) | seq (a b : Pt) | alt (a b : Pt) | rep (t : Pt) (lo : Nat) (hi : Option Nat) (g : Bool) | grp (n : Nat) (t : Pt) | look (a p : Bool) (t : Pt) (k : Option Nat)
def ptD : Pt → D
  | .set ps => .tup [.str "set", .tup (ps.map pr)]
  | .empty => .tup [.str "empty"]
  | .anchor s => .tup [.str "anchor", .str s]
  | .seq a b => .tup [.str "sequence", ptD a, ptD b]
  | .alt a b => .tup [.str "choice", ptD a, ptD b]
  | .rep t lo hi g => .tup [.str "repeat", ptD t, .int lo, onD hi, .bl g]
  | .grp n t => .tup [.str "group", .int n, ptD t]
  | .look a p t none => .tup [.str "look", .bl a, .bl p, ptD t]
  | .look a p t (some k) => .tup [.str "look", .bl a, .bl p, ptD t, .int k]
def Pt.ht : Pt → Nat
  | .seq a b => max a.ht b.ht + 1
  | .alt a b => max a.ht b.ht + 1
  | .rep t _ _ _ => t.ht + 1
  | .grp _ t => t.ht + 1
  | .look _ _ t _ => t.ht + 1
  | _ => 0
def Pt.pts : Pt → List Pt
  | .seq a b => [a, b]
  | .alt a b => [a, b]
  | .rep t _ _ _ => [t]
  | .grp _ t => [t]
  | .look _ _ t _ => [t]
  | _ => []
def Pt.grps : Pt → List Nat
  | .seq a b => a.grps ++ b.grps
  | .alt a b => a.grps ++ b.grps
  | .rep t _ _ _ => t.grps
  | .grp n t => n :: t.grps
  | .look _ _ t _ => t.grps
  | _ => []
/-- all looks, those within ahead -/
def Pt.lks : Pt → List Pt
  | .seq a b => a.lks ++ b.lks
  | .alt a b => a.lks ++ b.lks
  | .rep t _ _ _ => t.lks
  | .grp _ t => t.lks
  | .look a p t k => t.lks ++ [.look a p t k]
  | _ => []
/-- looks numbered from n on -/
def Pt.mark : Pt → Nat → Pt × Nat
  | .seq a b, n => (.seq (a.mark n).1 (b.mark (a.mark n).2).1, (b.mark (a.mark n).2).2)
  | .alt a b, n => (.alt (a.mark n).1 (b.mark (a.mark n).2).1, (b.mark (a.mark n).2).2)
  | .rep t lo hi g, n => (.rep (t.mark n).1 lo hi g, (t.mark n).2)
  | .grp k t, n => (.grp k (t.mark n).1, (t.mark n).2)
  | .look a p t _, n => (.look a p (t.mark n).1 (some (t.mark n).2), (t.mark n).2 + 1)
  | .set ps, n => (.set ps, n)
  | .empty, n => (.empty, n)
  | .anchor s, n => (.anchor s, n)
theorem Pt.pts_ht {t p : Pt} (h : p ∈ t.pts) : p.ht < t.ht := by
  cases t <;> simp [Pt.pts] at h <;> simp [Pt.ht] <;> first | (rcases h with rfl | rfl <;> omega) | (subst h; omega)
theorem Pt.lks_len : ∀ {t : Pt}, t.lks.length + 1 ≤ 2 ^ (t.ht + 1)
  | .seq a b => by
    have h1 := lks_len (t := a); have h2 := lks_len (t := b)
    have e1 : 2 ^ (a.ht + 1) ≤ 2 ^ (max a.ht b.ht + 1) := Nat.pow_le_pow_right (by omega) (by omega)
    have e2 : 2 ^ (b.ht + 1) ≤ 2 ^ (max a.ht b.ht + 1) := Nat.pow_le_pow_right (by omega) (by omega)
    show (a.lks ++ b.lks).length + 1 ≤ 2 ^ (max a.ht b.ht + 1 + 1)
    rw [List.length_append, Nat.pow_succ 2 (max a.ht b.ht + 1)]; omega
  | .alt a b => by
    have h1 := lks_len (t := a); have h2 := lks_len (t := b)
    have e1 : 2 ^ (a.ht + 1) ≤ 2 ^ (max a.ht b.ht + 1) := Nat.pow_le_pow_right (by omega) (by omega)
    have e2 : 2 ^ (b.ht + 1) ≤ 2 ^ (max a.ht b.ht + 1) := Nat.pow_le_pow_right (by omega) (by omega)
    show (a.lks ++ b.lks).length + 1 ≤ 2 ^ (max a.ht b.ht + 1 + 1)
    rw [List.length_append, Nat.pow_succ 2 (max a.ht b.ht + 1)]; omega
  | .rep t _ _ _ => by
    have h1 := lks_len (t := t)
    show t.lks.length + 1 ≤ 2 ^ (t.ht + 1 + 1)
    rw [Nat.pow_succ 2 (t.ht + 1)]; omega
  | .grp _ t => by
    have h1 := lks_len (t := t)
    show t.lks.length + 1 ≤ 2 ^ (t.ht + 1 + 1)
    rw [Nat.pow_succ 2 (t.ht + 1)]; omega
  | .look _ _ t _ => by
    have h1 := lks_len (t := t)
    have := Nat.one_le_two_pow (n := t.ht + 1)
    show (t.lks ++ [_]).length + 1 ≤ 2 ^ (t.ht + 1 + 1)
    rw [List.length_append, Nat.pow_succ 2 (t.ht + 1), List.length_singleton]; omega
  | .set _ | .empty | .anchor _ => by show (0 : Nat) + 1 ≤ 2 ^ (0 + 1); omega

/-! def 35: parts; slots 0:tree; calls []; consts []; built-ins [] -/
abbrev c35_5 : CSs := .cons (.ret (.lst false (.cons (.idx (.var 0) (.int 1)) (.cons (.idx (.var 0) (.int 2)) .nil)))) .nil
abbrev c35_6 : CSs := .cons (.ret (.lst false (.cons (.idx (.var 0) (.int 1)) .nil))) .nil
abbrev c35_7 : CSs := .cons (.ret (.lst false (.cons (.idx (.var 0) (.int 2)) .nil))) .nil
abbrev c35_8 : CSs := .cons (.ret (.lst false (.cons (.idx (.var 0) (.int 3)) .nil))) .nil
abbrev c35_4 : CSs := .cons (.ret (.lst false .nil)) .nil
abbrev c35_3 : CSs := .cons (.ifs (.cmp .eq (.idx (.var 0) (.int 0)) (.str "look")) c35_8 .nil) c35_4
abbrev c35_2 : CSs := .cons (.ifs (.cmp .eq (.idx (.var 0) (.int 0)) (.str "group")) c35_7 .nil) c35_3
abbrev c35_1 : CSs := .cons (.ifs (.cmp .eq (.idx (.var 0) (.int 0)) (.str "repeat")) c35_6 .nil) c35_2
abbrev c35 : CSs := .cons (.ifs (.cmp .inn (.idx (.var 0) (.int 0)) (.tup (.cons (.str "sequence") (.cons (.str "choice") .nil)))) c35_5 .nil) c35_1
def sp35w : SpD := fun ds M Q _ => ∃ t : Pt, ds = [ptD t] ∧ Q (.lst (t.pts.map ptD)) M
theorem ln35w : ∀ ds M Q E, sp35w ds M Q E → ds.length = 1 := by
  rintro _ _ _ _ ⟨_, rfl, _⟩; rfl
theorem rd35w {Φ : Nat → SpD} {κ : Nat → D} : RdOk Φ κ c35 1 sp35w := by
  rintro ds M Q E hM hd ⟨t, rfl, hQ⟩
  cases t with
  | look a p t k => cases k <;> (simp only [ptD]; walk_at "go"; exact .keep hQ)
  | _ => simp only [ptD]; walk_at "go"; exact .keep hQ

/-! def 199: looks_in; slots 0:tree 1:found 2:part; calls [('parts', 35), ('looks_in', 199)]; consts []; built-ins [] -/
abbrev c199_4 : CSs := .cons (.expr (.mth .extend (.var 1) (.cons (.call 199 (.cons (.var 2) .nil)) .nil))) .nil
abbrev c199_5 : CSs := .cons (.expr (.mth .append (.var 1) (.cons (.var 0) .nil))) .nil
abbrev c199_3 : CSs := .cons (.ret (.var 1)) .nil
abbrev c199_2 : CSs := .cons (.ifs (.cmp .eq (.idx (.var 0) (.int 0)) (.str "look")) c199_5 .nil) c199_3
abbrev c199_1 : CSs := .cons (.fors (.nm 2) (.seq (.call 35 (.cons (.var 0) .nil))) c199_4) c199_2
abbrev c199 : CSs := .cons (.set 1 (.lst true .nil)) c199_1
theorem nr_pt : ∀ t : Pt, noRef (ptD t) = true
  | .set ps => by
    have : noRefs (ps.map pr) = true := noRefs_pr ps
    simp only [ptD, noRef, noRefs, this, Bool.and_self]
  | .empty | .anchor _ => rfl
  | .seq a b => by simp only [ptD, noRef, noRefs, nr_pt a, nr_pt b, Bool.and_self]
  | .alt a b => by simp only [ptD, noRef, noRefs, nr_pt a, nr_pt b, Bool.and_self]
  | .rep t lo hi g => by
    have : noRef (onD hi) = true := by cases hi <;> rfl
    simp only [ptD, noRef, noRefs, nr_pt t, this, Bool.and_self]
  | .grp n t => by simp only [ptD, noRef, noRefs, nr_pt t, Bool.and_self]
  | .look a p t none => by simp only [ptD, noRef, noRefs, nr_pt t, Bool.and_self]
  | .look a p t (some k) => by simp only [ptD, noRef, noRefs, nr_pt t, Bool.and_self]
theorem nr_pts (l : List Pt) : noRefs (l.map ptD) = true := noRefs_map fun t _ => nr_pt t
def Pt.isLook : Pt → Bool
  | .look _ _ _ _ => true
  | _ => false
theorem lks_eq (t : Pt) : t.lks = (t.pts.map Pt.lks).flatten ++ if t.isLook then [t] else [] := by
  cases t <;> simp [Pt.lks, Pt.pts, Pt.isLook]
def Pt.hd : Pt → Str
  | .set _ => "set" | .empty => "empty" | .anchor _ => "anchor" | .seq _ _ => "sequence" | .alt _ _ => "choice" | .rep _ _ _ _ => "repeat" | .grp _ _ => "group" | .look _ _ _ _ => "look"
theorem pt_0 {t : Pt} {M : Md} {Q : QE} : ixD (ptD t) (.int 0) M Q = Q (.str t.hd) M := by
  cases t with
  | look a p t k => cases k <;> (simp only [ptD, ix_tup', atQ_0]; rfl)
  | _ => simp only [ptD, ix_tup', atQ_0]; rfl
theorem pt_look {t : Pt} : (t.hd = "look") ↔ t.isLook = true := by
  cases t <;> simp only [Pt.hd, Pt.isLook] <;> decide
def sp199 (n : Nat) : SpD := fun ds M Q _ => ∃ t : Pt, ds = [ptD t] ∧ t.ht < n ∧ t.ht ≤ 20 ∧ Q (.lst (t.lks.map ptD)) M
theorem ln199 (n : Nat) : ∀ ds M Q E, sp199 n ds M Q E → ds.length = 1 := by
  rintro _ _ _ _ ⟨_, rfl, _⟩; rfl
theorem z199 : ∀ ds M Q E, sp199 0 ds M Q E → False := by
  rintro _ _ _ _ ⟨_, _, h, _⟩; omega
theorem rd199 {Φ : Nat → SpD} {κ : Nat → D} {n : Nat} (h35 : Φ 35 = sp35w) (h199 : Φ 199 = sp199 n) : RdOk Φ κ c199 3 (sp199 (n + 1)) := by
  rintro ds M Q E hM hd ⟨t, rfl, hh, hh2, hQ⟩
  have hlen : t.lks.length < 4000000 := by
    have h1 := Pt.lks_len (t := t)
    have h2 : 2 ^ (t.ht + 1) ≤ 2 ^ 21 := Nat.pow_le_pow_right (by omega) (by omega)
    omega
  have he := lks_eq t
  have hle : ((t.pts.map Pt.lks).flatten).length ≤ t.lks.length := by rw [he, List.length_append]; omega
  walk_at "go"
  rw [h35]
  refine ⟨t, rfl, ?_⟩
  walk_at "go"
  refine for_list [2] (fun rem js M' => ∃ (acc : List Pt) (x2 : Option D), js = [x2] ∧ M ++ [.lst (acc.map ptD)] = M' ∧ acc ++ (rem.map Pt.lks).flatten = (t.pts.map Pt.lks).flatten ∧ ∀ p ∈ rem, p ∈ t.pts) ⟨[_], rfl, [], _, rfl, rfl, rfl, fun _ h => h⟩ ?_ ?_
  · rintro p rem js M' nx ⟨acc, x2, rfl, rfl, h1, h2⟩ hn
    have hpp := Pt.pts_ht (h2 p List.mem_cons_self)
    rw [List.map_cons, List.flatten_cons] at h1
    have hl : acc.length + p.lks.length ≤ t.lks.length := by
      have := congrArg List.length h1
      rw [List.length_append, List.length_append] at this; omega
    walk_at "go"
    rw [h199]
    refine ⟨p, rfl, by omega, by omega, ?_⟩
    walk_at "go"
    exact hn [_] _ ⟨acc ++ p.lks, _, rfl, by rw [List.map_append], by rw [List.append_assoc]; exact h1, fun q hq => h2 q (List.mem_cons_of_mem _ hq)⟩
  · rintro js M' ⟨acc, x2, rfl, rfl, h1, h2⟩
    have h1 : acc = (t.pts.map Pt.lks).flatten := by simpa using h1
    walk_at "go"
    rw [pt_0]
    walk_at "go"
    refine iteI (fun h => ?_) fun h => ?_
    · have hk := pt_look.mp h
      rw [← h1] at hle
      rw [hk, if_pos rfl, ← h1] at he
      walk_at "go"
      exact .lst rfl hM (by rw [at_new0]; rfl) (Nat.le_refl _) (by rw [show acc.map ptD ++ [ptD t] = (acc ++ [t]).map ptD by simp]; exact nr_pts _) (by rw [show acc.map ptD ++ [ptD t] = (acc ++ [t]).map ptD by simp, ← he]; exact hQ)
    · have hk : t.isLook = false := by
        cases e : t.isLook with
        | false => rfl
        | true => exact absurd (pt_look.mpr e) h
      rw [hk, if_neg Bool.false_ne_true, List.append_nil, ← h1] at he
      walk_at "go"
      exact .lst rfl hM (by rw [at_new0]; rfl) (Nat.le_refl _) (nr_pts _) (by rw [← he]; exact hQ)

/-! trees of patterns -/
inductive Tr where
  | set (ps : List (Int × Int)) | empty | anchor (s : Str) | seq (a b : Tr) | alt (a b : Tr) | rep (t : Tr) (lo : Int) (hi : Option Int) (g : Bool) | grp (n : Int) (t : Tr) | look (a p : Bool) (t : Tr)
def trD : Tr → D
  | .set ps => .tup [.str "set", .tup (ps.map pr)]
  | .empty => .tup [.str "empty"]
  | .anchor s => .tup [.str "anchor", .str s]
  | .seq a b => .tup [.str "sequence", trD a, trD b]
  | .alt a b => .tup [.str "choice", trD a, trD b]
  | .rep t lo hi g => .tup [.str "repeat", trD t, .int lo, oD hi, .bl g]
  | .grp n t => .tup [.str "group", .int n, trD t]
  | .look a p t => .tup [.str "look", .bl a, .bl p, trD t]
def Tr.ht : Tr → Nat
  | .seq a b => max a.ht b.ht + 1
  | .alt a b => max a.ht b.ht + 1
  | .rep t _ _ _ => t.ht + 1
  | .grp _ t => t.ht + 1
  | .look _ _ t => t.ht + 1
  | _ => 0
def Tr.pts : Tr → List Tr
  | .seq a b => [a, b]
  | .alt a b => [a, b]
  | .rep t _ _ _ => [t]
  | .grp _ t => [t]
  | .look _ _ t => [t]
  | _ => []
def Tr.grps : Tr → List Int
  | .seq a b => a.grps ++ b.grps
  | .alt a b => a.grps ++ b.grps
  | .rep t _ _ _ => t.grps
  | .grp n t => n :: t.grps
  | .look _ _ t => t.grps
  | _ => []
def Tr.looks : Tr → Int
  | .seq a b => a.looks + b.looks
  | .alt a b => a.looks + b.looks
  | .rep t _ _ _ => t.looks
  | .grp _ t => t.looks
  | .look _ _ t => 1 + t.looks
  | _ => 0
def Tr.wt : Tr → Int
  | .seq a b => a.wt + b.wt
  | .alt a b => a.wt + b.wt
  | .rep t lo none _ => (lo + 1) * t.wt
  | .rep t _ (some h) _ => (if h > 1 then h else 1) * t.wt
  | .grp _ t => t.wt
  | .look _ _ t => t.wt
  | _ => 1
/-- small bounds of repetitions -/
def Tr.ok : Tr → Prop
  | .seq a b => a.ok ∧ b.ok
  | .alt a b => a.ok ∧ b.ok
  | .rep t lo hi _ => (0 ≤ lo ∧ lo ≤ 100 ∧ ∀ h, hi = some h → 0 ≤ h ∧ h ≤ 100) ∧ t.ok
  | .grp _ t => t.ok
  | .look _ _ t => t.ok
  | _ => True
theorem Tr.wt_pos : ∀ {t : Tr}, t.ok → 1 ≤ t.wt
  | .seq a b, h => by have := wt_pos h.1; have := wt_pos h.2; show 1 ≤ a.wt + b.wt; omega
  | .alt a b, h => by have := wt_pos h.1; have := wt_pos h.2; show 1 ≤ a.wt + b.wt; omega
  | .rep t lo none _, h => by
    have h1 := wt_pos h.2
    have h2 := h.1.1
    show 1 ≤ (lo + 1) * t.wt
    have : 1 * 1 ≤ (lo + 1) * t.wt := Int.mul_le_mul (by omega) h1 (by omega) (by omega)
    omega
  | .rep t lo (some k) _, h => by
    have h1 := wt_pos h.2
    show 1 ≤ (if k > 1 then k else 1) * t.wt
    have : 1 * 1 ≤ (if k > 1 then k else 1) * t.wt := Int.mul_le_mul (by split <;> omega) h1 (by omega) (by split <;> omega)
    omega
  | .grp _ t, h => wt_pos (t := t) h
  | .look _ _ t, h => wt_pos (t := t) h
  | .set _, _ => by show (1 : Int) ≤ 1; omega
  | .empty, _ => by show (1 : Int) ≤ 1; omega
  | .anchor _, _ => by show (1 : Int) ≤ 1; omega
theorem Tr.pts_ht {t p : Tr} (h : p ∈ t.pts) : p.ht < t.ht := by
  cases t <;> simp [Tr.pts] at h <;> simp [Tr.ht] <;> first | (rcases h with rfl | rfl <;> omega) | (subst h; omega)
theorem Tr.pts_ok {t p : Tr} (h : p ∈ t.pts) (ho : t.ok) : p.ok := by
  cases t <;> simp [Tr.pts] at h
  · rcases h with rfl | rfl
    · exact ho.1
    · exact ho.2
  · rcases h with rfl | rfl
    · exact ho.1
    · exact ho.2
  · subst h; exact ho.2
  · subst h; exact ho
  · subst h; exact ho
theorem Tr.pts_len {t : Tr} : t.pts.length ≤ 2 := by cases t <;> simp [Tr.pts]
/-- a tree's first word -/
def Tr.hd : Tr → Str
  | .set _ => "set" | .empty => "empty" | .anchor _ => "anchor" | .seq _ _ => "sequence" | .alt _ _ => "choice" | .rep _ _ _ _ => "repeat" | .grp _ _ => "group" | .look _ _ _ => "look"
theorem trD_0 {t : Tr} {M : Md} {Q : QE} : ixD (trD t) (.int 0) M Q = Q (.str t.hd) M := by
  cases t <;> exact (ix_tup'.trans atQ_0)
theorem Tr.grps_len : ∀ {t : Tr}, t.grps.length + 1 ≤ 2 ^ (t.ht + 1)
  | .seq a b => by
    have h1 := grps_len (t := a)
    have h2 := grps_len (t := b)
    show (a.grps ++ b.grps).length + 1 ≤ 2 ^ (max a.ht b.ht + 1 + 1)
    rw [List.length_append]
    have h3 : 2 ^ (a.ht + 1) ≤ 2 ^ (max a.ht b.ht + 1) := Nat.pow_le_pow_right (by omega) (by omega)
    have h4 : 2 ^ (b.ht + 1) ≤ 2 ^ (max a.ht b.ht + 1) := Nat.pow_le_pow_right (by omega) (by omega)
    rw [Nat.pow_succ 2 (max a.ht b.ht + 1)]
    omega
  | .alt a b => by
    have h1 := grps_len (t := a)
    have h2 := grps_len (t := b)
    show (a.grps ++ b.grps).length + 1 ≤ 2 ^ (max a.ht b.ht + 1 + 1)
    rw [List.length_append]
    have h3 : 2 ^ (a.ht + 1) ≤ 2 ^ (max a.ht b.ht + 1) := Nat.pow_le_pow_right (by omega) (by omega)
    have h4 : 2 ^ (b.ht + 1) ≤ 2 ^ (max a.ht b.ht + 1) := Nat.pow_le_pow_right (by omega) (by omega)
    rw [Nat.pow_succ 2 (max a.ht b.ht + 1)]
    omega
  | .rep t _ _ _ => by
    have h1 := grps_len (t := t)
    show t.grps.length + 1 ≤ 2 ^ (t.ht + 1 + 1)
    rw [Nat.pow_succ 2 (t.ht + 1)]; omega
  | .grp _ t => by
    have h1 := grps_len (t := t)
    show (t.grps.length + 1) + 1 ≤ 2 ^ (t.ht + 1 + 1)
    rw [Nat.pow_succ 2 (t.ht + 1)]; omega
  | .look _ _ t => by
    have h1 := grps_len (t := t)
    show t.grps.length + 1 ≤ 2 ^ (t.ht + 1 + 1)
    rw [Nat.pow_succ 2 (t.ht + 1)]; omega
  | .set _ => by show 0 + 1 ≤ 2 ^ (0 + 1); decide
  | .empty => by show 0 + 1 ≤ 2 ^ (0 + 1); decide
  | .anchor _ => by show 0 + 1 ≤ 2 ^ (0 + 1); decide
theorem Tr.grps_eq {t : Tr} : t.grps = (match t with
    | .grp n _ => [n]
    | _ => []) ++ (t.pts.map Tr.grps).flatten := by
  cases t <;> simp [Tr.grps, Tr.pts]
/-- ints sorted -/
theorem sort_ints {ns : List Int} (h : ns.Pairwise (· < ·)) : SortOk (ns.map .int) ∧ sortD (ns.map .int) = ns.map .int := by
  have em : (ns.map D.int).map pyG = ns.map fun i => PyData.int i := by
    rw [List.map_map]; rfl
  refine ⟨⟨fun d hd => ?_, ?_, ?_, fun d hd => ?_⟩, ?_⟩
  · obtain ⟨p, _, rfl⟩ := List.mem_map.mp hd; rfl
  · rw [em]; exact PySem.W.AllAlike.of fun _ _ => rfl
  · rw [em]; exact PySem.W.Sortable.others fun b => ⟨nofun, nofun⟩
  · obtain ⟨p, _, rfl⟩ := List.mem_map.mp hd
    show (PyData.int p).depth ≤ 50
    simp [PyData.depth]
  · unfold sortD
    rw [← List.map_mergeSort (f := D.int) (r := PySem.W.dataLe false fun i : Int => PyData.int i) (fun a _ b _ => rfl), PySem.W.dataLe_int (fun i : Int => i), List.mergeSort_of_pairwise]
    exact h.imp fun h => decide_eq_true (by omega)
/-- the ints from g to below k -/
def rgI (g k : Nat) : List Int := (List.range' g (k - g)).map fun i : Nat => (i : Int)
theorem rgI_app {a b c : Nat} (h1 : a ≤ b) (h2 : b ≤ c) : rgI a b ++ rgI b c = rgI a c := by
  unfold rgI
  have e := List.range'_append_1 (s := a) (m := b - a) (n := c - b)
  rw [show a + (b - a) = b by omega] at e
  rw [← List.map_append, e]
  congr 2
  omega
theorem rgI_nil {a : Nat} : rgI a a = [] := by simp [rgI]
theorem rgI_cons {a b : Nat} (h : a < b) : (a : Int) :: rgI (a + 1) b = rgI a b := by
  have : rgI a (a + 1) = [(a : Int)] := by simp [rgI]
  rw [← rgI_app (a := a) (b := a + 1) (c := b) (by omega) (by omega), this]; rfl
theorem rgI_lt {a b : Nat} : (rgI a b).Pairwise (· < ·) := by
  unfold rgI
  rw [List.pairwise_map]
  exact (List.pairwise_lt_range' (s := a) (n := b - a)).imp fun h => by omega

/-! def 37: inner_groups; slots 0:tree 1:numbers 2:part; calls [('parts', 35), ('inner_groups', 37)]; consts []; built-ins ['sorted'] -/
abbrev c37_4 : CSs := .cons (.expr (.mth .append (.var 1) (.cons (.idx (.var 0) (.int 1)) .nil))) .nil
abbrev c37_5 : CSs := .cons (.expr (.mth .extend (.var 1) (.cons (.call 37 (.cons (.var 2) .nil)) .nil))) .nil
abbrev c37_3 : CSs := .cons (.ret (.blt .sorted (.cons (.var 1) .nil))) .nil
abbrev c37_2 : CSs := .cons (.fors (.nm 2) (.seq (.call 35 (.cons (.var 0) .nil))) c37_5) c37_3
abbrev c37_1 : CSs := .cons (.ifs (.cmp .eq (.idx (.var 0) (.int 0)) (.str "group")) c37_4 .nil) c37_2
abbrev c37 : CSs := .cons (.set 1 (.lst true .nil)) c37_1
def iN (n : Nat) : D := .int n
def gI (l : List Nat) : List Int := l.map fun n : Nat => (n : Int)
theorem gI_D (l : List Nat) : (gI l).map D.int = l.map iN := by rw [gI, List.map_map]; rfl
theorem Pt.grps_len : ∀ {t : Pt}, t.grps.length + 1 ≤ 2 ^ (t.ht + 1)
  | .seq a b => by
    have h1 := grps_len (t := a); have h2 := grps_len (t := b)
    have e1 : 2 ^ (a.ht + 1) ≤ 2 ^ (max a.ht b.ht + 1) := Nat.pow_le_pow_right (by omega) (by omega)
    have e2 : 2 ^ (b.ht + 1) ≤ 2 ^ (max a.ht b.ht + 1) := Nat.pow_le_pow_right (by omega) (by omega)
    show (a.grps ++ b.grps).length + 1 ≤ 2 ^ (max a.ht b.ht + 1 + 1)
    rw [List.length_append, Nat.pow_succ 2 (max a.ht b.ht + 1)]; omega
  | .alt a b => by
    have h1 := grps_len (t := a); have h2 := grps_len (t := b)
    have e1 : 2 ^ (a.ht + 1) ≤ 2 ^ (max a.ht b.ht + 1) := Nat.pow_le_pow_right (by omega) (by omega)
    have e2 : 2 ^ (b.ht + 1) ≤ 2 ^ (max a.ht b.ht + 1) := Nat.pow_le_pow_right (by omega) (by omega)
    show (a.grps ++ b.grps).length + 1 ≤ 2 ^ (max a.ht b.ht + 1 + 1)
    rw [List.length_append, Nat.pow_succ 2 (max a.ht b.ht + 1)]; omega
  | .rep t _ _ _ => by
    have h1 := grps_len (t := t)
    show t.grps.length + 1 ≤ 2 ^ (t.ht + 1 + 1)
    rw [Nat.pow_succ 2 (t.ht + 1)]; omega
  | .grp n t => by
    have h1 := grps_len (t := t)
    have := Nat.one_le_two_pow (n := t.ht + 1)
    show (n :: t.grps).length + 1 ≤ 2 ^ (t.ht + 1 + 1)
    rw [List.length_cons, Nat.pow_succ 2 (t.ht + 1)]; omega
  | .look _ _ t _ => by
    have h1 := grps_len (t := t)
    show t.grps.length + 1 ≤ 2 ^ (t.ht + 1 + 1)
    rw [Nat.pow_succ 2 (t.ht + 1)]; omega
  | .set _ | .empty | .anchor _ => by show (0 : Nat) + 1 ≤ 2 ^ (0 + 1); omega
/-- its own number, if it is a group -/
def Pt.own : Pt → List Nat
  | .grp n _ => [n]
  | _ => []
theorem grps_eq (t : Pt) : t.grps = t.own ++ (t.pts.map Pt.grps).flatten := by
  cases t <;> simp [Pt.grps, Pt.pts, Pt.own]
def sp37w (n : Nat) : SpD := fun ds M Q _ => ∃ t : Pt, ds = [ptD t] ∧ t.ht < n ∧ t.ht ≤ 20 ∧ t.grps.Pairwise (· < ·) ∧ Q (.lst (t.grps.map iN)) M
theorem ln37w (n : Nat) : ∀ ds M Q E, sp37w n ds M Q E → ds.length = 1 := by
  rintro _ _ _ _ ⟨_, rfl, _⟩; rfl
theorem z37w : ∀ ds M Q E, sp37w 0 ds M Q E → False := by
  rintro _ _ _ _ ⟨_, _, h, _⟩; omega
theorem rd37w {Φ : Nat → SpD} {κ : Nat → D} {n : Nat} (h35 : Φ 35 = sp35w) (h37 : Φ 37 = sp37w n) : RdOk Φ κ c37 3 (sp37w (n + 1)) := by
  rintro ds M Q E hM hd ⟨t, rfl, hh, hh2, hp, hQ⟩
  have hlen : t.grps.length < 4000000 := by
    have h1 := Pt.grps_len (t := t)
    have h2 : 2 ^ (t.ht + 1) ≤ 2 ^ 21 := Nat.pow_le_pow_right (by omega) (by omega)
    omega
  have he := grps_eq t
  have rest : ∀ acc : List Nat, acc = t.own → nxt Φ κ c37_2 (fun x _ M => E x M) (endsD M.length Q) [some (ptD t), some (.ref M.length), none] (M ++ [.lst (acc.map iN)]) := by
    rintro acc rfl
    walk_at "go"
    rw [h35]
    refine ⟨t, rfl, ?_⟩
    walk_at "go"
    refine for_list [2] (fun rem js M' => ∃ (acc : List Nat) (x2 : Option D), js = [x2] ∧ M ++ [.lst (acc.map iN)] = M' ∧ acc ++ (rem.map Pt.grps).flatten = t.grps ∧ ∀ p ∈ rem, p ∈ t.pts) ⟨[_], rfl, t.own, _, rfl, rfl, he.symm, fun _ h => h⟩ ?_ ?_
    · rintro p rem js M' nx ⟨acc, x2, rfl, rfl, h1, h2⟩ hn
      have hpp := Pt.pts_ht (h2 p List.mem_cons_self)
      rw [List.map_cons, List.flatten_cons] at h1
      have hl : acc.length + p.grps.length ≤ t.grps.length := by
        have := congrArg List.length h1
        rw [List.length_append, List.length_append] at this; omega
      have hpw : p.grps.Pairwise (· < ·) := by
        rw [← h1, List.pairwise_append] at hp
        exact (List.pairwise_append.mp hp.2.1).1
      walk_at "go"
      rw [h37]
      refine ⟨p, rfl, by omega, by omega, hpw, ?_⟩
      walk_at "go"
      exact hn [_] _ ⟨acc ++ p.grps, _, rfl, by rw [List.map_append], by rw [List.append_assoc]; exact h1, fun q hq => h2 q (List.mem_cons_of_mem _ hq)⟩
    · rintro js M' ⟨acc, x2, rfl, rfl, h1, h2⟩
      have h1 : acc = t.grps := by simpa using h1
      subst h1
      walk_at "go"
      have hpi : (gI t.grps).Pairwise (· < ·) := List.Pairwise.map _ (fun a b h => by omega) hp
      obtain ⟨s1, s2⟩ := sort_ints hpi
      rw [gI_D] at s1 s2
      refine ⟨s1, ?_⟩
      rw [s2]
      exact .val rfl hM (noRefs_map fun _ _ => rfl) hQ
  cases t with
  | look a p t k => cases k <;> (simp only [ptD]; walk_at "go"; exact rest [] rfl)
  | grp m t =>
    have r := rest [m] rfl
    simp only [ptD] at r ⊢
    walk_at "go"
    exact r
  | _ => simp only [ptD]; walk_at "go"; exact rest [] rfl

/-! def 203: numbered; slots 0:tree 1:first 2:kind 3:left 4:middle 5:right 6:after 7:inner; calls [('numbered', 203)]; consts []; built-ins [] -/
abbrev c203_6 : CSs := .cons (.ret (.tup (.cons (.tup (.cons (.var 2) (.cons (.var 1) (.cons (.idx (.var 0) (.int 1)) .nil)))) (.cons (.bin .add (.var 1) (.int 1)) .nil)))) .nil
abbrev c203_9 : CSs := .cons (.ret (.tup (.cons (.tup (.cons (.var 2) (.cons (.var 3) (.cons (.var 5) .nil)))) (.cons (.var 6) .nil)))) .nil
abbrev c203_8 : CSs := .cons (.setT [5, 6] (.call 203 (.cons (.idx (.var 0) (.int 2)) (.cons (.var 4) .nil)))) c203_9
abbrev c203_7 : CSs := .cons (.setT [3, 4] (.call 203 (.cons (.idx (.var 0) (.int 1)) (.cons (.var 1) .nil)))) c203_8
abbrev c203_11 : CSs := .cons (.ret (.tup (.cons (.tup (.cons (.var 2) (.cons (.var 7) .nil))) (.cons (.var 6) .nil)))) .nil
abbrev c203_10 : CSs := .cons (.setT [7, 6] (.call 203 (.cons (.idx (.var 0) (.int 1)) (.cons (.var 1) .nil)))) c203_11
abbrev c203_13 : CSs := .cons (.ret (.tup (.cons (.tup (.cons (.var 2) (.cons (.var 7) (.cons (.idx (.var 0) (.int 2)) .nil)))) (.cons (.var 6) .nil)))) .nil
abbrev c203_12 : CSs := .cons (.setT [7, 6] (.call 203 (.cons (.idx (.var 0) (.int 1)) (.cons (.var 1) .nil)))) c203_13
abbrev c203_5 : CSs := .cons (.ret (.tup (.cons (.var 0) (.cons (.var 1) .nil)))) .nil
abbrev c203_4 : CSs := .cons (.ifs (.cmp .eq (.var 2) (.str "star")) c203_12 .nil) c203_5
abbrev c203_3 : CSs := .cons (.ifs (.cmp .eq (.var 2) (.str "nonempty")) c203_10 .nil) c203_4
abbrev c203_2 : CSs := .cons (.ifs (.cmp .inn (.var 2) (.tup (.cons (.str "sequence") (.cons (.str "choice") .nil)))) c203_7 .nil) c203_3
abbrev c203_1 : CSs := .cons (.ifs (.cmp .eq (.var 2) (.str "set")) c203_6 .nil) c203_2
abbrev c203 : CSs := .cons (.set 2 (.idx (.var 0) (.int 0))) c203_1
/-- a core tree, its sets without numbers -/
def unD : Co → D
  | .set _ ps => .tup [.str "set", .tup (ps.map pr)]
  | .opn g => .tup [.str "open", .int g]
  | .cls g => .tup [.str "close", .int g]
  | .fgt gs ms => .tup [.str "forget", nats gs, nats ms]
  | .bit k b => .tup [.str "bit", .int k, .bl b]
  | .anc s => .tup [.str "anchor", .str s]
  | .emp => .tup [.str "empty"]
  | .seq a b => .tup [.str "sequence", unD a, unD b]
  | .alt a b => .tup [.str "choice", unD a, unD b]
  | .ne a => .tup [.str "nonempty", unD a]
  | .star a g => .tup [.str "star", unD a, .bl g]
/-- its sets numbered from n on -/
def Co.nb : Co → Nat → Co × Nat
  | .set _ ps, n => (.set n ps, n + 1)
  | .seq a b, n => (.seq (a.nb n).1 (b.nb (a.nb n).2).1, (b.nb (a.nb n).2).2)
  | .alt a b, n => (.alt (a.nb n).1 (b.nb (a.nb n).2).1, (b.nb (a.nb n).2).2)
  | .ne a, n => (.ne (a.nb n).1, (a.nb n).2)
  | .star a g, n => (.star (a.nb n).1 g, (a.nb n).2)
  | .opn g, n => (.opn g, n)
  | .cls g, n => (.cls g, n)
  | .fgt gs ms, n => (.fgt gs ms, n)
  | .bit k b, n => (.bit k b, n)
  | .anc s, n => (.anc s, n)
  | .emp, n => (.emp, n)
def sp203 (n : Nat) : SpD := fun ds M Q _ => ∃ (t : Co) (k : Nat), ds = [unD t, .int k] ∧ t.ht < n ∧ Q (.tup [coD (t.nb k).1, .int (t.nb k).2]) M
theorem ln203 (n : Nat) : ∀ ds M Q E, sp203 n ds M Q E → ds.length = 2 := by
  rintro _ _ _ _ ⟨_, _, rfl, _⟩; rfl
theorem z203 : ∀ ds M Q E, sp203 0 ds M Q E → False := by
  rintro _ _ _ _ ⟨_, _, _, h, _⟩; omega
theorem rd203 {Φ : Nat → SpD} {κ : Nat → D} {n : Nat} (h203 : Φ 203 = sp203 n) : RdOk Φ κ c203 8 (sp203 (n + 1)) := by
  rintro ds M Q E hM hd ⟨t, k, rfl, hh, hQ⟩
  cases t with
  | set m ps => simp only [unD]; walk_at "go"; exact .keep hQ
  | opn g => simp only [unD]; walk_at "go"; exact .keep hQ
  | cls g => simp only [unD]; walk_at "go"; exact .keep hQ
  | fgt gs ms => simp only [unD]; walk_at "go"; exact .keep hQ
  | bit m b => simp only [unD]; walk_at "go"; exact .keep hQ
  | anc s => simp only [unD]; walk_at "go"; exact .keep hQ
  | emp => simp only [unD]; walk_at "go"; exact .keep hQ
  | seq a b =>
    have hh : max a.ht b.ht + 1 < n + 1 := hh
    simp only [unD]; walk_at "go"
    rw [h203]
    refine ⟨a, k, rfl, by omega, ?_⟩
    walk_at "go"
    rw [h203]
    refine ⟨b, _, rfl, by omega, ?_⟩
    walk_at "go"
    exact .keep hQ
  | alt a b =>
    have hh : max a.ht b.ht + 1 < n + 1 := hh
    simp only [unD]; walk_at "go"
    rw [h203]
    refine ⟨a, k, rfl, by omega, ?_⟩
    walk_at "go"
    rw [h203]
    refine ⟨b, _, rfl, by omega, ?_⟩
    walk_at "go"
    exact .keep hQ
  | ne a =>
    have hh : a.ht + 1 < n + 1 := hh
    simp only [unD]; walk_at "go"
    rw [h203]
    refine ⟨a, k, rfl, by omega, ?_⟩
    walk_at "go"
    exact .keep hQ
  | star a g =>
    have hh : a.ht + 1 < n + 1 := hh
    simp only [unD]; walk_at "go"
    rw [h203]
    refine ⟨a, k, rfl, by omega, ?_⟩
    walk_at "go"
    exact .keep hQ

/-! def 201: forget_all; slots 0:tree 1:look; calls [('looks_in', 199), ('inner_groups', 37)]; consts []; built-ins ['tuple'] -/
abbrev c201 : CSs := .cons (.ret (.tup (.cons (.str "forget") (.cons (.blt .tuple (.cons (.call 37 (.cons (.var 0) .nil)) .nil)) (.cons (.blt .tuple (.cons (.comp false (.idx (.var 1) (.int 4)) (.nm 1) (.seq (.call 199 (.cons (.var 0) .nil))) .none [1]) .nil)) .nil))))) .nil
/-- every look has a number -/
def Pt.mkd : Pt → Prop
  | .seq a b => a.mkd ∧ b.mkd
  | .alt a b => a.mkd ∧ b.mkd
  | .rep t _ _ _ => t.mkd
  | .grp _ t => t.mkd
  | .look _ _ t k => t.mkd ∧ k.isSome = true
  | _ => True
def Pt.lnum : Pt → Nat
  | .look _ _ _ (some k) => k
  | _ => 0
theorem lks_mk : ∀ {t : Pt}, t.mkd → ∀ u ∈ t.lks, ∃ a p s k, u = .look a p s (some k) ∧ s.mkd
  | .seq a b, h, u, hu => by
    rcases List.mem_append.mp hu with hu | hu
    · exact lks_mk h.1 u hu
    · exact lks_mk h.2 u hu
  | .alt a b, h, u, hu => by
    rcases List.mem_append.mp hu with hu | hu
    · exact lks_mk h.1 u hu
    · exact lks_mk h.2 u hu
  | .rep t _ _ _, h, u, hu => lks_mk (t := t) h u hu
  | .grp _ t, h, u, hu => lks_mk (t := t) h u hu
  | .look a p t k, h, u, hu => by
    rcases List.mem_append.mp hu with hu | hu
    · exact lks_mk (t := t) h.1 u hu
    · rw [List.mem_singleton.mp hu]
      cases k with
      | none => exact absurd h.2 (by simp)
      | some k => exact ⟨a, p, t, k, rfl, h.1⟩
  | .set _, _, u, hu | .empty, _, u, hu | .anchor _, _, u, hu => by cases hu
def Pt.fgt (t : Pt) : Co := .fgt t.grps (t.lks.map Pt.lnum)
def sp201 : SpD := fun ds M Q _ => ∃ t : Pt, ds = [ptD t] ∧ t.mkd ∧ t.ht ≤ 20 ∧ t.grps.Pairwise (· < ·) ∧ Q (unD t.fgt) M
theorem ln201 : ∀ ds M Q E, sp201 ds M Q E → ds.length = 1 := by
  rintro _ _ _ _ ⟨_, rfl, _⟩; rfl
theorem rd201 {Φ : Nat → SpD} {κ : Nat → D} (h199 : Φ 199 = sp199 (21)) (h37 : Φ 37 = sp37w (21)) : RdOk Φ κ c201 2 (sp201) := by
  rintro ds M Q E hM hd ⟨t, rfl, hm, hh, hp, hQ⟩
  walk_at "go"
  rw [h37]
  refine ⟨t, rfl, by omega, hh, hp, ?_⟩
  walk_at "go"
  rw [h199]
  refine ⟨t, rfl, by omega, hh, ?_⟩
  walk_at "go"
  have hlen : t.lks.length < 4000000 := by
    have h1 := Pt.lks_len (t := t)
    have h2 : 2 ^ (t.ht + 1) ≤ 2 ^ 21 := Nat.pow_le_pow_right (by omega) (by omega)
    omega
  refine comp_map ptD (fun u => .int u.lnum) trivial (by rw [size_eq]; omega) ?_ ?_
  · intro u hu yes no hy
    obtain ⟨a, p, s, k, rfl, _⟩ := lks_mk hm u hu
    simp only [ptD]
    walk_at "go"
    exact hy
  walk_at "go"
  refine .keep ?_
  have e1 : D.tup (t.grps.map iN) = nats t.grps := rfl
  have e2 : D.tup (t.lks.map fun u => .int u.lnum) = nats (t.lks.map Pt.lnum) := by rw [nats, List.map_map]; rfl
  rw [e1, e2]
  exact hQ

/-! def 207: look_core; slots 0:look; calls [('forget_all', 201)]; consts []; built-ins [] -/
abbrev c207_2 : CSs := .cons (.ret (.tup (.cons (.str "bit") (.cons (.idx (.var 0) (.int 4)) (.cons (.bl false) .nil))))) .nil
abbrev c207_1 : CSs := .cons (.ret (.tup (.cons (.str "sequence") (.cons (.call 201 (.cons (.idx (.var 0) (.int 3)) .nil)) (.cons (.tup (.cons (.str "bit") (.cons (.idx (.var 0) (.int 4)) (.cons (.bl true) .nil)))) .nil))))) .nil
abbrev c207 : CSs := .cons (.ifs (.not (.idx (.var 0) (.int 2))) c207_2 .nil) c207_1
def Pt.lkCo : Pt → Co
  | .look _ p t (some k) => if p then .seq t.fgt (.bit k true) else .bit k false
  | _ => .emp
def sp207 : SpD := fun ds M Q _ => ∃ (a p : Bool) (t : Pt) (k : Nat), ds = [ptD (.look a p t (some k))] ∧ t.mkd ∧ t.ht ≤ 20 ∧ t.grps.Pairwise (· < ·) ∧ Q (unD (Pt.look a p t (some k)).lkCo) M
theorem ln207 : ∀ ds M Q E, sp207 ds M Q E → ds.length = 1 := by
  rintro _ _ _ _ ⟨_, _, _, _, rfl, _⟩; rfl
theorem rd207 {Φ : Nat → SpD} {κ : Nat → D} (h201 : Φ 201 = sp201) : RdOk Φ κ c207 1 (sp207) := by
  rintro ds M Q E hM hd ⟨a, p, t, k, rfl, hm, hh, hp, hQ⟩
  simp only [ptD]
  cases p with
  | false =>
    walk_at "go"
    exact .keep hQ
  | true =>
    walk_at "go"
    rw [h201]
    refine ⟨t, rfl, hm, hh, hp, ?_⟩
    walk_at "go"
    exact .keep hQ

/-! def 206: repeat_core; slots 0:tree 1:backward 2:iteration 3:_ 4:least 5:most 6:greedy 7:core 8:further; calls [('unnumbered', 205), ('forget_all', 201)]; consts []; built-ins ['range'] -/
abbrev c206_5 : CSs := .cons (.set 7 (.tup (.cons (.str "star") (.cons (.var 2) (.cons (.var 6) .nil))))) .nil
abbrev c206_10 : CSs := .cons (.set 7 (.tup (.cons (.str "choice") (.cons (.var 8) (.cons (.tup (.cons (.str "empty") .nil)) .nil))))) .nil
abbrev c206_11 : CSs := .cons (.set 7 (.tup (.cons (.str "choice") (.cons (.tup (.cons (.str "empty") .nil)) (.cons (.var 8) .nil))))) .nil
abbrev c206_9 : CSs := .cons (.ifs (.var 6) c206_10 c206_11) .nil
abbrev c206_8 : CSs := .cons (.set 8 (.tup (.cons (.str "sequence") (.cons (.tup (.cons (.str "nonempty") (.cons (.var 2) .nil))) (.cons (.var 7) .nil))))) c206_9
abbrev c206_7 : CSs := .cons (.fors (.nm 3) (.rng1 (.bin .sub (.var 5) (.var 4))) c206_8) .nil
abbrev c206_6 : CSs := .cons (.set 7 (.tup (.cons (.str "empty") .nil))) c206_7
abbrev c206_12 : CSs := .cons (.set 7 (.tup (.cons (.str "sequence") (.cons (.var 2) (.cons (.var 7) .nil))))) .nil
abbrev c206_4 : CSs := .cons (.ret (.var 7)) .nil
abbrev c206_3 : CSs := .cons (.fors (.nm 3) (.rng1 (.var 4)) c206_12) c206_4
abbrev c206_2 : CSs := .cons (.ifs (.cmp .isN (.var 5) .non) c206_5 c206_6) c206_3
abbrev c206_1 : CSs := .cons (.set 2 (.tup (.cons (.str "sequence") (.cons (.call 201 (.cons (.idx (.var 0) (.int 1)) .nil)) (.cons (.call 205 (.cons (.idx (.var 0) (.int 1)) (.cons (.var 1) .nil))) .nil))))) c206_2
abbrev c206 : CSs := .cons (.setP [4, 5, 6] (.cons (.idx (.var 0) (.int 2)) (.cons (.idx (.var 0) (.int 3)) (.cons (.idx (.var 0) (.int 4)) .nil)))) c206_1
/-- small bounds of repetitions -/
def Pt.sm : Pt → Prop
  | .seq a b => a.sm ∧ b.sm
  | .alt a b => a.sm ∧ b.sm
  | .rep t lo hi _ => t.sm ∧ lo < 1000 ∧ ∀ h, hi = some h → h < 1000 ∧ lo ≤ h
  | .grp _ t => t.sm
  | .look _ _ t _ => t.sm
  | _ => True
def seqN (it : Co) : Nat → Co → Co
  | 0, c => c
  | n + 1, c => .seq it (seqN it n c)
def optN (it : Co) (g : Bool) : Nat → Co
  | 0 => .emp
  | n + 1 => if g then .alt (.seq (.ne it) (optN it g n)) .emp else .alt .emp (.seq (.ne it) (optN it g n))
def repCo (it : Co) (lo : Nat) (hi : Option Nat) (g : Bool) : Co := seqN it lo (match hi with
  | none => .star it g
  | some h => optN it g (h - lo))
/-- the core of a tree, its sets without numbers -/
def Pt.un (b : Bool) : Pt → Co
  | .set ps => .set 0 ps
  | .empty => .emp
  | .anchor s => .anc s
  | .seq x y => if b then .seq (y.un b) (x.un b) else .seq (x.un b) (y.un b)
  | .alt x y => .alt (x.un b) (y.un b)
  | .rep t lo hi g => repCo (.seq t.fgt (t.un b)) lo hi g
  | .grp n t => .seq (.opn n) (.seq (t.un b) (.cls n))
  | .look a p t k => (Pt.look a p t k).lkCo
def sp205 (n : Nat) : SpD := fun ds M Q _ => ∃ (t : Pt) (b : Bool), ds = [ptD t, .bl b] ∧ t.mkd ∧ t.sm ∧ t.ht < n ∧ t.ht ≤ 20 ∧ t.grps.Pairwise (· < ·) ∧ Q (unD (t.un b)) M
def sp206 (n : Nat) : SpD := fun ds M Q _ => ∃ (t : Pt) (lo : Nat) (hi : Option Nat) (g b : Bool), ds = [ptD (.rep t lo hi g), .bl b] ∧ t.mkd ∧ (Pt.rep t lo hi g).sm ∧ t.ht < n ∧ t.ht ≤ 20 ∧ t.grps.Pairwise (· < ·) ∧ Q (unD (repCo (.seq t.fgt (t.un b)) lo hi g)) M
theorem ln206 (n : Nat) : ∀ ds M Q E, sp206 n ds M Q E → ds.length = 2 := by
  rintro _ _ _ _ ⟨_, _, _, _, _, rfl, _⟩; rfl
theorem seqN_snoc {it c : Co} : ∀ {n : Nat}, seqN it n (.seq it c) = seqN it (n + 1) c
  | 0 => rfl
  | n + 1 => by show Co.seq it (seqN it n (.seq it c)) = .seq it (seqN it (n + 1) c); rw [seqN_snoc]
theorem rd206 {Φ : Nat → SpD} {κ : Nat → D} {n : Nat} (h205 : Φ 205 = sp205 n) (h201 : Φ 201 = sp201) : RdOk Φ κ c206 9 (sp206 n) := by
  rintro ds M Q E hM hd ⟨t, lo, hi, g, b, rfl, hm, ⟨hs1, hs2, hs3⟩, hh, hh2, hp, hQ⟩
  simp only [ptD]
  walk_at "go"
  rw [h201]
  refine ⟨t, rfl, hm, hh2, hp, ?_⟩
  walk_at "go"
  rw [h205]
  refine ⟨t, b, rfl, hm, hs1, hh, hh2, hp, ?_⟩
  have tail : ∀ (c : Co) (x3 x8 : Option D), unD (seqN (.seq t.fgt (t.un b)) lo c) = unD (repCo (.seq t.fgt (t.un b)) lo hi g) →
      nxt Φ κ c206_3 (fun x _ M => E x M) (endsD M.length Q) [some (.tup [.str "repeat", ptD t, .int lo, onD hi, .bl g]), some (.bl b), some (unD (.seq t.fgt (t.un b))), x3, some (.int lo), some (onD hi), some (.bl g), some (unD c), x8] M := by
    intro c x3 x8 hc
    walk_at "go"
    refine for_rng [3, 7] (fun j js M' => ∃ (m : Nat) (x3 : Option D), js = [x3, some (unD (seqN (.seq t.fgt (t.un b)) m c))] ∧ M = M' ∧ (m : Int) = j) (by omega) ⟨[_, _], rfl, 0, _, rfl, rfl, rfl⟩ ?_ ?_
    · rintro j js M' nx j0 j1 ⟨m, x3, rfl, rfl, hj⟩ hn
      walk_at "go"
      exact hn [_, _] _ ⟨m + 1, _, rfl, rfl, by omega⟩
    · rintro js M' ⟨m, x3, rfl, rfl, hj⟩
      have hm' : m = lo := by omega
      subst hm'
      walk_at "go"
      rw [hc]
      exact .keep hQ
  walk_at "go"
  cases hi with
  | none =>
    rw [on_none] at tail ⊢
    walk_at "rd2"
    refine nxt_of ?_
    walk_at "rd2"
    exact tail (.star (.seq t.fgt (t.un b)) g) _ _ rfl
  | some h =>
    obtain ⟨q1, q2⟩ := hs3 h rfl
    rw [on_some] at tail ⊢
    walk_at "go"
    refine for_rng [3, 7, 8] (fun j js M' => ∃ (m : Nat) (x3 x8 : Option D), js = [x3, some (unD (optN (.seq t.fgt (t.un b)) g m)), x8] ∧ M = M' ∧ (m : Int) = j) (by omega) ⟨[_, _, _], rfl, 0, _, _, rfl, rfl, rfl⟩ ?_ ?_
    · rintro j js M' nx j0 j1 ⟨m, x3, x8, rfl, rfl, hj⟩ hn
      cases g with
      | false => walk_at "go"; exact hn [_, _, _] _ ⟨m + 1, _, _, rfl, rfl, by omega⟩
      | true => walk_at "go"; exact hn [_, _, _] _ ⟨m + 1, _, _, rfl, rfl, by omega⟩
    · rintro js M' ⟨m, x3, x8, rfl, rfl, hj⟩
      have hm' : m = h - lo := by omega
      subst hm'
      walk_at "rd2"
      exact tail (optN (.seq t.fgt (t.un b)) g (h - lo)) _ _ rfl

/-! bounds of cores -/
/-- repetitions of at most four -/
def Pt.r2 : Pt → Prop
  | .seq a b => a.r2 ∧ b.r2
  | .alt a b => a.r2 ∧ b.r2
  | .rep t lo hi _ => t.r2 ∧ lo ≤ 2 ∧ ∀ h, hi = some h → lo ≤ h ∧ h ≤ lo + 2
  | .grp _ t => t.r2
  | .look _ _ t _ => t.r2
  | _ => True
theorem r2_sm : ∀ {t : Pt}, t.r2 → t.sm
  | .seq a b, h => ⟨r2_sm h.1, r2_sm h.2⟩
  | .alt a b, h => ⟨r2_sm h.1, r2_sm h.2⟩
  | .rep t lo hi _, h => ⟨r2_sm h.1, by have := h.2.1; omega, fun k e => by have := h.2.1; have := h.2.2 k e; omega⟩
  | .grp _ t, h => r2_sm (t := t) h
  | .look _ _ t _, h => r2_sm (t := t) h
  | .set _, _ | .empty, _ | .anchor _, _ => trivial
theorem r2_mark : ∀ {t : Pt} {n : Nat}, t.r2 → (t.mark n).1.r2
  | .seq a b, n, h => ⟨r2_mark (t := a) h.1, r2_mark (t := b) h.2⟩
  | .alt a b, n, h => ⟨r2_mark (t := a) h.1, r2_mark (t := b) h.2⟩
  | .rep t _ _ _, n, h => ⟨r2_mark (t := t) h.1, h.2⟩
  | .grp k t, n, h => r2_mark (t := t) h
  | .look _ _ t _, n, h => r2_mark (t := t) h
  | .set _, _, _ | .empty, _, _ | .anchor _, _, _ => trivial
def Co.nd : Co → Nat
  | .seq a b => a.nd + b.nd + 1
  | .alt a b => a.nd + b.nd + 1
  | .ne a => a.nd + 1
  | .star a _ => a.nd + 1
  | _ => 1
theorem sz_nd : ∀ {t : Co}, t.sz ≤ t.nd
  | .seq a b => by have := sz_nd (t := a); have := sz_nd (t := b); show a.sz + b.sz ≤ a.nd + b.nd + 1; omega
  | .alt a b => by have := sz_nd (t := a); have := sz_nd (t := b); show a.sz + b.sz ≤ a.nd + b.nd + 1; omega
  | .ne a => by have := sz_nd (t := a); show a.sz ≤ a.nd + 1; omega
  | .star a _ => by have := sz_nd (t := a); show a.sz + 1 ≤ a.nd + 1; omega
  | .set _ _ | .opn _ | .cls _ | .fgt _ _ | .bit _ _ | .anc _ | .emp => Nat.le_refl _
theorem seqN_ht {it c : Co} {k : Nat} (h1 : it.ht ≤ k) (h2 : c.ht ≤ k) : ∀ {n : Nat}, (seqN it n c).ht ≤ k + n
  | 0 => h2
  | n + 1 => by have := seqN_ht h1 h2 (n := n); show max it.ht (seqN it n c).ht + 1 ≤ k + (n + 1); omega
theorem optN_ht {it : Co} {g : Bool} : ∀ {n : Nat}, (optN it g n).ht ≤ it.ht + 1 + 2 * n
  | 0 => Nat.zero_le _
  | n + 1 => by
    have := optN_ht (it := it) (g := g) (n := n)
    cases g with
    | false => show max 0 (max (it.ht + 1) (optN it false n).ht + 1) + 1 ≤ _; omega
    | true => show max (max (it.ht + 1) (optN it true n).ht + 1) 0 + 1 ≤ _; omega
theorem seqN_nd {it c : Co} : ∀ {n : Nat}, (seqN it n c).nd = n * (it.nd + 1) + c.nd
  | 0 => by show c.nd = _; omega
  | n + 1 => by show it.nd + (seqN it n c).nd + 1 = _; rw [seqN_nd, Nat.add_mul]; omega
theorem optN_nd {it : Co} {g : Bool} : ∀ {n : Nat}, (optN it g n).nd = n * (it.nd + 4) + 1
  | 0 => by show 1 = _; omega
  | n + 1 => by
    have := optN_nd (it := it) (g := g) (n := n)
    cases g with
    | false => show 1 + ((it.nd + 1) + (optN it false n).nd + 1) + 1 = _; rw [this, Nat.add_mul]; omega
    | true => show ((it.nd + 1) + (optN it true n).nd + 1) + 1 + 1 = _; rw [this, Nat.add_mul]; omega
theorem repCo_ht {it : Co} {lo : Nat} {hi : Option Nat} {g : Bool} (h1 : lo ≤ 2) (h2 : ∀ h, hi = some h → lo ≤ h ∧ h ≤ lo + 2) : (repCo it lo hi g).ht ≤ it.ht + 7 := by
  unfold repCo
  cases hi with
  | none => exact Nat.le_trans (seqN_ht (k := it.ht + 1) (by omega) (Nat.le_refl _)) (by omega)
  | some h =>
    obtain ⟨q1, q2⟩ := h2 h rfl
    exact Nat.le_trans (seqN_ht (k := it.ht + 5) (by omega) (Nat.le_trans optN_ht (by omega))) (by omega)
theorem repCo_nd {it : Co} {lo : Nat} {hi : Option Nat} {g : Bool} (h1 : lo ≤ 2) (h2 : ∀ h, hi = some h → lo ≤ h ∧ h ≤ lo + 2) : (repCo it lo hi g).nd ≤ 4 * it.nd + 11 := by
  have m1 : lo * (it.nd + 1) ≤ 2 * (it.nd + 1) := Nat.mul_le_mul_right _ h1
  unfold repCo
  rw [seqN_nd]
  cases hi with
  | none => show _ + (it.nd + 1) ≤ _; omega
  | some h =>
    obtain ⟨q1, q2⟩ := h2 h rfl
    have m2 : (h - lo) * (it.nd + 4) ≤ 2 * (it.nd + 4) := Nat.mul_le_mul_right _ (by omega)
    show _ + (optN it g (h - lo)).nd ≤ _
    rw [optN_nd]; omega
theorem lkCo_ht : ∀ {t : Pt}, t.lkCo.ht ≤ 1 ∧ t.lkCo.nd ≤ 3
  | .look _ true t (some k) => ⟨by show max 0 0 + 1 ≤ 1; omega, by show 1 + 1 + 1 ≤ 3; omega⟩
  | .look _ false t (some k) => ⟨by show 0 ≤ 1; omega, by show 1 ≤ 3; omega⟩
  | .look _ _ _ none | .set _ | .empty | .anchor _ | .seq _ _ | .alt _ _ | .rep _ _ _ _ | .grp _ _ => ⟨by show 0 ≤ 1; omega, by show 1 ≤ 3; omega⟩
theorem un_ht {b : Bool} : ∀ {t : Pt}, t.r2 → (t.un b).ht ≤ 8 * t.ht
  | .seq x y, h => by
    have h1 := un_ht (b := b) (t := x) h.1; have h2 := un_ht (b := b) (t := y) h.2
    show (if b then Co.seq (y.un b) (x.un b) else .seq (x.un b) (y.un b)).ht ≤ 8 * (max x.ht y.ht + 1)
    split
    · show max (y.un b).ht (x.un b).ht + 1 ≤ _; omega
    · show max (x.un b).ht (y.un b).ht + 1 ≤ _; omega
  | .alt x y, h => by
    have h1 := un_ht (b := b) (t := x) h.1; have h2 := un_ht (b := b) (t := y) h.2
    show max (x.un b).ht (y.un b).ht + 1 ≤ 8 * (max x.ht y.ht + 1); omega
  | .rep t lo hi g, h => by
    have h1 := un_ht (b := b) (t := t) h.1
    have h2 := repCo_ht (it := .seq t.fgt (t.un b)) (g := g) h.2.1 h.2.2
    have h3 : (Co.seq t.fgt (t.un b)).ht = max 0 (t.un b).ht + 1 := rfl
    show (repCo _ lo hi g).ht ≤ 8 * (t.ht + 1); omega
  | .grp n t, h => by
    have h1 := un_ht (b := b) (t := t) h
    show max 0 (max (t.un b).ht 0 + 1) + 1 ≤ 8 * (t.ht + 1); omega
  | .look a p t k, h => by
    have := (lkCo_ht (t := .look a p t k)).1
    show (Pt.look a p t k).lkCo.ht ≤ 8 * (t.ht + 1); omega
  | .set _, _ | .empty, _ | .anchor _, _ => Nat.zero_le _
theorem un_nd {b : Bool} : ∀ {t : Pt}, t.r2 → (t.un b).nd + 10 ≤ 11 * 6 ^ t.ht
  | .seq x y, h => by
    have h1 := un_nd (b := b) (t := x) h.1; have h2 := un_nd (b := b) (t := y) h.2
    have e1 : 6 ^ x.ht ≤ 6 ^ max x.ht y.ht := Nat.pow_le_pow_right (by omega) (by omega)
    have e2 : 6 ^ y.ht ≤ 6 ^ max x.ht y.ht := Nat.pow_le_pow_right (by omega) (by omega)
    show (if b then Co.seq (y.un b) (x.un b) else .seq (x.un b) (y.un b)).nd + 10 ≤ 11 * 6 ^ (max x.ht y.ht + 1)
    rw [Nat.pow_succ]
    split
    · show (y.un b).nd + (x.un b).nd + 1 + 10 ≤ _; omega
    · show (x.un b).nd + (y.un b).nd + 1 + 10 ≤ _; omega
  | .alt x y, h => by
    have h1 := un_nd (b := b) (t := x) h.1; have h2 := un_nd (b := b) (t := y) h.2
    have e1 : 6 ^ x.ht ≤ 6 ^ max x.ht y.ht := Nat.pow_le_pow_right (by omega) (by omega)
    have e2 : 6 ^ y.ht ≤ 6 ^ max x.ht y.ht := Nat.pow_le_pow_right (by omega) (by omega)
    show (x.un b).nd + (y.un b).nd + 1 + 10 ≤ 11 * 6 ^ (max x.ht y.ht + 1)
    rw [Nat.pow_succ]; omega
  | .rep t lo hi g, h => by
    have h1 := un_nd (b := b) (t := t) h.1
    have h2 := repCo_nd (it := .seq t.fgt (t.un b)) (g := g) h.2.1 h.2.2
    have h3 : (Co.seq t.fgt (t.un b)).nd = 1 + (t.un b).nd + 1 := rfl
    show (repCo _ lo hi g).nd + 10 ≤ 11 * 6 ^ (t.ht + 1)
    rw [Nat.pow_succ]; omega
  | .grp n t, h => by
    have h1 := un_nd (b := b) (t := t) h
    show 1 + ((t.un b).nd + 1 + 1) + 1 + 10 ≤ 11 * 6 ^ (t.ht + 1)
    rw [Nat.pow_succ]; omega
  | .look a p t k, h => by
    have := (lkCo_ht (t := .look a p t k)).2
    have e1 : 1 ≤ 6 ^ t.ht := Nat.one_le_pow _ _ (by omega)
    show (Pt.look a p t k).lkCo.nd + 10 ≤ 11 * 6 ^ (t.ht + 1)
    rw [Nat.pow_succ]; omega
  | .set _, _ | .empty, _ | .anchor _, _ => Nat.le_refl _
theorem un_nd' {b : Bool} {t : Pt} (h : t.r2) (hh : t.ht ≤ 4) : (t.un b).nd ≤ 14300 := by
  have h1 := un_nd (b := b) h
  have h2 : 6 ^ t.ht ≤ 6 ^ 4 := Nat.pow_le_pow_right (by omega) hh
  have h3 : 6 ^ 4 = 1296 := rfl
  omega

/-! def 202: marked; slots 0:tree 1:first 2:kind 3:left 4:middle 5:right 6:after 7:inner 8:number; calls [('marked', 202)]; consts []; built-ins [] -/
abbrev c202_8 : CSs := .cons (.ret (.tup (.cons (.tup (.cons (.var 2) (.cons (.var 3) (.cons (.var 5) .nil)))) (.cons (.var 6) .nil)))) .nil
abbrev c202_7 : CSs := .cons (.setT [5, 6] (.call 202 (.cons (.idx (.var 0) (.int 2)) (.cons (.var 4) .nil)))) c202_8
abbrev c202_6 : CSs := .cons (.setT [3, 4] (.call 202 (.cons (.idx (.var 0) (.int 1)) (.cons (.var 1) .nil)))) c202_7
abbrev c202_10 : CSs := .cons (.ret (.tup (.cons (.tup (.cons (.var 2) (.cons (.var 7) (.cons (.idx (.var 0) (.int 2)) (.cons (.idx (.var 0) (.int 3)) (.cons (.idx (.var 0) (.int 4)) .nil)))))) (.cons (.var 6) .nil)))) .nil
abbrev c202_9 : CSs := .cons (.setT [7, 6] (.call 202 (.cons (.idx (.var 0) (.int 1)) (.cons (.var 1) .nil)))) c202_10
abbrev c202_12 : CSs := .cons (.ret (.tup (.cons (.tup (.cons (.var 2) (.cons (.idx (.var 0) (.int 1)) (.cons (.var 7) .nil)))) (.cons (.var 6) .nil)))) .nil
abbrev c202_11 : CSs := .cons (.setT [7, 6] (.call 202 (.cons (.idx (.var 0) (.int 2)) (.cons (.var 1) .nil)))) c202_12
abbrev c202_14 : CSs := .cons (.ret (.tup (.cons (.tup (.cons (.var 2) (.cons (.idx (.var 0) (.int 1)) (.cons (.idx (.var 0) (.int 2)) (.cons (.var 7) (.cons (.var 8) .nil)))))) (.cons (.bin .add (.var 8) (.int 1)) .nil)))) .nil
abbrev c202_13 : CSs := .cons (.setT [7, 8] (.call 202 (.cons (.idx (.var 0) (.int 3)) (.cons (.var 1) .nil)))) c202_14
abbrev c202_5 : CSs := .cons (.ret (.tup (.cons (.var 0) (.cons (.var 1) .nil)))) .nil
abbrev c202_4 : CSs := .cons (.ifs (.cmp .eq (.var 2) (.str "look")) c202_13 .nil) c202_5
abbrev c202_3 : CSs := .cons (.ifs (.cmp .eq (.var 2) (.str "group")) c202_11 .nil) c202_4
abbrev c202_2 : CSs := .cons (.ifs (.cmp .eq (.var 2) (.str "repeat")) c202_9 .nil) c202_3
abbrev c202_1 : CSs := .cons (.ifs (.cmp .inn (.var 2) (.tup (.cons (.str "sequence") (.cons (.str "choice") .nil)))) c202_6 .nil) c202_2
abbrev c202 : CSs := .cons (.set 2 (.idx (.var 0) (.int 0))) c202_1
def sp202 (n : Nat) : SpD := fun ds M Q _ => ∃ (t : Pt) (k : Nat), ds = [ptD t, .int k] ∧ t.ht < n ∧ Q (.tup [ptD (t.mark k).1, .int (t.mark k).2]) M
theorem ln202 (n : Nat) : ∀ ds M Q E, sp202 n ds M Q E → ds.length = 2 := by
  rintro _ _ _ _ ⟨_, _, rfl, _⟩; rfl
theorem z202 : ∀ ds M Q E, sp202 0 ds M Q E → False := by
  rintro _ _ _ _ ⟨_, _, _, h, _⟩; omega
theorem rd202 {Φ : Nat → SpD} {κ : Nat → D} {n : Nat} (h202 : Φ 202 = sp202 n) : RdOk Φ κ c202 9 (sp202 (n + 1)) := by
  rintro ds M Q E hM hd ⟨t, k, rfl, hh, hQ⟩
  cases t with
  | set ps => simp only [ptD]; walk_at "go"; exact .keep hQ
  | empty => simp only [ptD]; walk_at "go"; exact .keep hQ
  | anchor s => simp only [ptD]; walk_at "go"; exact .keep hQ
  | seq a b =>
    have hh : max a.ht b.ht + 1 < n + 1 := hh
    simp only [ptD]; walk_at "go"
    rw [h202]
    refine ⟨a, k, rfl, by omega, ?_⟩
    walk_at "go"
    rw [h202]
    refine ⟨b, _, rfl, by omega, ?_⟩
    walk_at "go"
    exact .keep hQ
  | alt a b =>
    have hh : max a.ht b.ht + 1 < n + 1 := hh
    simp only [ptD]; walk_at "go"
    rw [h202]
    refine ⟨a, k, rfl, by omega, ?_⟩
    walk_at "go"
    rw [h202]
    refine ⟨b, _, rfl, by omega, ?_⟩
    walk_at "go"
    exact .keep hQ
  | rep t lo hi g =>
    have hh : t.ht + 1 < n + 1 := hh
    simp only [ptD]; walk_at "go"
    rw [h202]
    refine ⟨t, k, rfl, by omega, ?_⟩
    walk_at "go"
    exact .keep hQ
  | grp m t =>
    have hh : t.ht + 1 < n + 1 := hh
    simp only [ptD]; walk_at "go"
    rw [h202]
    refine ⟨t, k, rfl, by omega, ?_⟩
    walk_at "go"
    exact .keep hQ
  | look a p t o =>
    have hh : t.ht + 1 < n + 1 := hh
    cases o with
    | none =>
      simp only [ptD]; walk_at "go"
      rw [h202]
      refine ⟨t, k, rfl, by omega, ?_⟩
      walk_at "go"
      exact .keep hQ
    | some o =>
      simp only [ptD]; walk_at "go"
      rw [h202]
      refine ⟨t, k, rfl, by omega, ?_⟩
      walk_at "go"
      exact .keep hQ

/-! def 565: LookPart.__init__; slots 0:self 1:ahead 2:positive 3:body 4:groups 5:looks; calls []; consts []; built-ins [] -/
abbrev c565_4 : CSs := .cons (.setFld "LookPart" (.var 0) "looks" (.var 5)) .nil
abbrev c565_3 : CSs := .cons (.setFld "LookPart" (.var 0) "groups" (.var 4)) c565_4
abbrev c565_2 : CSs := .cons (.setFld "LookPart" (.var 0) "body" (.var 3)) c565_3
abbrev c565_1 : CSs := .cons (.setFld "LookPart" (.var 0) "positive" (.var 2)) c565_2
abbrev c565 : CSs := .cons (.setFld "LookPart" (.var 0) "ahead" (.var 1)) c565_1
def sp565 : SpD := fun ds M Q _ => ∃ (M0 : Md) (a p b g l : D), ds = [.ref M0.length, a, p, b, g, l] ∧ M = M0 ++ [.ins "LookPart" []] ∧ Q .non (M0 ++ [.ins "LookPart" [("ahead", a), ("positive", p), ("body", b), ("groups", g), ("looks", l)]])
theorem ln565 : ∀ ds M Q E, sp565 ds M Q E → ds.length = 6 := by
  rintro _ _ _ _ ⟨_, _, _, _, _, _, rfl, _⟩; rfl
theorem rd565 {Φ : Nat → SpD} {κ : Nat → D} : RdOk Φ κ c565 6 (sp565) := by
  rintro ds M Q E hM hd ⟨M0, a, p, b, g, l, rfl, rfl, hQ⟩
  walk_at "go"
  exact .keep hQ

/-! def 205: unnumbered; slots 0:tree 1:backward 2:kind 3:first 4:second 5:close; calls [('unnumbered', 205), ('repeat_core', 206), ('look_core', 207)]; consts []; built-ins [] -/
abbrev c205_11 : CSs := .cons (.ret (.tup (.cons (.var 2) (.cons (.var 4) (.cons (.var 3) .nil))))) .nil
abbrev c205_10 : CSs := .cons (.ret (.tup (.cons (.var 2) (.cons (.var 3) (.cons (.var 4) .nil))))) .nil
abbrev c205_9 : CSs := .cons (.ifs (.var 1) c205_11 .nil) c205_10
abbrev c205_8 : CSs := .cons (.set 4 (.call 205 (.cons (.idx (.var 0) (.int 2)) (.cons (.var 1) .nil)))) c205_9
abbrev c205_7 : CSs := .cons (.set 3 (.call 205 (.cons (.idx (.var 0) (.int 1)) (.cons (.var 1) .nil)))) c205_8
abbrev c205_12 : CSs := .cons (.ret (.tup (.cons (.var 2) (.cons (.call 205 (.cons (.idx (.var 0) (.int 1)) (.cons (.var 1) .nil))) (.cons (.call 205 (.cons (.idx (.var 0) (.int 2)) (.cons (.var 1) .nil))) .nil))))) .nil
abbrev c205_13 : CSs := .cons (.ret (.call 206 (.cons (.var 0) (.cons (.var 1) .nil)))) .nil
abbrev c205_15 : CSs := .cons (.ret (.tup (.cons (.str "sequence") (.cons (.tup (.cons (.str "open") (.cons (.idx (.var 0) (.int 1)) .nil))) (.cons (.var 5) .nil))))) .nil
abbrev c205_14 : CSs := .cons (.set 5 (.tup (.cons (.str "sequence") (.cons (.call 205 (.cons (.idx (.var 0) (.int 2)) (.cons (.var 1) .nil))) (.cons (.tup (.cons (.str "close") (.cons (.idx (.var 0) (.int 1)) .nil))) .nil))))) c205_15
abbrev c205_16 : CSs := .cons (.ret (.call 207 (.cons (.var 0) .nil))) .nil
abbrev c205_6 : CSs := .cons (.ret (.var 0)) .nil
abbrev c205_5 : CSs := .cons (.ifs (.cmp .eq (.var 2) (.str "look")) c205_16 .nil) c205_6
abbrev c205_4 : CSs := .cons (.ifs (.cmp .eq (.var 2) (.str "group")) c205_14 .nil) c205_5
abbrev c205_3 : CSs := .cons (.ifs (.cmp .eq (.var 2) (.str "repeat")) c205_13 .nil) c205_4
abbrev c205_2 : CSs := .cons (.ifs (.cmp .eq (.var 2) (.str "choice")) c205_12 .nil) c205_3
abbrev c205_1 : CSs := .cons (.ifs (.cmp .eq (.var 2) (.str "sequence")) c205_7 .nil) c205_2
abbrev c205 : CSs := .cons (.set 2 (.idx (.var 0) (.int 0))) c205_1
theorem ln205 (n : Nat) : ∀ ds M Q E, sp205 n ds M Q E → ds.length = 2 := by
  rintro _ _ _ _ ⟨_, _, rfl, _⟩; rfl
theorem z205 : ∀ ds M Q E, sp205 0 ds M Q E → False := by
  rintro _ _ _ _ ⟨_, _, _, _, _, h, _⟩; omega
theorem rd205 {Φ : Nat → SpD} {κ : Nat → D} {n : Nat} (h205 : Φ 205 = sp205 n) (h206 : Φ 206 = sp206 n) (h207 : Φ 207 = sp207) : RdOk Φ κ c205 6 (sp205 (n + 1)) := by
  rintro ds M Q E hM hd ⟨t, b, rfl, hm, hs, hh, hh2, hp, hQ⟩
  cases t with
  | set ps => simp only [ptD]; walk_at "go"; exact .keep hQ
  | empty => simp only [ptD]; walk_at "go"; exact .keep hQ
  | anchor s => simp only [ptD]; walk_at "go"; exact .keep hQ
  | seq x y =>
    have hh : max x.ht y.ht + 1 < n + 1 := hh
    have hh2 : max x.ht y.ht + 1 ≤ 20 := hh2
    have hp : (x.grps ++ y.grps).Pairwise (· < ·) := hp
    rw [List.pairwise_append] at hp
    simp only [ptD]; walk_at "go"
    rw [h205]
    refine ⟨x, b, rfl, hm.1, hs.1, by omega, by omega, hp.1, ?_⟩
    walk_at "go"
    rw [h205]
    refine ⟨y, b, rfl, hm.2, hs.2, by omega, by omega, hp.2.1, ?_⟩
    cases b with
    | false => walk_at "go"; exact .keep hQ
    | true => walk_at "go"; exact .keep hQ
  | alt x y =>
    have hh : max x.ht y.ht + 1 < n + 1 := hh
    have hh2 : max x.ht y.ht + 1 ≤ 20 := hh2
    have hp : (x.grps ++ y.grps).Pairwise (· < ·) := hp
    rw [List.pairwise_append] at hp
    simp only [ptD]; walk_at "go"
    rw [h205]
    refine ⟨x, b, rfl, hm.1, hs.1, by omega, by omega, hp.1, ?_⟩
    walk_at "go"
    refine ⟨y, b, rfl, hm.2, hs.2, by omega, by omega, hp.2.1, ?_⟩
    walk_at "go"
    exact .keep hQ
  | rep t lo hi g =>
    have hh : t.ht + 1 < n + 1 := hh
    have hh2 : t.ht + 1 ≤ 20 := hh2
    have hd' : ptD (.rep t lo hi g) = .tup [.str "repeat", ptD t, .int lo, onD hi, .bl g] := rfl
    rw [hd']
    walk_at "go"
    rw [h206]
    exact ⟨t, lo, hi, g, b, rfl, hm, hs, by omega, by omega, hp, .keep hQ⟩
  | grp m t =>
    have hh : t.ht + 1 < n + 1 := hh
    have hh2 : t.ht + 1 ≤ 20 := hh2
    have hp : (m :: t.grps).Pairwise (· < ·) := hp
    simp only [ptD]; walk_at "go"
    rw [h205]
    refine ⟨t, b, rfl, hm, hs, by omega, by omega, (List.pairwise_cons.mp hp).2, ?_⟩
    walk_at "go"
    exact .keep hQ
  | look a p t k =>
    have hh2 : t.ht + 1 ≤ 20 := hh2
    cases k with
    | none => exact absurd hm.2 (by simp)
    | some k =>
      have hd' : ptD (.look a p t (some k)) = .tup [.str "look", .bl a, .bl p, ptD t, .int k] := rfl
      rw [hd']
      walk_at "go"
      rw [h207]
      exact ⟨a, p, t, k, rfl, hm.1, by omega, hp, .keep hQ⟩

/-! def 566: core_of; slots 0:tree 1:backward; calls [('Core.__init__', 520), ('numbered', 203), ('unnumbered', 205)]; consts []; built-ins [] -/
abbrev c566 : CSs := .cons (.ret (.make false 520 "Core" (.cons (.idx (.call 203 (.cons (.call 205 (.cons (.var 0) (.cons (.var 1) .nil))) (.cons (.int 0) .nil))) (.int 0)) (.cons (.var 1) .nil)))) .nil
theorem nb_ht : ∀ {t : Co} {n : Nat}, (t.nb n).1.ht = t.ht
  | .seq a b, n => by show max (a.nb n).1.ht (b.nb (a.nb n).2).1.ht + 1 = max a.ht b.ht + 1; rw [nb_ht, nb_ht]
  | .alt a b, n => by show max (a.nb n).1.ht (b.nb (a.nb n).2).1.ht + 1 = max a.ht b.ht + 1; rw [nb_ht, nb_ht]
  | .ne a, n => by show (a.nb n).1.ht + 1 = a.ht + 1; rw [nb_ht]
  | .star a g, n => by show (a.nb n).1.ht + 1 = a.ht + 1; rw [nb_ht]
  | .set _ _, _ | .opn _, _ | .cls _, _ | .fgt _ _, _ | .bit _ _, _ | .anc _, _ | .emp, _ => rfl
theorem nb_sz : ∀ {t : Co} {n : Nat}, (t.nb n).1.sz = t.sz
  | .seq a b, n => by show (a.nb n).1.sz + (b.nb (a.nb n).2).1.sz = a.sz + b.sz; rw [nb_sz, nb_sz]
  | .alt a b, n => by show (a.nb n).1.sz + (b.nb (a.nb n).2).1.sz = a.sz + b.sz; rw [nb_sz, nb_sz]
  | .ne a, n => by show (a.nb n).1.sz = a.sz; rw [nb_sz]
  | .star a g, n => by show (a.nb n).1.sz + 1 = a.sz + 1; rw [nb_sz]
  | .set _ _, _ | .opn _, _ | .cls _, _ | .fgt _ _, _ | .bit _ _, _ | .anc _, _ | .emp, _ => rfl
/-- the core of a tree -/
def Pt.core (t : Pt) (b : Bool) : Co := ((t.un b).nb 0).1
def sp566 : SpD := fun ds M Q _ => ∃ (t : Pt) (b : Bool), ds = [ptD t, .bl b] ∧ t.mkd ∧ t.sm ∧ t.ht ≤ 20 ∧ t.grps.Pairwise (· < ·) ∧ (t.un b).ht < 60 ∧ (t.un b).sz ≤ 1000000 ∧ Q (coreV (t.core b) b) M
theorem ln566 : ∀ ds M Q E, sp566 ds M Q E → ds.length = 2 := by
  rintro _ _ _ _ ⟨_, _, rfl, _⟩; rfl
theorem rd566 {Φ : Nat → SpD} {κ : Nat → D} (h520 : Φ 520 = sp520) (h203 : Φ 203 = sp203 (60)) (h205 : Φ 205 = sp205 (21)) : RdOk Φ κ c566 2 (sp566) := by
  rintro ds M Q E hM hd ⟨t, b, rfl, hm, hs, hh, hp, h1, h2, hQ⟩
  walk_at "go"
  rw [h205]
  refine ⟨t, b, rfl, hm, hs, by omega, hh, hp, ?_⟩
  walk_at "go"
  rw [h203]
  refine ⟨t.un b, 0, rfl, h1, ?_⟩
  walk_at "go"
  rw [h520]
  refine ⟨_, t.core b, b, rfl, rfl, by rw [Pt.core, nb_ht]; exact h1, by rw [Pt.core, nb_sz]; exact h2, mkQ_of ?_ ?_⟩
  · exact core_lt _
  exact .keep hQ

/-! def 567: look_part; slots 0:look 1:forgets; calls [('forget_all', 201), ('LookPart.__init__', 565), ('core_of', 566)]; consts []; built-ins [] -/
abbrev c567_1 : CSs := .cons (.ret (.make false 565 "LookPart" (.cons (.idx (.var 0) (.int 1)) (.cons (.idx (.var 0) (.int 2)) (.cons (.call 566 (.cons (.idx (.var 0) (.int 3)) (.cons (.not (.idx (.var 0) (.int 1))) .nil))) (.cons (.idx (.var 1) (.int 1)) (.cons (.idx (.var 1) (.int 2)) .nil))))))) .nil
abbrev c567 : CSs := .cons (.set 1 (.call 201 (.cons (.idx (.var 0) (.int 3)) .nil))) c567_1
def partV (a p : Bool) (t : Pt) : D := .obj "LookPart" ["ahead", "positive", "body", "groups", "looks"] [.bl a, .bl p, coreV (t.core (!a)) (!a), nats t.grps, nats (t.lks.map Pt.lnum)]
def Pt.cOk (t : Pt) (b : Bool) : Prop := (t.un b).ht < 60 ∧ (t.un b).sz ≤ 1000000
def sp567 : SpD := fun ds M Q _ => ∃ (a p : Bool) (t : Pt) (k : Nat), ds = [ptD (.look a p t (some k))] ∧ t.mkd ∧ t.sm ∧ t.ht ≤ 20 ∧ t.grps.Pairwise (· < ·) ∧ t.cOk (!a) ∧ Q (partV a p t) M
theorem ln567 : ∀ ds M Q E, sp567 ds M Q E → ds.length = 1 := by
  rintro _ _ _ _ ⟨_, _, _, _, rfl, _⟩; rfl
theorem rd567 {Φ : Nat → SpD} {κ : Nat → D} (h201 : Φ 201 = sp201) (h565 : Φ 565 = sp565) (h566 : Φ 566 = sp566) : RdOk Φ κ c567 2 (sp567) := by
  rintro ds M Q E hM hd ⟨a, p, t, k, rfl, hm, hs, hh, hp, hc, hQ⟩
  have hd' : ptD (.look a p t (some k)) = .tup [.str "look", .bl a, .bl p, ptD t, .int k] := rfl
  have hf : unD t.fgt = .tup [.str "forget", nats t.grps, nats (t.lks.map Pt.lnum)] := rfl
  rw [hd']
  walk_at "go"
  rw [h201]
  refine ⟨t, rfl, hm, hh, hp, ?_⟩
  rw [hf]
  walk_at "go"
  rw [h566]
  refine ⟨t, !a, rfl, hm, hs, hh, hp, hc.1, hc.2, ?_⟩
  walk_at "go"
  rw [h565]
  refine ⟨_, _, _, _, _, _, rfl, rfl, mkQ_of ?_ ?_⟩
  · intro q hq
    refine noRef_lt ?_
    simp only [List.mem_cons, List.not_mem_nil, or_false] at hq
    rcases hq with rfl | rfl | rfl | rfl | rfl
    · rfl
    · rfl
    · exact nr_core _ _
    · exact nr_nats _
    · exact nr_nats _
  exact .keep hQ

/-! def 568: Prepared.__init__; slots 0:self 1:core 2:looks 3:group_total; calls []; consts []; built-ins [] -/
abbrev c568_2 : CSs := .cons (.setFld "Prepared" (.var 0) "group_total" (.var 3)) .nil
abbrev c568_1 : CSs := .cons (.setFld "Prepared" (.var 0) "looks" (.var 2)) c568_2
abbrev c568 : CSs := .cons (.setFld "Prepared" (.var 0) "core" (.var 1)) c568_1
def sp568 : SpD := fun ds M Q _ => ∃ (M0 : Md) (c l g : D), ds = [.ref M0.length, c, l, g] ∧ M = M0 ++ [.ins "Prepared" []] ∧ Q .non (M0 ++ [.ins "Prepared" [("core", c), ("looks", l), ("group_total", g)]])
theorem ln568 : ∀ ds M Q E, sp568 ds M Q E → ds.length = 4 := by
  rintro _ _ _ _ ⟨_, _, _, _, rfl, _⟩; rfl
theorem rd568 {Φ : Nat → SpD} {κ : Nat → D} : RdOk Φ κ c568 4 (sp568) := by
  rintro ds M Q E hM hd ⟨M0, c, l, g, rfl, rfl, hQ⟩
  walk_at "go"
  exact .keep hQ

/-! def 564: prepare; slots 0:tree 1:whole 2:looks 3:look; calls [('marked', 202), ('look_part', 567), ('looks_in', 199), ('Prepared.__init__', 568), ('inner_groups', 37), ('core_of', 566)]; consts []; built-ins ['tuple', 'len'] -/
abbrev c564_2 : CSs := .cons (.ret (.make false 568 "Prepared" (.cons (.call 566 (.cons (.var 1) (.cons (.bl false) .nil))) (.cons (.var 2) (.cons (.blt .len (.cons (.call 37 (.cons (.var 0) .nil)) .nil)) .nil))))) .nil
abbrev c564_1 : CSs := .cons (.set 2 (.blt .tuple (.cons (.comp false (.call 567 (.cons (.var 3) .nil)) (.nm 3) (.seq (.call 199 (.cons (.var 1) .nil))) .none [3]) .nil))) c564_2
abbrev c564 : CSs := .cons (.set 1 (.idx (.call 202 (.cons (.var 0) (.cons (.int 0) .nil))) (.int 0))) c564_1
theorem mark_ht : ∀ {t : Pt} {n : Nat}, (t.mark n).1.ht = t.ht
  | .seq a b, n => by show max (a.mark n).1.ht (b.mark (a.mark n).2).1.ht + 1 = max a.ht b.ht + 1; rw [mark_ht, mark_ht]
  | .alt a b, n => by show max (a.mark n).1.ht (b.mark (a.mark n).2).1.ht + 1 = max a.ht b.ht + 1; rw [mark_ht, mark_ht]
  | .rep t _ _ _, n => by show (t.mark n).1.ht + 1 = t.ht + 1; rw [mark_ht]
  | .grp _ t, n => by show (t.mark n).1.ht + 1 = t.ht + 1; rw [mark_ht]
  | .look _ _ t _, n => by show (t.mark n).1.ht + 1 = t.ht + 1; rw [mark_ht]
  | .set _, _ | .empty, _ | .anchor _, _ => rfl
theorem mark_grps : ∀ {t : Pt} {n : Nat}, (t.mark n).1.grps = t.grps
  | .seq a b, n => by show (a.mark n).1.grps ++ (b.mark (a.mark n).2).1.grps = a.grps ++ b.grps; rw [mark_grps, mark_grps]
  | .alt a b, n => by show (a.mark n).1.grps ++ (b.mark (a.mark n).2).1.grps = a.grps ++ b.grps; rw [mark_grps, mark_grps]
  | .rep t _ _ _, n => by show (t.mark n).1.grps = t.grps; rw [mark_grps]
  | .grp k t, n => by show k :: (t.mark n).1.grps = k :: t.grps; rw [mark_grps]
  | .look _ _ t _, n => by show (t.mark n).1.grps = t.grps; rw [mark_grps]
  | .set _, _ | .empty, _ | .anchor _, _ => rfl
theorem mark_mkd : ∀ {t : Pt} {n : Nat}, (t.mark n).1.mkd
  | .seq a b, n => ⟨mark_mkd (t := a), mark_mkd (t := b)⟩
  | .alt a b, n => ⟨mark_mkd (t := a), mark_mkd (t := b)⟩
  | .rep t _ _ _, n => mark_mkd (t := t)
  | .grp k t, n => mark_mkd (t := t)
  | .look _ _ t _, n => ⟨mark_mkd (t := t), rfl⟩
  | .set _, _ | .empty, _ | .anchor _, _ => trivial
theorem mark_sm : ∀ {t : Pt} {n : Nat}, t.sm → (t.mark n).1.sm
  | .seq a b, n, h => ⟨mark_sm (t := a) h.1, mark_sm (t := b) h.2⟩
  | .alt a b, n, h => ⟨mark_sm (t := a) h.1, mark_sm (t := b) h.2⟩
  | .rep t _ _ _, n, h => ⟨mark_sm (t := t) h.1, h.2⟩
  | .grp k t, n, h => mark_sm (t := t) h
  | .look _ _ t _, n, h => mark_sm (t := t) h
  | .set _, _, _ | .empty, _, _ | .anchor _, _, _ => trivial
theorem lks_lt : ∀ {t : Pt} {a p : Bool} {s : Pt} {k : Option Nat}, .look a p s k ∈ t.lks → s.ht < t.ht ∧ (t.sm → s.sm) ∧ (t.grps.Pairwise (· < ·) → s.grps.Pairwise (· < ·))
  | .seq x y, a, p, s, k, h => by
    rcases List.mem_append.mp h with h | h
    · obtain ⟨h1, h2, h3⟩ := lks_lt h
      exact ⟨by show _ < max x.ht y.ht + 1; omega, fun z => h2 z.1, fun z => h3 (List.pairwise_append.mp z).1⟩
    · obtain ⟨h1, h2, h3⟩ := lks_lt h
      exact ⟨by show _ < max x.ht y.ht + 1; omega, fun z => h2 z.2, fun z => h3 (List.pairwise_append.mp z).2.1⟩
  | .alt x y, a, p, s, k, h => by
    rcases List.mem_append.mp h with h | h
    · obtain ⟨h1, h2, h3⟩ := lks_lt h
      exact ⟨by show _ < max x.ht y.ht + 1; omega, fun z => h2 z.1, fun z => h3 (List.pairwise_append.mp z).1⟩
    · obtain ⟨h1, h2, h3⟩ := lks_lt h
      exact ⟨by show _ < max x.ht y.ht + 1; omega, fun z => h2 z.2, fun z => h3 (List.pairwise_append.mp z).2.1⟩
  | .rep t _ _ _, a, p, s, k, h => by
    obtain ⟨h1, h2, h3⟩ := lks_lt (t := t) h
    exact ⟨by show _ < t.ht + 1; omega, fun z => h2 z.1, h3⟩
  | .grp n t, a, p, s, k, h => by
    obtain ⟨h1, h2, h3⟩ := lks_lt (t := t) h
    exact ⟨by show _ < t.ht + 1; omega, h2, fun z => h3 (List.pairwise_cons.mp z).2⟩
  | .look _ _ t _, a, p, s, k, h => by
    rcases List.mem_append.mp h with h | h
    · obtain ⟨h1, h2, h3⟩ := lks_lt (t := t) h
      exact ⟨by show _ < t.ht + 1; omega, h2, h3⟩
    · cases List.mem_singleton.mp h
      exact ⟨Nat.lt_succ_self _, fun z => z, fun z => z⟩
  | .set _, _, _, _, _, h | .empty, _, _, _, _, h | .anchor _, _, _, _, _, h => by cases h
def Pt.whole (t : Pt) : Pt := (t.mark 0).1
def lkPart : Pt → D
  | .look a p t _ => partV a p t
  | _ => .non
def prepV (t : Pt) : D := .obj "Prepared" ["core", "looks", "group_total"] [coreV (t.whole.core false) false, .tup (t.whole.lks.map lkPart), .int t.grps.length]
def sp564 : SpD := fun ds M Q _ => ∃ t : Pt, ds = [ptD t] ∧ t.sm ∧ t.ht ≤ 20 ∧ t.grps.Pairwise (· < ·) ∧ t.whole.cOk false ∧ (∀ a p s k, .look a p s k ∈ t.whole.lks → s.cOk (!a)) ∧ Q (prepV t) M
theorem ln564 : ∀ ds M Q E, sp564 ds M Q E → ds.length = 1 := by
  rintro _ _ _ _ ⟨_, rfl, _⟩; rfl
theorem rd564 {Φ : Nat → SpD} {κ : Nat → D} (h202 : Φ 202 = sp202 (21)) (h567 : Φ 567 = sp567) (h199 : Φ 199 = sp199 (21)) (h568 : Φ 568 = sp568) (h37 : Φ 37 = sp37w (21)) (h566 : Φ 566 = sp566) : RdOk Φ κ c564 4 (sp564) := by
  rintro ds M Q E hM hd ⟨t, rfl, hs, hh, hp, hc, hl, hQ⟩
  walk_at "go"
  rw [h202]
  refine ⟨t, 0, rfl, by omega, ?_⟩
  walk_at "go"
  rw [h199]
  refine ⟨t.whole, rfl, by rw [Pt.whole, mark_ht]; omega, by rw [Pt.whole, mark_ht]; omega, ?_⟩
  walk_at "go"
  have hwm : t.whole.mkd := mark_mkd
  have hws : t.whole.sm := mark_sm hs
  have hwh : t.whole.ht = t.ht := mark_ht
  have hwg : t.whole.grps = t.grps := mark_grps
  have hlen : t.whole.lks.length < 4000000 := by
    have h1 := Pt.lks_len (t := t.whole)
    have h2 : 2 ^ (t.whole.ht + 1) ≤ 2 ^ 21 := Nat.pow_le_pow_right (by omega) (by omega)
    omega
  refine comp_map ptD lkPart trivial (by rw [size_eq]; omega) ?_ ?_
  · intro u hu yes no hy
    obtain ⟨a, p, s, k, rfl, hsm⟩ := lks_mk hwm u hu
    obtain ⟨q1, q2, q3⟩ := lks_lt hu
    walk_at "go"
    rw [h567]
    exact ⟨a, p, s, k, rfl, hsm, q2 hws, by omega, q3 (by rw [hwg]; exact hp), hl a p s _ hu, hy⟩
  walk_at "go"
  rw [h566]
  refine ⟨t.whole, false, rfl, hwm, hws, by omega, by rw [hwg]; exact hp, hc.1, hc.2, ?_⟩
  walk_at "go"
  rw [h37]
  refine ⟨t, rfl, by omega, hh, hp, ?_⟩
  walk_at "go"
  rw [h568, List.length_map]
  refine ⟨_, _, _, _, rfl, rfl, mkQ_of ?_ ?_⟩
  · intro q hq
    refine noRef_lt ?_
    simp only [List.mem_cons, List.not_mem_nil, or_false] at hq
    rcases hq with rfl | rfl | rfl
    · exact nr_core _ _
    · refine noRefs_map fun u hu => ?_
      obtain ⟨a, p, s, k, rfl, _⟩ := lks_mk hwm u hu
      have h1 := nr_core (s.core (!a)) (!a)
      have h2 := nr_nats s.grps
      have h3 := nr_nats (s.lks.map Pt.lnum)
      show noRefs [_, _, _, _, _] = true
      simp only [noRefs, noRef, h1, h2, h3, Bool.and_self]
    · rfl
  exact .keep hQ

/-! drawn trees -/
/-- the numbers from g to below k -/
def rgN (g k : Nat) : List Nat := List.range' g (k - g)
theorem rgN_app {a b c : Nat} (h1 : a ≤ b) (h2 : b ≤ c) : rgN a b ++ rgN b c = rgN a c := by
  unfold rgN
  have e := List.range'_append_1 (s := a) (m := b - a) (n := c - b)
  rw [show a + (b - a) = b by omega] at e
  rw [e]
  congr 1
  omega
theorem rgN_nil {a : Nat} : rgN a a = [] := by simp [rgN]
theorem rgN_cons {a b : Nat} (h : a < b) : a :: rgN (a + 1) b = rgN a b := by
  have : rgN a (a + 1) = [a] := by simp [rgN]
  rw [← rgN_app (a := a) (b := a + 1) (c := b) (by omega) (by omega), this]; rfl
theorem rgN_lt {a b : Nat} : (rgN a b).Pairwise (· < ·) := List.pairwise_lt_range' (s := a) (n := b - a)
/-- sets in their one form, of a hundred ranges at most -/
def setOk (ps : List (Int × Int)) : Prop := ps.length ≤ 100 ∧ Canon ps ∧ ∀ x : Int, inP ps x = true → 0 ≤ x ∧ x < 128
theorem setOk_of {ps : List (Int × Int)} (h : ps.length ≤ 100) (hc : Canon ps) (hb : ∀ p ∈ ps, 0 ≤ p.1 ∧ p.2 ≤ 128) : setOk ps := ⟨h, hc, fun x hx => by
  obtain ⟨p, hp, h1, h2⟩ := inP_iff.mp hx
  have := hb p hp
  omega⟩
def Pt.pl : Pt → Prop
  | .set ps => setOk ps
  | .seq a b => a.pl ∧ b.pl
  | .alt a b => a.pl ∧ b.pl
  | .rep t _ _ _ => t.pl
  | .grp _ t => t.pl
  | .look _ _ t _ => t.pl
  | .anchor s => ancOk s
  | _ => True
/-- looks without numbers -/
def Pt.bare : Pt → Prop
  | .seq a b => a.bare ∧ b.bare
  | .alt a b => a.bare ∧ b.bare
  | .rep t _ _ _ => t.bare
  | .grp _ t => t.bare
  | .look _ _ t k => t.bare ∧ k = none
  | _ => True
/-- a drawn tree: its height, its groups from g to below g' -/
structure Gen (dep g g' : Nat) (t : Pt) : Prop where
  ht : t.ht ≤ dep
  r2 : t.r2
  pl : t.pl
  ba : t.bare
  le : g ≤ g'
  gs : t.grps = rgN g g'
theorem Gen.up {d d' g g' : Nat} {t : Pt} (h : Gen d g g' t) (hd : d ≤ d') : Gen d' g g' t := ⟨by have := h.ht; omega, h.r2, h.pl, h.ba, h.le, h.gs⟩
theorem Gen.set {d g : Nat} {ps : List (Int × Int)} (h : setOk ps) : Gen d g g (.set ps) := ⟨Nat.zero_le _, trivial, h, trivial, Nat.le_refl _, rgN_nil.symm⟩
theorem Gen.empty {d g : Nat} : Gen d g g .empty := ⟨Nat.zero_le _, trivial, trivial, trivial, Nat.le_refl _, rgN_nil.symm⟩
theorem Gen.anchor {d g : Nat} {s : Str} (h : ancOk s) : Gen d g g (.anchor s) := ⟨Nat.zero_le _, trivial, h, trivial, Nat.le_refl _, rgN_nil.symm⟩
theorem Gen.seq {d g g1 g2 : Nat} {a b : Pt} (h0 : 0 < d) (h : Gen (d - 1) g g1 a) (h' : Gen (d - 1) g1 g2 b) : Gen d g g2 (.seq a b) :=
  ⟨by have := h.ht; have := h'.ht; show max a.ht b.ht + 1 ≤ d; omega, ⟨h.r2, h'.r2⟩, ⟨h.pl, h'.pl⟩, ⟨h.ba, h'.ba⟩, Nat.le_trans h.le h'.le, by show a.grps ++ b.grps = _; rw [h.gs, h'.gs, rgN_app h.le h'.le]⟩
theorem Gen.alt {d g g1 g2 : Nat} {a b : Pt} (h0 : 0 < d) (h : Gen (d - 1) g g1 a) (h' : Gen (d - 1) g1 g2 b) : Gen d g g2 (.alt a b) :=
  ⟨by have := h.ht; have := h'.ht; show max a.ht b.ht + 1 ≤ d; omega, ⟨h.r2, h'.r2⟩, ⟨h.pl, h'.pl⟩, ⟨h.ba, h'.ba⟩, Nat.le_trans h.le h'.le, by show a.grps ++ b.grps = _; rw [h.gs, h'.gs, rgN_app h.le h'.le]⟩
theorem Gen.rep {d g g' : Nat} {t : Pt} {lo : Nat} {hi : Option Nat} {z : Bool} (h0 : 0 < d) (h : Gen (d - 1) g g' t) (h1 : lo ≤ 2) (h2 : ∀ k, hi = some k → lo ≤ k ∧ k ≤ lo + 2) : Gen d g g' (.rep t lo hi z) :=
  ⟨by have := h.ht; show t.ht + 1 ≤ d; omega, ⟨h.r2, h1, h2⟩, h.pl, h.ba, h.le, h.gs⟩
theorem Gen.grp {d g g' : Nat} {t : Pt} (h0 : 0 < d) (h : Gen (d - 1) (g + 1) g' t) : Gen d g g' (.grp g t) :=
  ⟨by have := h.ht; show t.ht + 1 ≤ d; omega, h.r2, h.pl, h.ba, by have := h.le; omega, by show g :: t.grps = _; rw [h.gs, rgN_cons (by have := h.le; omega)]⟩
theorem Gen.look {d g g' : Nat} {t : Pt} {a p : Bool} (h0 : 0 < d) (h : Gen (d - 1) g g' t) : Gen d g g' (.look a p t none) :=
  ⟨by have := h.ht; show t.ht + 1 ≤ d; omega, h.r2, h.pl, ⟨h.ba, rfl⟩, h.le, h.gs⟩
theorem Gen.pw {d g g' : Nat} {t : Pt} (h : Gen d g g' t) : t.grps.Pairwise (· < ·) := by rw [h.gs]; exact rgN_lt
theorem lks_r2 : ∀ {t : Pt} {a p : Bool} {s : Pt} {k : Option Nat}, .look a p s k ∈ t.lks → t.r2 → s.r2
  | .seq x y, a, p, s, k, h, hr => by
    rcases List.mem_append.mp h with h | h
    · exact lks_r2 h hr.1
    · exact lks_r2 h hr.2
  | .alt x y, a, p, s, k, h, hr => by
    rcases List.mem_append.mp h with h | h
    · exact lks_r2 h hr.1
    · exact lks_r2 h hr.2
  | .rep t _ _ _, a, p, s, k, h, hr => lks_r2 (t := t) h hr.1
  | .grp n t, a, p, s, k, h, hr => lks_r2 (t := t) h hr
  | .look _ _ t _, a, p, s, k, h, hr => by
    rcases List.mem_append.mp h with h | h
    · exact lks_r2 (t := t) h hr
    · cases List.mem_singleton.mp h
      exact hr
  | .set _, _, _, _, _, h, _ | .empty, _, _, _, _, h, _ | .anchor _, _, _, _, _, h, _ => by cases h
theorem cOk_of {t : Pt} {b : Bool} (h : t.r2) (hh : t.ht ≤ 4) : t.cOk b := by
  have h1 := un_ht (b := b) h
  have h2 := un_nd' (b := b) h hh
  have h3 := sz_nd (t := t.un b)
  exact ⟨by omega, by omega⟩
/-- all that prepare asks of a drawn tree -/
theorem prep_ok {t : Pt} (h : t.r2) (hh : t.ht ≤ 4) (hp : t.grps.Pairwise (· < ·)) {M : Md} {Q : QE} {E : EX} (q : Q (prepV t) M) : sp564 [ptD t] M Q E := by
  have hw : t.whole.r2 := r2_mark h
  have hwh : t.whole.ht ≤ 4 := by rw [Pt.whole, mark_ht]; exact hh
  refine ⟨t, rfl, r2_sm h, by omega, hp, cOk_of hw hwh, fun a p s k hs => cOk_of (lks_r2 hs hw) ?_, q⟩
  have := (lks_lt hs).1
  omega

/-! def 132: _law_codes; slots 0:_law_script 1:_law_state 2:_law_style 3:_law_low 4:_law_high 5:_law_start 6:_law_named; calls [('_law_digit', 2)]; consts []; built-ins [] -/
abbrev c132_11 : CSs := .cons (.ret (.tup (.cons (.tup (.cons (.var 3) (.cons (.bin .add (.var 3) (.int 1)) .nil))) .nil))) .nil
abbrev c132_10 : CSs := .cons (.set 3 (.bin .add (.int 97) (.call 2 (.cons (.var 0) (.cons (.var 1) (.cons (.int 3) .nil)))))) c132_11
abbrev c132_13 : CSs := .cons (.ret (.tup (.cons (.tup (.cons (.var 3) (.cons (.bin .add (.var 3) (.int 1)) .nil))) .nil))) .nil
abbrev c132_12 : CSs := .cons (.set 3 (.call 2 (.cons (.var 0) (.cons (.var 1) (.cons (.int 128) .nil))))) c132_13
abbrev c132_14 : CSs := .cons (.ret (.tup (.cons (.tup (.cons (.int 97) (.cons (.int 99) .nil))) .nil))) .nil
abbrev c132_16 : CSs := .cons (.ret (.idx (.bin .add (.var 6) (.lst false (.cons (.tup (.cons (.tup (.cons (.int 0) (.cons (.int 10) .nil))) (.cons (.tup (.cons (.int 11) (.cons (.int 13) .nil))) (.cons (.tup (.cons (.int 14) (.cons (.int 128) .nil))) .nil)))) .nil))) (.call 2 (.cons (.var 0) (.cons (.var 1) (.cons (.int 6) .nil)))))) .nil
abbrev c132_15 : CSs := .cons (.set 6 (.lst false (.cons (.tup .nil) (.cons (.tup (.cons (.tup (.cons (.int 0) (.cons (.int 128) .nil))) .nil)) (.cons (.tup (.cons (.tup (.cons (.int 48) (.cons (.int 58) .nil))) .nil)) (.cons (.tup (.cons (.tup (.cons (.int 48) (.cons (.int 58) .nil))) (.cons (.tup (.cons (.int 65) (.cons (.int 91) .nil))) (.cons (.tup (.cons (.int 95) (.cons (.int 96) .nil))) (.cons (.tup (.cons (.int 97) (.cons (.int 123) .nil))) .nil))))) (.cons (.tup (.cons (.tup (.cons (.int 9) (.cons (.int 14) .nil))) (.cons (.tup (.cons (.int 32) (.cons (.int 33) .nil))) .nil))) .nil))))))) c132_16
abbrev c132_17 : CSs := .cons (.ret (.tup (.cons (.tup (.cons (.var 3) (.cons (.var 4) .nil))) .nil))) .nil
abbrev c132_9 : CSs := .cons (.ret (.tup (.cons (.tup (.cons (.var 3) (.cons (.var 4) .nil))) (.cons (.tup (.cons (.var 5) (.cons (.bin .add (.bin .add (.var 5) (.int 1)) (.call 2 (.cons (.var 0) (.cons (.var 1) (.cons (.int 17) .nil))))) .nil))) .nil)))) .nil
abbrev c132_8 : CSs := .cons (.set 5 (.bin .add (.bin .add (.var 4) (.int 1)) (.call 2 (.cons (.var 0) (.cons (.var 1) (.cons (.int 20) .nil)))))) c132_9
abbrev c132_7 : CSs := .cons (.ifs (.cmp .eq (.var 2) (.int 7)) c132_17 .nil) c132_8
abbrev c132_6 : CSs := .cons (.set 4 (.bin .add (.bin .add (.var 3) (.int 1)) (.call 2 (.cons (.var 0) (.cons (.var 1) (.cons (.int 30) .nil)))))) c132_7
abbrev c132_5 : CSs := .cons (.set 3 (.call 2 (.cons (.var 0) (.cons (.var 1) (.cons (.int 60) .nil))))) c132_6
abbrev c132_4 : CSs := .cons (.ifs (.cmp .eq (.var 2) (.int 6)) c132_15 .nil) c132_5
abbrev c132_3 : CSs := .cons (.ifs (.cmp .eq (.var 2) (.int 5)) c132_14 .nil) c132_4
abbrev c132_2 : CSs := .cons (.ifs (.cmp .eq (.var 2) (.int 4)) c132_12 .nil) c132_3
abbrev c132_1 : CSs := .cons (.ifs (.cmp .lt (.var 2) (.int 4)) c132_10 .nil) c132_2
abbrev c132 : CSs := .cons (.set 2 (.call 2 (.cons (.var 0) (.cons (.var 1) (.cons (.int 9) .nil))))) c132_1
def sp132 : SpD := fun ds M Q _ => ∃ (ns : List Int) (a b : Int) (T : List D) (R : Md), ds = [.scr ns, .ref 0] ∧ M = .lst (.int a :: .int b :: T) :: R ∧ 0 ≤ a ∧ 0 ≤ b ∧
  ∀ (ps : List (Int × Int)) (a' b' : Int), setOk ps → 0 ≤ a' → 0 ≤ b' → Q (.tup (ps.map pr)) (.lst (.int a' :: .int b' :: T) :: R)
theorem ln132 : ∀ ds M Q E, sp132 ds M Q E → ds.length = 2 := by
  rintro _ _ _ _ ⟨_, _, _, _, _, rfl, _⟩; rfl
theorem rd132 {Φ : Nat → SpD} {κ : Nat → D} (h2 : Φ 2 = sp2w) : RdOk Φ κ c132 7 (sp132) := by
  rintro ds M Q E hM hd ⟨ns, a, b, T, R, rfl, rfl, ha, hb, hQ⟩
  walk_at "go"
  refine dig h2 ha hb (by omega) (by omega) fun s a b s0 s1 ha hb => ?_; walk_at "go"
  refine iteI (fun h => ?_) fun h => ?_
  · walk_at "go"
    refine dig h2 ha hb (by omega) (by omega) fun d a b d0 d1 ha hb => ?_; walk_at "go"
    exact .keep (hQ [(97 + d, 97 + d + 1)] a b (setOk_of (by simp) (by simp [Canon]; omega) (by simp; omega)) ha hb)
  walk_at "go"
  refine iteI (fun h => ?_) fun h => ?_
  · walk_at "go"
    refine dig h2 ha hb (by omega) (by omega) fun d a b d0 d1 ha hb => ?_; walk_at "go"
    exact .keep (hQ [(d, d + 1)] a b (setOk_of (by simp) (by simp [Canon]; omega) (by simp; omega)) ha hb)
  walk_at "go"
  refine iteI (fun h => ?_) fun h => ?_
  · walk_at "go"
    exact .keep (hQ [(97, 99)] a b (setOk_of (by decide) (by simp [Canon]) (by simp)) ha hb)
  walk_at "go"
  refine iteI (fun h => ?_) fun h => ?_
  · walk_at "go"
    refine dig h2 ha hb (by omega) (by omega) fun d a b d0 d1 ha hb => ?_; walk_at "go"
    refine atQ_mem d0 (by simpa using d1) fun d hd => ?_
    simp only [List.mem_cons, List.not_mem_nil, or_false] at hd
    rcases hd with rfl | rfl | rfl | rfl | rfl | rfl
    · exact .keep (hQ [] a b (setOk_of (by decide) (by simp [Canon]) (by simp)) ha hb)
    · exact .keep (hQ [(0, 128)] a b (setOk_of (by decide) (by simp [Canon]) (by simp)) ha hb)
    · exact .keep (hQ [(48, 58)] a b (setOk_of (by decide) (by simp [Canon]) (by simp)) ha hb)
    · exact .keep (hQ [(48, 58), (65, 91), (95, 96), (97, 123)] a b (setOk_of (by decide) (by simp [Canon]) (by simp)) ha hb)
    · exact .keep (hQ [(9, 14), (32, 33)] a b (setOk_of (by decide) (by simp [Canon]) (by simp)) ha hb)
    · exact .keep (hQ [(0, 10), (11, 13), (14, 128)] a b (setOk_of (by decide) (by simp [Canon]) (by simp)) ha hb)
  walk_at "go"
  refine dig h2 ha hb (by omega) (by omega) fun lo a b lo0 lo1 ha hb => ?_; walk_at "go"
  refine dig h2 ha hb (by omega) (by omega) fun d a b d0 d1 ha hb => ?_; walk_at "go"
  refine iteI (fun h => ?_) fun h => ?_
  · walk_at "go"
    exact .keep (hQ [(lo, lo + 1 + d)] a b (setOk_of (by simp) (by simp [Canon]; omega) (by simp; omega)) ha hb)
  walk_at "go"
  refine dig h2 ha hb (by omega) (by omega) fun e a b e0 e1 ha hb => ?_; walk_at "go"
  refine dig h2 ha hb (by omega) (by omega) fun f a b f0 f1 ha hb => ?_; walk_at "go"
  exact .keep (hQ [(lo, lo + 1 + d), (lo + 1 + d + 1 + e, lo + 1 + d + 1 + e + 1 + f)] a b (setOk_of (by simp) (by simp [Canon]; omega) (by simp; omega)) ha hb)

/-! def 184: _law_leaf; slots 0:_law_script 1:_law_state 2:_law_kind 3:_law_names; calls [('_law_digit', 2), ('_law_codes', 132)]; consts []; built-ins [] -/
abbrev c184_5 : CSs := .cons (.ret (.tup (.cons (.str "set") (.cons (.call 132 (.cons (.var 0) (.cons (.var 1) .nil))) .nil)))) .nil
abbrev c184_6 : CSs := .cons (.ret (.tup (.cons (.str "empty") .nil))) .nil
abbrev c184_4 : CSs := .cons (.ret (.tup (.cons (.str "anchor") (.cons (.idx (.var 3) (.call 2 (.cons (.var 0) (.cons (.var 1) (.cons (.int 6) .nil))))) .nil)))) .nil
abbrev c184_3 : CSs := .cons (.set 3 (.lst false (.cons (.str "text_start") (.cons (.str "text_end") (.cons (.str "line_start") (.cons (.str "line_end") (.cons (.str "word_boundary") (.cons (.str "no_word_boundary") .nil)))))))) c184_4
abbrev c184_2 : CSs := .cons (.ifs (.cmp .eq (.var 2) (.int 6)) c184_6 .nil) c184_3
abbrev c184_1 : CSs := .cons (.ifs (.cmp .lt (.var 2) (.int 6)) c184_5 .nil) c184_2
abbrev c184 : CSs := .cons (.set 2 (.call 2 (.cons (.var 0) (.cons (.var 1) (.cons (.int 8) .nil))))) c184_1
def sp184 : SpD := fun ds M Q _ => ∃ (ns : List Int) (a b : Int) (T : List D) (R : Md), ds = [.scr ns, .ref 0] ∧ M = .lst (.int a :: .int b :: T) :: R ∧ 0 ≤ a ∧ 0 ≤ b ∧
  ∀ (t : Pt) (a' b' : Int), (∀ d g, Gen d g g t) → t.lks = [] → 0 ≤ a' → 0 ≤ b' → Q (ptD t) (.lst (.int a' :: .int b' :: T) :: R)
theorem ln184 : ∀ ds M Q E, sp184 ds M Q E → ds.length = 2 := by
  rintro _ _ _ _ ⟨_, _, _, _, _, rfl, _⟩; rfl
theorem rd184 {Φ : Nat → SpD} {κ : Nat → D} (h2 : Φ 2 = sp2w) (h132 : Φ 132 = sp132) : RdOk Φ κ c184 4 (sp184) := by
  rintro ds M Q E hM hd ⟨ns, a, b, T, R, rfl, rfl, ha, hb, hQ⟩
  walk_at "go"
  refine dig h2 ha hb (by omega) (by omega) fun k a b k0 k1 ha hb => ?_; walk_at "go"
  refine iteI (fun h => ?_) fun h => ?_
  · walk_at "go"
    rw [h132]
    refine ⟨ns, a, b, T, R, rfl, rfl, ha, hb, fun ps a b hps ha hb => ?_⟩
    walk_at "go"
    exact .keep (hQ (.set ps) a b (fun d g => Gen.set hps) rfl ha hb)
  · walk_at "go"
    refine iteI (fun h => ?_) fun h => ?_
    · walk_at "go"
      exact .keep (hQ .empty a b (fun d g => Gen.empty) rfl ha hb)
    · walk_at "go"
      refine dig h2 ha hb (by omega) (by omega) fun d a b d0 d1 ha hb => ?_; walk_at "go"
      refine atQ_mem d0 (by simpa using d1) fun d hd => ?_
      simp only [List.mem_cons, List.not_mem_nil, or_false] at hd
      rcases hd with rfl | rfl | rfl | rfl | rfl | rfl <;> (walk_at "go"; exact .keep (hQ (.anchor _) a b (fun d g => Gen.anchor (by unfold ancOk; simp)) rfl ha hb))

/-! def 185: _law_repeat; slots 0:_law_script 1:_law_state 2:_law_depth 3:_law_least 4:_law_most 5:_law_greedy; calls [('_law_digit', 2), ('_law_tree', 183)]; consts []; built-ins [] -/
abbrev c185_5 : CSs := .cons (.set 4 (.bin .add (.var 3) (.call 2 (.cons (.var 0) (.cons (.var 1) (.cons (.int 3) .nil)))))) .nil
abbrev c185_4 : CSs := .cons (.ret (.tup (.cons (.str "repeat") (.cons (.call 183 (.cons (.var 0) (.cons (.var 1) (.cons (.bin .sub (.var 2) (.int 1)) .nil)))) (.cons (.var 3) (.cons (.var 4) (.cons (.var 5) .nil))))))) .nil
abbrev c185_3 : CSs := .cons (.set 5 (.cmp .eq (.call 2 (.cons (.var 0) (.cons (.var 1) (.cons (.int 2) .nil)))) (.int 0))) c185_4
abbrev c185_2 : CSs := .cons (.ifs (.cmp .eq (.call 2 (.cons (.var 0) (.cons (.var 1) (.cons (.int 2) .nil)))) (.int 1)) c185_5 .nil) c185_3
abbrev c185_1 : CSs := .cons (.set 4 .non) c185_2
abbrev c185 : CSs := .cons (.set 3 (.call 2 (.cons (.var 0) (.cons (.var 1) (.cons (.int 3) .nil))))) c185_1
def sp183 (n : Nat) : SpD := fun ds M Q _ => ∃ (ns : List Int) (a b : Int) (g l dep : Nat) (R : Md), ds = [.scr ns, .ref 0, .int dep] ∧ M = .lst [.int a, .int b, .int g, .int l] :: R ∧ 0 ≤ a ∧ 0 ≤ b ∧ dep < n ∧
  ∀ (t : Pt) (a' b' : Int) (g' l' : Nat), Gen dep g g' t → 0 ≤ a' → 0 ≤ b' → Q (ptD t) (.lst [.int a', .int b', .int g', .int l'] :: R)
def sp185 (n : Nat) : SpD := fun ds M Q _ => ∃ (ns : List Int) (a b : Int) (g l dep : Nat) (R : Md), ds = [.scr ns, .ref 0, .int dep] ∧ M = .lst [.int a, .int b, .int g, .int l] :: R ∧ 0 ≤ a ∧ 0 ≤ b ∧ 0 < dep ∧ dep ≤ n ∧
  ∀ (t : Pt) (a' b' : Int) (g' l' : Nat), Gen dep g g' t → 0 ≤ a' → 0 ≤ b' → Q (ptD t) (.lst [.int a', .int b', .int g', .int l'] :: R)
theorem ln185 (n : Nat) : ∀ ds M Q E, sp185 n ds M Q E → ds.length = 3 := by
  rintro _ _ _ _ ⟨_, _, _, _, _, _, _, rfl, _⟩; rfl
theorem rd185 {Φ : Nat → SpD} {κ : Nat → D} {n : Nat} (h2 : Φ 2 = sp2w) (h183 : Φ 183 = sp183 n) : RdOk Φ κ c185 6 (sp185 n) := by
  rintro ds M Q E hM hd ⟨ns, a, b, g, l, dep, R, rfl, rfl, ha, hb, h0, hn, hQ⟩
  walk_at "go"
  refine dig h2 ha hb (by omega) (by omega) fun lo a b lo0 lo1 ha hb => ?_; walk_at "go"
  refine dig h2 ha hb (by omega) (by omega) fun z a b z0 z1 ha hb => ?_; walk_at "go"
  have t3 : ∀ (hi : Option Nat) (a b : Int), (∀ k, hi = some k → lo.toNat ≤ k ∧ k ≤ lo.toNat + 2) → 0 ≤ a → 0 ≤ b → nxt Φ κ c185_3 (fun x _ M => E x M) (endsD (R.length + 1) Q) [some (.scr ns), some (.ref 0), some (.int dep), some (.int lo), some (onD hi), none] (.lst [.int a, .int b, .int g, .int l] :: R) := by
    intro hi a b hh ha hb
    walk_at "go"
    refine dig h2 ha hb (by omega) (by omega) fun y a b y0 y1 ha hb => ?_; walk_at "go"
    rw [h183]
    refine ⟨ns, a, b, g, l, dep - 1, R, by rw [show (dep : Int) - 1 = ((dep - 1 : Nat) : Int) by omega], rfl, ha, hb, by omega, fun t a b g' l' ht ha hb => ?_⟩
    walk_at "go"
    refine .keep ?_
    have := hQ (.rep t lo.toNat hi (decide (y = 0))) a b g' l' (Gen.rep h0 ht (by omega) hh) ha hb
    simp only [ptD] at this
    rw [show ((lo.toNat : Nat) : Int) = lo by omega] at this
    exact this
  refine iteI (fun h => ?_) fun h => ?_
  · walk_at "go"
    refine dig h2 ha hb (by omega) (by omega) fun y a b y0 y1 ha hb => ?_; walk_at "go"
    have e : (D.int (lo + y)) = onD (some (lo.toNat + y.toNat)) := by show _ = D.int ((lo.toNat + y.toNat : Nat) : Int); congr 1; omega
    rw [e]
    exact t3 (some (lo.toNat + y.toNat)) a b (fun k e => by cases e; omega) ha hb
  · exact t3 none a b (fun h e => by cases e) ha hb

/-! def 183: _law_tree; slots 0:_law_script 1:_law_state 2:_law_depth 3:_law_kind 4:_law_ahead 5:_law_positive 6:_law_first 7:_law_number; calls [('_law_digit', 2), ('_law_leaf', 184), ('_law_tree', 183), ('_law_repeat', 185)]; consts []; built-ins [] -/
abbrev c183_9 : CSs := .cons (.ret (.call 184 (.cons (.var 0) (.cons (.var 1) .nil)))) .nil
abbrev c183_11 : CSs := .cons (.ret (.tup (.cons (.idx (.lst false (.cons (.str "sequence") (.cons (.str "choice") .nil))) (.bin .fdiv (.var 3) (.int 5))) (.cons (.var 6) (.cons (.call 183 (.cons (.var 0) (.cons (.var 1) (.cons (.bin .sub (.var 2) (.int 1)) .nil)))) .nil))))) .nil
abbrev c183_10 : CSs := .cons (.set 6 (.call 183 (.cons (.var 0) (.cons (.var 1) (.cons (.bin .sub (.var 2) (.int 1)) .nil))))) c183_11
abbrev c183_12 : CSs := .cons (.ret (.call 185 (.cons (.var 0) (.cons (.var 1) (.cons (.var 2) .nil))))) .nil
abbrev c183_15 : CSs := .cons (.ret (.tup (.cons (.str "group") (.cons (.var 7) (.cons (.call 183 (.cons (.var 0) (.cons (.var 1) (.cons (.bin .sub (.var 2) (.int 1)) .nil)))) .nil))))) .nil
abbrev c183_14 : CSs := .cons (.setIx (.var 1) (.int 2) (.bin .add (.var 7) (.int 1))) c183_15
abbrev c183_13 : CSs := .cons (.set 7 (.idx (.var 1) (.int 2))) c183_14
abbrev c183_8 : CSs := .cons (.ret (.tup (.cons (.str "look") (.cons (.var 4) (.cons (.var 5) (.cons (.call 183 (.cons (.var 0) (.cons (.var 1) (.cons (.bin .sub (.var 2) (.int 1)) .nil)))) .nil)))))) .nil
abbrev c183_7 : CSs := .cons (.set 5 (.cmp .eq (.call 2 (.cons (.var 0) (.cons (.var 1) (.cons (.int 2) .nil)))) (.int 0))) c183_8
abbrev c183_6 : CSs := .cons (.set 4 (.cmp .eq (.call 2 (.cons (.var 0) (.cons (.var 1) (.cons (.int 2) .nil)))) (.int 0))) c183_7
abbrev c183_5 : CSs := .cons (.setIx (.var 1) (.int 3) (.bin .add (.idx (.var 1) (.int 3)) (.int 1))) c183_6
abbrev c183_4 : CSs := .cons (.ifs (.or (.cmp .lt (.var 3) (.int 14)) (.cmp .gt (.idx (.var 1) (.int 3)) (.int 3))) c183_13 .nil) c183_5
abbrev c183_3 : CSs := .cons (.ifs (.cmp .lt (.var 3) (.int 11)) c183_12 .nil) c183_4
abbrev c183_2 : CSs := .cons (.ifs (.cmp .lt (.var 3) (.int 8)) c183_10 .nil) c183_3
abbrev c183_1 : CSs := .cons (.ifs (.or (.cmp .eq (.var 2) (.int 0)) (.cmp .lt (.var 3) (.int 2))) c183_9 .nil) c183_2
abbrev c183 : CSs := .cons (.set 3 (.call 2 (.cons (.var 0) (.cons (.var 1) (.cons (.int 16) .nil))))) c183_1
theorem ln183 (n : Nat) : ∀ ds M Q E, sp183 n ds M Q E → ds.length = 3 := by
  rintro _ _ _ _ ⟨_, _, _, _, _, _, _, rfl, _⟩; rfl
theorem z183 : ∀ ds M Q E, sp183 0 ds M Q E → False := by
  rintro _ _ _ _ ⟨_, _, _, _, _, _, _, _, _, _, _, h, _⟩; omega
theorem rd183 {Φ : Nat → SpD} {κ : Nat → D} {n : Nat} (h2 : Φ 2 = sp2w) (h184 : Φ 184 = sp184) (h183 : Φ 183 = sp183 n) (h185 : Φ 185 = sp185 n) : RdOk Φ κ c183 8 (sp183 (n + 1)) := by
  rintro ds M Q E hM hd ⟨ns, a, b, g, l, dep, R, rfl, rfl, ha, hb, hdn, hQ⟩
  have sub : ∀ (a b : Int) (g l : Nat) (Q : QE) (E : EX), 0 < dep → 0 ≤ a → 0 ≤ b → (∀ (t : Pt) (a' b' : Int) (g' l' : Nat), Gen (dep - 1) g g' t → 0 ≤ a' → 0 ≤ b' → Q (ptD t) (.lst [.int a', .int b', .int g', .int l'] :: R)) →
      Φ 183 [.scr ns, .ref 0, .int ((dep : Int) - 1)] (.lst [.int a, .int b, .int g, .int l] :: R) Q E := by
    intro a b g l Q E h0 ha hb q
    rw [h183]
    exact ⟨ns, a, b, g, l, dep - 1, R, by rw [show (dep : Int) - 1 = ((dep - 1 : Nat) : Int) by omega], rfl, ha, hb, by omega, q⟩
  walk_at "go"
  refine dig h2 ha hb (by omega) (by omega) fun k a b k0 k1 ha hb => ?_; walk_at "go"
  have leaf : ∀ Q' : QE, (∀ d M, Q' d M = Fin (R.length + 1) Q d M) → Φ 184 [.scr ns, .ref 0] (.lst [.int a, .int b, .int g, .int l] :: R) Q' E := by
    intro Q' hK
    rw [h184]
    exact ⟨ns, a, b, _, R, rfl, rfl, ha, hb, fun t a b h1 h2 ha hb => by rw [hK]; exact .keep (hQ t a b g l (h1 _ _) ha hb)⟩
  refine iteI (fun h => ?_) fun hd => ?_
  · walk_at "go"; exact leaf _ fun _ _ => rfl
  refine iteI (fun h => ?_) fun hk => ?_
  · walk_at "go"; exact leaf _ fun _ _ => rfl
  have hd0 : 0 < dep := by omega
  walk_at "go"
  refine iteI (fun h => ?_) fun h => ?_
  · walk_at "go"
    refine sub a b g l _ _ hd0 ha hb fun t a b g1 l1 ht ha hb => ?_
    by_cases h5 : k < 5
    · have e : k / 5 = 0 := by omega
      walk_at "go"
      refine ⟨⟨by omega, by omega⟩, ?_⟩
      rw [e]
      walk_at "go"
      refine sub a b g1 l1 _ _ hd0 ha hb fun u a b g2 l2 hu ha hb => ?_
      walk_at "go"
      exact .keep (hQ (.seq t u) a b g2 l2 (Gen.seq hd0 ht hu) ha hb)
    · have e : k / 5 = 1 := by omega
      walk_at "go"
      refine ⟨⟨by omega, by omega⟩, ?_⟩
      rw [e]
      walk_at "go"
      refine sub a b g1 l1 _ _ hd0 ha hb fun u a b g2 l2 hu ha hb => ?_
      walk_at "go"
      exact .keep (hQ (.alt t u) a b g2 l2 (Gen.alt hd0 ht hu) ha hb)
  walk_at "go"
  refine iteI (fun h => ?_) fun h => ?_
  · walk_at "go"
    rw [h185]
    exact ⟨ns, a, b, g, l, dep, R, rfl, rfl, ha, hb, hd0, by omega, fun t a b g' l' ht ha hb => .keep (hQ t a b g' l' ht ha hb)⟩
  walk_at "go"
  have grp : ∀ Q' : QE, (∀ d M, Q' d M = Fin (R.length + 1) Q (.tup [.str "group", .int g, d]) M) → Φ 183 [.scr ns, .ref 0, .int ((dep : Int) - 1)] (.lst [.int a, .int b, .int ((g : Int) + 1), .int l] :: R) Q' E := by
    intro Q' hK
    rw [show (g : Int) + 1 = ((g + 1 : Nat) : Int) by omega]
    refine sub a b (g + 1) l _ _ hd0 ha hb fun t a b g1 l1 ht ha hb => ?_
    rw [hK]
    exact .keep (hQ (.grp g t) a b g1 l1 (Gen.grp hd0 ht) ha hb)
  refine iteI (fun h => ?_) fun h => ?_
  · walk_at "go"
    rw [show ixN 4 2 = some 2 from ixN_pos (by omega) (by omega)]
    walk_at "go"
    refine grp _ fun d M => ?_
    first | rfl | (walk_at "go"; try rfl)
  refine iteI (fun h => ?_) fun h3 => ?_
  · walk_at "go"
    rw [show ixN 4 2 = some 2 from ixN_pos (by omega) (by omega)]
    walk_at "go"
    refine grp _ fun d M => ?_
    first | rfl | (walk_at "go"; try rfl)
  walk_at "go"
  rw [show ixN 4 3 = some 3 from ixN_pos (by omega) (by omega)]
  walk_at "go"
  refine dig h2 ha hb (by omega) (by omega) fun x a b x0 x1 ha hb => ?_; walk_at "go"
  refine dig h2 ha hb (by omega) (by omega) fun y a b y0 y1 ha hb => ?_; walk_at "go"
  rw [show (l : Int) + 1 = ((l + 1 : Nat) : Int) by omega]
  refine sub a b g (l + 1) _ _ hd0 ha hb fun t a b g1 l1 ht ha hb => ?_
  walk_at "go"
  exact .keep (hQ (.look (decide (x = 0)) (decide (y = 0)) t none) a b g1 l1 (Gen.look hd0 ht) ha hb)

/-! nested plain data compared -/
structure PyOk (n : Nat) (x : D) (a : PyData) : Prop where
  py : pyD x = some a
  lay : a.canLay0 = true
  dep : a.depth ≤ n
theorem PyOk.up {n m : Nat} {x : D} {a : PyData} (h : PyOk n x a) (hm : n ≤ m) : PyOk m x a := ⟨h.py, h.lay, Nat.le_trans h.dep hm⟩
theorem pyo_non {n : Nat} : PyOk n .non .none := ⟨rfl, by simp [PyData.canLay0], by simp [PyData.depth]⟩
theorem pyo_bl {n : Nat} {b : Bool} : PyOk n (.bl b) (.bool b) := ⟨rfl, by simp [PyData.canLay0], by simp [PyData.depth]⟩
theorem pyo_int {n : Nat} {i : Int} : PyOk n (.int i) (.int i) := ⟨rfl, by simp [PyData.canLay0], by simp [PyData.depth]⟩
theorem pyo_map {α : Type} {n : Nat} {f : α → D} {g : α → PyData} : ∀ {l : List α}, (∀ x ∈ l, PyOk n (f x) (g x)) → pyDs (l.map f) = some (l.map g) ∧ PyData.canLayAll0 (l.map g) = true ∧ PyData.depthAll (l.map g) ≤ n
  | [], _ => ⟨by simp [pyDs], by simp [PyData.canLayAll0], by simp [PyData.depthAll]⟩
  | x :: l, h => by
    obtain ⟨h1, h2, h3⟩ := pyo_map (l := l) fun y hy => h y (List.mem_cons_of_mem _ hy)
    obtain ⟨k1, k2, k3⟩ := h x List.mem_cons_self
    refine ⟨?_, ?_, ?_⟩
    · rw [List.map_cons, List.map_cons, pyDs, k1, h1]
    · rw [List.map_cons, PyData.canLayAll0, k2, h2]; rfl
    · rw [List.map_cons, PyData.depthAll]; omega
theorem pyo_tup {α : Type} {n : Nat} {f : α → D} {g : α → PyData} {l : List α} (h : ∀ x ∈ l, PyOk n (f x) (g x)) : PyOk (n + 1) (.tup (l.map f)) (.tuple (l.map g)) := by
  obtain ⟨h1, h2, h3⟩ := pyo_map h
  refine ⟨?_, ?_, ?_⟩
  · rw [pyD, h1]; rfl
  · rw [PyData.canLay0]; exact h2
  · rw [PyData.depth]; omega
theorem pyo_2 {n : Nat} {x y : D} {a b : PyData} (h : PyOk n x a) (k : PyOk n y b) : PyOk (n + 1) (.tup [x, y]) (.tuple [a, b]) := by
  have := pyo_tup (n := n) (f := Prod.fst) (g := Prod.snd) (l := [(x, a), (y, b)]) (by
    intro z hz
    simp only [List.mem_cons, List.not_mem_nil, or_false] at hz
    rcases hz with rfl | rfl
    · exact h
    · exact k)
  exact this
theorem pyo_3 {n : Nat} {x y z : D} {a b c : PyData} (h : PyOk n x a) (k : PyOk n y b) (j : PyOk n z c) : PyOk (n + 1) (.tup [x, y, z]) (.tuple [a, b, c]) := by
  have := pyo_tup (n := n) (f := Prod.fst) (g := Prod.snd) (l := [(x, a), (y, b), (z, c)]) (by
    intro z hz
    simp only [List.mem_cons, List.not_mem_nil, or_false] at hz
    rcases hz with rfl | rfl | rfl
    · exact h
    · exact k
    · exact j)
  exact this
theorem beq_dec {α : Type} [BEq α] [LawfulBEq α] [DecidableEq α] (a b : α) : (a == b) = decide (a = b) := by
  rw [Bool.eq_iff_iff, beq_iff_eq, decide_eq_true_eq]
theorem eqS_py {x y : D} {a b : PyData} {c : Bool} (h : eqS x y = some c) (hx : pyD x = some a) (hy : pyD y = some b) : c = PyData.eqv a b := by
  cases x <;> cases y <;> first
    | (cases hx; cases hy; cases h; simp [PyData.eqv, beq_dec]; done)
    | cases h
theorem noref_rs {x : D} {a : PyData} {M : Md} (h : pyD x = some a) : rsD x M = x := by
  cases x <;> first | rfl | (simp [pyD] at h)
theorem eq_py {n m : Nat} {x y : D} {a b : PyData} {M : Md} {Q : Bool → Prop} (hx : PyOk n x a) (hy : PyOk m y b) (hn : n ≤ 64) (hm : m ≤ 64) : cpD .eq x y M Q = Q (PyData.eqv a b) := by
  show eqQ x y M Q = _
  unfold eqQ
  cases e : eqS x y with
  | some c => dsimp only; rw [eqS_py e hx.py hy.py]
  | none =>
    dsimp only
    rw [noref_rs hx.py, noref_rs hy.py, hx.py, hy.py]
    dsimp only
    have h1 : SeqAt.shaped a = true := by unfold SeqAt.shaped; rw [hx.lay, Bool.true_and]; exact decide_eq_true (Nat.le_trans hx.dep hn)
    have h2 : SeqAt.shaped b = true := by unfold SeqAt.shaped; rw [hy.lay, Bool.true_and]; exact decide_eq_true (Nat.le_trans hy.dep hm)
    rw [h1, h2]
    exact propext ⟨fun h => h.2.2, fun h => ⟨rfl, rfl, h⟩⟩
theorem ne_py {n m : Nat} {x y : D} {a b : PyData} {M : Md} {Q : Bool → Prop} (hx : PyOk n x a) (hy : PyOk m y b) (hn : n ≤ 64) (hm : m ≤ 64) : cpD .ne x y M Q = Q (!PyData.eqv a b) := by
  show cpD .eq x y M (fun b => Q (!b)) = _
  rw [eq_py hx hy hn hm]
theorem eqv_all {α : Type} {g : α → PyData} [DecidableEq α] (h : ∀ x y, PyData.eqv (g x) (g y) = decide (x = y)) : ∀ (l k : List α), PyData.eqvAll (l.map g) (k.map g) = decide (l = k)
  | [], [] => by simp [PyData.eqvAll]
  | [], y :: k => by simp [PyData.eqvAll]
  | x :: l, [] => by simp [PyData.eqvAll]
  | x :: l, y :: k => by
    rw [List.map_cons, List.map_cons, PyData.eqvAll, h, eqv_all h l k]
    by_cases h1 : x = y <;> by_cases h2 : l = k <;> simp [h1, h2]
theorem eqv_bl (a b : Bool) : PyData.eqv (.bool a) (.bool b) = decide (a = b) := by simp only [PyData.eqv]; exact beq_dec a b
theorem eqv_int (a b : Int) : PyData.eqv (.int a) (.int b) = decide (a = b) := by simp only [PyData.eqv]; exact beq_dec a b
theorem eqv_tup {α : Type} {g : α → PyData} [DecidableEq α] (h : ∀ x y, PyData.eqv (g x) (g y) = decide (x = y)) (l k : List α) : PyData.eqv (.tuple (l.map g)) (.tuple (k.map g)) = decide (l = k) := by
  rw [PyData.eqv]; exact eqv_all h l k

/-! trees as plain data, compared -/
theorem pyo_str {n : Nat} {s : Str} (h : PyData.strOk s = true) : PyOk n (.str s) (.str s) := ⟨rfl, by simp [PyData.canLay0, h], by simp [PyData.depth]⟩
theorem pyo_l {n : Nat} (l : List (D × PyData)) (h : ∀ x ∈ l, PyOk n x.1 x.2) : PyOk (n + 1) (.tup (l.map Prod.fst)) (.tuple (l.map Prod.snd)) := pyo_tup h
def csD (c : List (Int × Int)) : D := .tup (c.map pr)
def prG (p : Int × Int) : PyData := .tuple [.int p.1, .int p.2]
def csG (c : List (Int × Int)) : PyData := .tuple (c.map prG)
def onG : Option Nat → PyData
  | none => .none
  | some k => .int k
def trG : Pt → PyData
  | .set ps => .tuple [.str "set", csG ps]
  | .empty => .tuple [.str "empty"]
  | .anchor s => .tuple [.str "anchor", .str s]
  | .seq a b => .tuple [.str "sequence", trG a, trG b]
  | .alt a b => .tuple [.str "choice", trG a, trG b]
  | .rep t lo hi g => .tuple [.str "repeat", trG t, .int lo, onG hi, .bool g]
  | .grp n t => .tuple [.str "group", .int n, trG t]
  | .look a p t none => .tuple [.str "look", .bool a, .bool p, trG t]
  | .look a p t (some k) => .tuple [.str "look", .bool a, .bool p, trG t, .int k]
theorem pyo_pr {n : Nat} (p : Int × Int) : PyOk (n + 1) (pr p) (prG p) := pyo_2 pyo_int pyo_int
theorem pyo_cs {n : Nat} (c : List (Int × Int)) : PyOk (n + 2) (csD c) (csG c) := pyo_tup fun p _ => pyo_pr p
theorem pyo_on {n : Nat} (o : Option Nat) : PyOk n (onD o) (onG o) := by cases o <;> first | exact pyo_non | exact pyo_int
theorem pyo_tr : ∀ {t : Pt}, t.pl → PyOk (t.ht + 3) (ptD t) (trG t)
  | .set ps, _ => pyo_2 (pyo_str (by decide +kernel)) (pyo_cs ps)
  | .empty, _ => pyo_l (n := 2) [(.str "empty", .str "empty")] (by intro x hx; rw [List.mem_singleton.mp hx]; exact pyo_str (by decide +kernel))
  | .anchor s, h => by
    have : PyData.strOk s = true := by
      unfold Pt.pl ancOk at h
      rcases h with h | h | h | h | h | h <;> (subst h; decide +kernel)
    exact pyo_2 (pyo_str (by decide +kernel)) (pyo_str this)
  | .seq a b, h => by
    have h1 := (pyo_tr h.1).up (m := max a.ht b.ht + 3) (by omega)
    have h2 := (pyo_tr h.2).up (m := max a.ht b.ht + 3) (by omega)
    exact pyo_3 (pyo_str (by decide +kernel)) h1 h2
  | .alt a b, h => by
    have h1 := (pyo_tr h.1).up (m := max a.ht b.ht + 3) (by omega)
    have h2 := (pyo_tr h.2).up (m := max a.ht b.ht + 3) (by omega)
    exact pyo_3 (pyo_str (by decide +kernel)) h1 h2
  | .rep t lo hi g, h => by
    refine pyo_l (n := t.ht + 3) [(.str "repeat", .str "repeat"), (ptD t, trG t), (.int lo, .int lo), (onD hi, onG hi), (.bl g, .bool g)] ?_
    intro x hx
    simp only [List.mem_cons, List.not_mem_nil, or_false] at hx
    rcases hx with rfl | rfl | rfl | rfl | rfl
    · exact pyo_str (by decide +kernel)
    · exact pyo_tr (t := t) h
    · exact pyo_int
    · exact pyo_on _
    · exact pyo_bl
  | .grp n t, h => pyo_3 (pyo_str (by decide +kernel)) pyo_int (pyo_tr (t := t) h)
  | .look a p t none, h => by
    refine pyo_l (n := t.ht + 3) [(.str "look", .str "look"), (.bl a, .bool a), (.bl p, .bool p), (ptD t, trG t)] ?_
    intro x hx
    simp only [List.mem_cons, List.not_mem_nil, or_false] at hx
    rcases hx with rfl | rfl | rfl | rfl
    · exact pyo_str (by decide +kernel)
    · exact pyo_bl
    · exact pyo_bl
    · exact pyo_tr (t := t) h
  | .look a p t (some k), h => by
    refine pyo_l (n := t.ht + 3) [(.str "look", .str "look"), (.bl a, .bool a), (.bl p, .bool p), (ptD t, trG t), (.int k, .int k)] ?_
    intro x hx
    simp only [List.mem_cons, List.not_mem_nil, or_false] at hx
    rcases hx with rfl | rfl | rfl | rfl | rfl
    · exact pyo_str (by decide +kernel)
    · exact pyo_bl
    · exact pyo_bl
    · exact pyo_tr (t := t) h
    · exact pyo_int
theorem eqv_str (a b : Str) : PyData.eqv (.str a) (.str b) = decide (a = b) := by simp only [PyData.eqv]; exact beq_dec a b
theorem eqv_pr (p q : Int × Int) : PyData.eqv (prG p) (prG q) = decide (p = q) := by
  obtain ⟨a, b⟩ := p; obtain ⟨c, d⟩ := q
  unfold prG
  rw [PyData.eqv, PyData.eqvAll, PyData.eqvAll, PyData.eqvAll, eqv_int, eqv_int]
  by_cases h1 : a = c <;> by_cases h2 : b = d <;> simp [h1, h2]
theorem eqv_cs (c d : List (Int × Int)) : PyData.eqv (csG c) (csG d) = decide (c = d) := eqv_tup eqv_pr c d
theorem eqv_on (a b : Option Nat) : PyData.eqv (onG a) (onG b) = decide (a = b) := by
  cases a with
  | none => cases b <;> simp [onG, PyData.eqv]
  | some x =>
    cases b with
    | none => simp [onG, PyData.eqv]
    | some y =>
      simp only [onG]
      rw [eqv_int]
      by_cases h : x = y
      · simp [h]
      · have : ¬ ((x : Int) = (y : Int)) := by omega
        simp [h, this]
noncomputable instance decPt : DecidableEq Pt := fun _ _ => Classical.propDecidable _
def Pt.nm : Pt → Str
  | .set _ => "set" | .empty => "empty" | .anchor _ => "anchor" | .seq _ _ => "sequence" | .alt _ _ => "choice" | .rep _ _ _ _ => "repeat" | .grp _ _ => "group" | .look _ _ _ _ => "look"
theorem trG_nm (t : Pt) : ∃ l, trG t = .tuple (.str t.nm :: l) := by
  cases t with
  | look a p t k => cases k <;> exact ⟨_, rfl⟩
  | _ => exact ⟨_, rfl⟩
theorem eqv_nm {t u : Pt} (h : ¬ t.nm = u.nm) : PyData.eqv (trG t) (trG u) = decide (t = u) := by
  obtain ⟨l, e1⟩ := trG_nm t
  obtain ⟨k, e2⟩ := trG_nm u
  have : ¬ t = u := fun e => h (by rw [e])
  rw [e1, e2, PyData.eqv, PyData.eqvAll, eqv_str]
  simp [h, this]
theorem eqv_tr : ∀ (t u : Pt), PyData.eqv (trG t) (trG u) = decide (t = u) := by
  intro t
  induction t with
  | set ps =>
    intro u
    cases u with
    | set qs => simp only [trG, PyData.eqv, PyData.eqvAll]; rw [eqv_cs]; simp
    | _ => exact eqv_nm (by simp only [Pt.nm]; decide +kernel)
  | empty =>
    intro u
    cases u with
    | empty => simp [trG, PyData.eqv, PyData.eqvAll]
    | _ => exact eqv_nm (by simp only [Pt.nm]; decide +kernel)
  | anchor s =>
    intro u
    cases u with
    | anchor s => simp [trG, PyData.eqv, PyData.eqvAll, beq_dec]
    | _ => exact eqv_nm (by simp only [Pt.nm]; decide +kernel)
  | seq a b iha ihb =>
    intro u
    cases u with
    | seq c d => simp only [trG, PyData.eqv, PyData.eqvAll]; rw [iha, ihb]; simp
    | _ => exact eqv_nm (by simp only [Pt.nm]; decide +kernel)
  | alt a b iha ihb =>
    intro u
    cases u with
    | alt c d => simp only [trG, PyData.eqv, PyData.eqvAll]; rw [iha, ihb]; simp
    | _ => exact eqv_nm (by simp only [Pt.nm]; decide +kernel)
  | rep t lo hi g ih =>
    intro u
    cases u with
    | rep t' lo' hi' g' =>
      simp only [trG, PyData.eqv, PyData.eqvAll]
      rw [ih, eqv_on]
      by_cases h1 : lo = lo'
      · simp [h1, beq_dec]
      · have : ¬ ((lo : Int) = (lo' : Int)) := by omega
        simp [h1, this]
    | _ => exact eqv_nm (by simp only [Pt.nm]; decide +kernel)
  | grp n t ih =>
    intro u
    cases u with
    | grp n' t' =>
      simp only [trG, PyData.eqv, PyData.eqvAll]
      rw [ih]
      by_cases h1 : n = n'
      · simp [h1]
      · have : ¬ ((n : Int) = (n' : Int)) := by omega
        simp [h1, this]
    | _ => exact eqv_nm (by simp only [Pt.nm]; decide +kernel)
  | look a p t k ih =>
    intro u
    cases u with
    | look a' p' t' k' =>
      cases k with
      | none =>
        cases k' with
        | none => simp only [trG, PyData.eqv, PyData.eqvAll]; rw [ih]; simp [beq_dec]
        | some k' => simp [trG, PyData.eqvAll, PyData.eqv]
      | some k =>
        cases k' with
        | none => simp [trG, PyData.eqvAll, PyData.eqv]
        | some k' =>
          simp only [trG, PyData.eqv, PyData.eqvAll]
          rw [ih]
          by_cases h1 : k = k'
          · simp [h1, beq_dec]
          · have : ¬ ((k : Int) = (k' : Int)) := by omega
            simp [h1, this]
    | _ => exact eqv_nm (by simp only [Pt.nm]; decide +kernel)
/-- == of trees -/
theorem eq_tr {t u : Pt} {M : Md} {Q : Bool → Prop} (h1 : t.pl) (h2 : u.pl) (h3 : t.ht ≤ 60) (h4 : u.ht ≤ 60) : cpD .eq (ptD t) (ptD u) M Q = Q (decide (t = u)) := by
  rw [eq_py (pyo_tr h1) (pyo_tr h2) (by omega) (by omega), eqv_tr]
theorem eq_cs {c d : List (Int × Int)} {M : Md} {Q : Bool → Prop} : cpD .eq (csD c) (csD d) M Q = Q (decide (c = d)) := by
  rw [eq_py (pyo_cs (n := 0) c) (pyo_cs (n := 0) d) (by omega) (by omega), eqv_cs]
theorem any_dec {α : Type} [DecidableEq α] {g : α → PyData} (h : ∀ x y, PyData.eqv (g x) (g y) = decide (x = y)) (l : List α) (k : α) : ((l.map g).any fun z => PyData.eqv z (g k)) = decide (k ∈ l) := by
  induction l with
  | nil => rfl
  | cons x l ih =>
    rw [List.map_cons, List.any_cons, ih, h]
    by_cases h1 : x = k
    · subst h1; simp
    · have h3 : ¬ k = x := fun z => h1 z.symm
      simp [h1, h3]
/-- `in` over a tuple of nested tuples -/
theorem in_tupN {α : Type} [DecidableEq α] {f : α → D} {g : α → PyData} {n : Nat} {l : List α} {k : α} {us : List D} {M : Md} {QB : Bool → Prop} (ek : f k = .tup us) (hn : n ≤ 63) (hk : PyOk n (f k) (g k)) (hl : ∀ x ∈ l, PyOk n (f x) (g x))
    (he : ∀ x y, PyData.eqv (g x) (g y) = decide (x = y)) : cpD .inn (f k) (.tup (l.map f)) M QB = QB (decide (k ∈ l)) := by
  obtain ⟨h1, h2, h3⟩ := pyo_map hl
  have hk1 := hk.py
  show inD (f k) (.tup (l.map f)) M QB = _
  have e0 : SeqAt.shaped (g k) = true := by unfold SeqAt.shaped; rw [hk.lay, Bool.true_and]; exact decide_eq_true (by have := hk.dep; omega)
  have e1 : SeqAt.shaped (.list (l.map g)) = true := by
    unfold SeqAt.shaped
    rw [PyData.canLay0, h2, Bool.true_and, PyData.depth]
    exact decide_eq_true (by omega)
  rw [ek] at hk1 ⊢
  unfold inD
  show (if (false && _) = true then _ else _) = _
  rw [Bool.false_and, if_neg (by decide)]
  show (match pyD (.tup us), pyDs (l.map f) with
    | some px, some ps => SeqAt.shaped px = true ∧ SeqAt.shaped (.list ps) = true ∧ QB (ps.any fun z => PyData.eqv z px)
    | _, _ => False) = _
  rw [hk1, h1]
  dsimp only
  rw [e0, e1, any_dec he]
  exact propext ⟨fun z => z.2.2, fun z => ⟨rfl, rfl, z⟩⟩
theorem in_cs {l : List (List (Int × Int))} {c : List (Int × Int)} {M : Md} {QB : Bool → Prop} : cpD .inn (csD c) (.tup (l.map csD)) M QB = QB (decide (c ∈ l)) := by
  rw [in_tupN (f := csD) (g := csG) (n := 2) rfl (by omega) (pyo_cs c) (fun x _ => pyo_cs x) eqv_cs]
  congr

/-! the facts of a tree -/
structure Fa where
  sh : Nat
  lg : Option Nat
  be : List (Int × Int)
  ne : List (List (Int × Int))
  an : Bool
def faD (f : Fa) : D := .tup [.int f.sh, onD f.lg, csD f.be, .tup (f.ne.map csD), .bl f.an]
theorem faD_eq (f : Fa) : faD f = .tup [.int f.sh, onD f.lg, csD f.be, .tup (f.ne.map csD), .bl f.an] := rfl
open Classical in
/-- the union in its one form -/
noncomputable def uni (A B : List (Int × Int)) : List (Int × Int) := if h : ∃ L, Canon L ∧ ∀ x : Int, inP L x = true ↔ inP A x = true ∨ inP B x = true then h.choose else []
theorem uni_eq {A B L : List (Int × Int)} (h1 : Canon L) (h2 : ∀ x : Int, inP L x = true ↔ inP A x = true ∨ inP B x = true) : uni A B = L := by
  have h : ∃ L, Canon L ∧ ∀ x : Int, inP L x = true ↔ inP A x = true ∨ inP B x = true := ⟨L, h1, h2⟩
  unfold uni
  rw [dif_pos h]
  refine canon_eq h.choose_spec.1 h1 fun x => ?_
  rw [Bool.eq_iff_iff, h.choose_spec.2, h2]
def sumO : Option Nat → Option Nat → Option Nat
  | some a, some b => some (a + b)
  | _, _ => none
def maxO : Option Nat → Option Nat → Option Nat
  | some a, some b => some (max a b)
  | _, _ => none
def mulO : Option Nat → Option Nat → Option Nat
  | some 0, _ => some 0
  | some _, none => none
  | some k, some h => some (h * k)
  | none, _ => none
noncomputable def Fa.seq (a b : Fa) : Fa := ⟨a.sh + b.sh, sumO a.lg b.lg, if a.sh = 0 then uni a.be b.be else a.be, a.ne ++ b.ne, a.an || (decide (a.lg = some 0) && b.an)⟩
noncomputable def Fa.alt (a b : Fa) : Fa := ⟨min a.sh b.sh, maxO a.lg b.lg, uni a.be b.be, a.ne.filter fun c => decide (c ∈ b.ne), a.an && b.an⟩
def Fa.nil : Fa := ⟨0, some 0, [], [], false⟩
def Fa.rep (a : Fa) (lo : Nat) (hi : Option Nat) : Fa := if hi = some 0 then .nil else if lo = 0 then ⟨0, mulO a.lg hi, a.be, [], false⟩ else ⟨lo * a.sh, mulO a.lg hi, a.be, a.ne, a.an⟩
noncomputable def facts : Pt → Fa
  | .set ps => ⟨1, some 1, ps, [ps], false⟩
  | .seq a b => (facts a).seq (facts b)
  | .alt a b => (facts a).alt (facts b)
  | .rep t lo hi _ => (facts t).rep lo hi
  | .grp _ t => facts t
  | .anchor s => ⟨0, some 0, [], [], decide (s = "text_start")⟩
  | _ => .nil
/-- bounds of facts -/
structure Fa.Ok (n : Nat) (f : Fa) : Prop where
  be : setOk f.be
  len : f.ne.length ≤ 2 ^ n
  ne : ∀ c ∈ f.ne, setOk c
theorem Canon.le64 {L : List (Int × Int)} (h : Canon L) (hx : ∀ x, inP L x = true → 0 ≤ x ∧ x < 128) : setOk L := ⟨by have := canon_64 h hx; omega, h, hx⟩
theorem setOk.len {c : List (Int × Int)} (h : setOk c) : c.length ≤ 64 := canon_64 h.2.1 h.2.2
/-- a union of such sets -/
theorem setOk.uni {A B L : List (Int × Int)} (hA : setOk A) (hB : setOk B) (h1 : Canon L) (h2 : ∀ x : Int, inP L x = true ↔ inP A x = true ∨ inP B x = true) : setOk L :=
  Canon.le64 h1 fun x hx => by
    rcases (h2 x).mp hx with h | h
    · exact hA.2.2 x h
    · exact hB.2.2 x h

/-! def 561: repeat_facts; slots 0:tree 1:shortest 2:longest 3:begins 4:needs 5:anchored 6:least 7:most; calls [('facts_of', 556)]; consts [('NOTHING', 7)]; built-ins [] -/
abbrev c561_6 : CSs := .cons (.ret (.tup (.cons (.int 0) (.cons (.int 0) (.cons (.glob 7) (.cons (.tup .nil) (.cons (.bl false) .nil))))))) .nil
abbrev c561_7 : CSs := .cons (.set 2 (.ife (.cmp .isN (.var 7) .non) .non (.bin .mul (.var 7) (.var 2)))) .nil
abbrev c561_8 : CSs := .cons (.ret (.tup (.cons (.int 0) (.cons (.var 2) (.cons (.var 3) (.cons (.tup .nil) (.cons (.bl false) .nil))))))) .nil
abbrev c561_5 : CSs := .cons (.ret (.tup (.cons (.bin .mul (.var 6) (.var 1)) (.cons (.var 2) (.cons (.var 3) (.cons (.var 4) (.cons (.var 5) .nil))))))) .nil
abbrev c561_4 : CSs := .cons (.ifs (.cmp .eq (.var 6) (.int 0)) c561_8 .nil) c561_5
abbrev c561_3 : CSs := .cons (.ifs (.and (.cmp .notN (.var 2) .non) (.cmp .gt (.var 2) (.int 0))) c561_7 .nil) c561_4
abbrev c561_2 : CSs := .cons (.ifs (.cmp .eq (.var 7) (.int 0)) c561_6 .nil) c561_3
abbrev c561_1 : CSs := .cons (.setP [6, 7] (.cons (.idx (.var 0) (.int 2)) (.cons (.idx (.var 0) (.int 3)) .nil))) c561_2
abbrev c561 : CSs := .cons (.setT [1, 2, 3, 4, 5] (.call 556 (.cons (.idx (.var 0) (.int 1)) .nil))) c561_1
theorem Fa.Ok.up {n m : Nat} {f : Fa} (h : f.Ok n) (hm : n ≤ m) : f.Ok m := ⟨h.be, Nat.le_trans h.len (Nat.pow_le_pow_right (by omega) hm), h.ne⟩
theorem setOk_nil : setOk [] := setOk_of (by decide) (by simp [Canon]) (by simp)
theorem Fa.Ok.nil {n : Nat} : Fa.nil.Ok n := ⟨setOk_nil, Nat.zero_le _, fun _ h => by cases h⟩
theorem Fa.Ok.rep {n : Nat} {f : Fa} (h : f.Ok n) {lo : Nat} {hi : Option Nat} : (f.rep lo hi).Ok n := by
  unfold Fa.rep
  split
  · exact .nil
  · split
    · exact ⟨h.be, Nat.zero_le _, fun _ h => by cases h⟩
    · exact ⟨h.be, h.len, h.ne⟩
def sp556 (n : Nat) : SpD := fun ds M Q _ => ∃ t : Pt, ds = [ptD t] ∧ t.ht < n ∧ t.ht ≤ 12 ∧ t.pl ∧ t.sm ∧ ((facts t).Ok (t.ht + 1) → Q (faD (facts t)) M)
def sp561 (n : Nat) : SpD := fun ds M Q _ => ∃ (t : Pt) (lo : Nat) (hi : Option Nat) (g : Bool), ds = [ptD (.rep t lo hi g)] ∧ t.ht < n ∧ t.ht ≤ 12 ∧ t.pl ∧ (Pt.rep t lo hi g).sm ∧ (((facts t).rep lo hi).Ok (t.ht + 1) → Q (faD ((facts t).rep lo hi)) M)
theorem ln561 (n : Nat) : ∀ ds M Q E, sp561 n ds M Q E → ds.length = 1 := by
  rintro _ _ _ _ ⟨_, _, _, _, rfl, _⟩; rfl
theorem CMul_nat {x : Nat} {y : Int} (h : x < 2000) : CMul x y := .inl ⟨by omega, by omega⟩
theorem rd561 {Φ : Nat → SpD} {κ : Nat → D} {n : Nat} (h556 : Φ 556 = sp556 n) (hk7 : κ 7 = k7) : RdOk Φ κ c561 8 (sp561 n) := by
  rintro ds M Q E hM hd ⟨t, lo, hi, g, rfl, hh, hh2, hp, hs, hQ⟩
  have hd' : ptD (.rep t lo hi g) = .tup [.str "repeat", ptD t, .int lo, onD hi, .bl g] := rfl
  have hk7 : κ 7 = .tup [] := hk7
  rw [hd']
  walk_at "go"
  rw [h556]
  refine ⟨t, rfl, hh, hh2, hp, hs.1, fun hok => ?_⟩
  have hQ := hQ hok.rep
  rw [faD_eq]
  walk_at "go"
  have tail : ∀ l : Option Nat, hi ≠ some 0 → l = mulO (facts t).lg hi → nxt Φ κ c561_4 (fun x _ M => E x M) (endsD M.length Q) [some (.tup [.str "repeat", ptD t, .int lo, onD hi, .bl g]), some (.int (facts t).sh), some (onD l), some (csD (facts t).be), some (.tup ((facts t).ne.map csD)), some (.bl (facts t).an), some (.int lo), some (onD hi)] M := by
    intro l h0 hl
    walk_at "go"
    refine iteI (fun h => ?_) fun h => ?_
    · walk_at "go"
      refine .keep ?_
      have : (facts t).rep lo hi = ⟨0, l, (facts t).be, [], false⟩ := by unfold Fa.rep; rw [if_neg h0, if_pos (by omega), hl]
      rw [this] at hQ
      exact hQ
    · walk_at "go"
      refine ⟨CMul_nat (by have := hs.2.1; omega), ?_⟩
      walk_at "go"
      refine .keep ?_
      have : (facts t).rep lo hi = ⟨lo * (facts t).sh, l, (facts t).be, (facts t).ne, (facts t).an⟩ := by unfold Fa.rep; rw [if_neg h0, if_neg (by omega), hl]
      rw [this] at hQ
      rw [show (lo : Int) * ((facts t).sh : Int) = ((lo * (facts t).sh : Nat) : Int) by rw [Int.natCast_mul]]
      exact hQ
  have head : hi ≠ some 0 → nxt Φ κ c561_3 (fun x _ M => E x M) (endsD M.length Q) [some (.tup [.str "repeat", ptD t, .int lo, onD hi, .bl g]), some (.int (facts t).sh), some (onD (facts t).lg), some (csD (facts t).be), some (.tup ((facts t).ne.map csD)), some (.bl (facts t).an), some (.int lo), some (onD hi)] M := by
    intro h0
    cases hl : (facts t).lg with
    | none =>
      have := tail none h0 (by rw [hl]; rfl)
      rw [on_none] at this ⊢
      refine nxt_of ?_
      walk_at "rd2"
      exact this
    | some x =>
      have e0 := on_some (n := x)
      rw [e0]
      walk_at "go"
      refine iteI (fun h => ?_) fun h => ?_
      · cases x with
        | zero => omega
        | succ x =>
          cases hi with
          | none =>
            have := tail none h0 (by rw [hl]; rfl)
            rw [on_none] at this ⊢
            refine nxt_of ?_
            walk_at "rd2"
            exact this
          | some y =>
            have := tail (some (y * (x + 1))) h0 (by rw [hl]; rfl)
            rw [on_some] at this ⊢
            refine nxt_of ?_
            walk_at "rd2"
            refine ⟨CMul_nat (by have := hs.2.2 y rfl; omega), ?_⟩
            try walk_at "rd2"
            rw [show (y : Int) * ((x + 1 : Nat) : Int) = ((y * (x + 1) : Nat) : Int) by rw [Int.natCast_mul]]
            exact this
      · have hx : x = 0 := by omega
        subst hx
        exact tail (some 0) h0 (by rw [hl]; rfl)
  cases hi with
  | none =>
    have := head (by simp)
    rw [on_none] at this ⊢
    walk_at "rd2"
    exact this
  | some y =>
    have := head
    rw [on_some] at this ⊢
    walk_at "go"
    refine iteI (fun h => ?_) fun h => ?_
    · walk_at "go"
      rw [hk7]
      walk_at "go"
      refine .keep ?_
      have : (facts t).rep lo (some y) = .nil := by unfold Fa.rep; rw [if_pos (by congr; omega)]
      rw [this] at hQ
      exact hQ
    · exact this (by intro e; cases e; exact h rfl)

/-! def 8: union; slots 0:a 1:b; calls [('make_set', 0)]; consts []; built-ins ['list'] -/
def c8 : CSs := .cons (.ret (.call 0 (.cons (.bin .add (.blt .list (.cons (.var 0) .nil)) (.blt .list (.cons (.var 1) .nil))) .nil))) .nil
def sp8 : SpD := fun ds M Q _ => ∃ A B : List (Int × Int), ds = [.tup (A.map pr), .tup (B.map pr)] ∧ A.length + B.length ≤ sizeLine ∧ ∀ L, Canon L → (∀ x : Int, inP L x = true ↔ inP A x = true ∨ inP B x = true) → Q (.tup (L.map pr)) M
theorem ln8 : ∀ ds M Q E, sp8 ds M Q E → ds.length = 2 := by
  rintro _ _ _ _ ⟨_, _, rfl, _⟩; rfl
theorem rd8 {Φ : Nat → SpD} {κ : Nat → D} (h0 : Φ 0 = sp0) : RdOk Φ κ c8 2 sp8 := by
  rintro ds M Q E hM hd ⟨A, B, rfl, hsz, hQ⟩
  rw [c8]; walk_at "rd"
  refine ⟨by simpa using hsz, ?_⟩
  rw [h0]
  refine ⟨_, A ++ B, rfl, by rw [List.map_append]; rfl, by simpa using hsz, fun L hL hx hl => .keep (hQ L hL fun x => ?_)⟩
  rw [hx, inP_append]

/-! def 563: sum_of; slots 0:a 1:b; calls []; consts []; built-ins [] -/
abbrev c563_2 : CSs := .cons (.ret .non) .nil
abbrev c563_1 : CSs := .cons (.ret (.bin .add (.var 0) (.var 1))) .nil
abbrev c563 : CSs := .cons (.ifs (.or (.cmp .isN (.var 0) .non) (.cmp .isN (.var 1) .non)) c563_2 .nil) c563_1
def sp563 : SpD := fun ds M Q _ => ∃ a b : Option Nat, ds = [onD a, onD b] ∧ Q (onD (sumO a b)) M
theorem ln563 : ∀ ds M Q E, sp563 ds M Q E → ds.length = 2 := by
  rintro _ _ _ _ ⟨_, _, rfl, _⟩; rfl
theorem rd563 {Φ : Nat → SpD} {κ : Nat → D} : RdOk Φ κ c563 2 (sp563) := by
  rintro ds M Q E hM hd ⟨a, b, rfl, hQ⟩
  cases a with
  | none => rw [on_none]; walk_at "go"; exact .keep hQ
  | some x =>
    cases b with
    | none => rw [on_some, on_none]; walk_at "go"; exact .keep hQ
    | some y =>
      rw [on_some, on_some]; walk_at "go"
      refine .keep ?_
      rw [show (x : Int) + (y : Int) = ((x + y : Nat) : Int) by omega]
      exact hQ

/-! def 559: sequence_facts; slots 0:a 1:b 2:begins; calls [('union', 8), ('sum_of', 563)]; consts []; built-ins [] -/
abbrev c559_3 : CSs := .cons (.set 2 (.call 8 (.cons (.var 2) (.cons (.idx (.var 1) (.int 2)) .nil)))) .nil
abbrev c559_2 : CSs := .cons (.ret (.tup (.cons (.bin .add (.idx (.var 0) (.int 0)) (.idx (.var 1) (.int 0))) (.cons (.call 563 (.cons (.idx (.var 0) (.int 1)) (.cons (.idx (.var 1) (.int 1)) .nil))) (.cons (.var 2) (.cons (.bin .add (.idx (.var 0) (.int 3)) (.idx (.var 1) (.int 3))) (.cons (.or (.idx (.var 0) (.int 4)) (.and (.cmp .eq (.idx (.var 0) (.int 1)) (.int 0)) (.idx (.var 1) (.int 4)))) .nil))))))) .nil
abbrev c559_1 : CSs := .cons (.ifs (.cmp .eq (.idx (.var 0) (.int 0)) (.int 0)) c559_3 .nil) c559_2
abbrev c559 : CSs := .cons (.set 2 (.idx (.var 0) (.int 2))) c559_1
theorem Fa.Ok.seq {n m k : Nat} {a b : Fa} {L : List (Int × Int)} (ha : a.Ok n) (hb : b.Ok m) (hn : n < k) (hm : m < k) (h1 : Canon L) (h2 : ∀ x : Int, inP L x = true ↔ inP a.be x = true ∨ inP b.be x = true) : (a.seq b).Ok k := by
  refine ⟨?_, ?_, ?_⟩
  · show setOk (if a.sh = 0 then uni a.be b.be else a.be)
    split
    · rw [uni_eq h1 h2]; exact setOk.uni ha.be hb.be h1 h2
    · exact ha.be
  · show (a.ne ++ b.ne).length ≤ 2 ^ k
    have := ha.len; have := hb.len
    have e1 : 2 ^ n ≤ 2 ^ (k - 1) := Nat.pow_le_pow_right (by omega) (by omega)
    have e2 : 2 ^ m ≤ 2 ^ (k - 1) := Nat.pow_le_pow_right (by omega) (by omega)
    have e3 : 2 ^ k = 2 ^ (k - 1) * 2 := by rw [← Nat.pow_succ]; congr 1; omega
    rw [List.length_append]; omega
  · intro c hc
    rcases List.mem_append.mp hc with hc | hc
    · exact ha.ne c hc
    · exact hb.ne c hc
theorem Fa.Ok.seq' {n m k : Nat} {a b : Fa} (ha : a.Ok n) (hb : b.Ok m) (hn : n < k) (hm : m < k) (h0 : a.sh ≠ 0) : (a.seq b).Ok k := by
  have h := ha.be
  refine ⟨?_, ?_, ?_⟩
  · show setOk (if a.sh = 0 then uni a.be b.be else a.be)
    rw [if_neg h0]; exact ha.be
  · show (a.ne ++ b.ne).length ≤ 2 ^ k
    have := ha.len; have := hb.len
    have e1 : 2 ^ n ≤ 2 ^ (k - 1) := Nat.pow_le_pow_right (by omega) (by omega)
    have e2 : 2 ^ m ≤ 2 ^ (k - 1) := Nat.pow_le_pow_right (by omega) (by omega)
    have e3 : 2 ^ k = 2 ^ (k - 1) * 2 := by rw [← Nat.pow_succ]; congr 1; omega
    rw [List.length_append]; omega
  · intro c hc
    rcases List.mem_append.mp hc with hc | hc
    · exact ha.ne c hc
    · exact hb.ne c hc
def sp559 : SpD := fun ds M Q _ => ∃ (a b : Fa) (n m k : Nat), ds = [faD a, faD b] ∧ a.Ok n ∧ b.Ok m ∧ n < k ∧ m < k ∧ k ≤ 20 ∧ ((a.seq b).Ok k → Q (faD (a.seq b)) M)
theorem ln559 : ∀ ds M Q E, sp559 ds M Q E → ds.length = 2 := by
  rintro _ _ _ _ ⟨_, _, _, _, _, rfl, _⟩; rfl
theorem rd559 {Φ : Nat → SpD} {κ : Nat → D} (h8 : Φ 8 = sp8) (h563 : Φ 563 = sp563) : RdOk Φ κ c559 3 (sp559) := by
  rintro ds M Q E hM hd ⟨a, b, n, m, k, rfl, ha, hb, hn, hm, hk, hQ⟩
  have hsz : a.ne.length + b.ne.length ≤ sizeLine := by
    have := ha.len; have := hb.len
    have e1 : 2 ^ n ≤ 2 ^ 20 := Nat.pow_le_pow_right (by omega) (by omega)
    have e2 : 2 ^ m ≤ 2 ^ 20 := Nat.pow_le_pow_right (by omega) (by omega)
    rw [size_eq]; omega
  have rest : ∀ L : List (Int × Int), (a.seq b).Ok k → (a.seq b).be = L → nxt Φ κ c559_2 (fun x _ M => E x M) (endsD M.length Q) [some (faD a), some (faD b), some (csD L)] M := by
    intro L hok hL
    have hQ := hQ hok
    rw [faD_eq a, faD_eq b]
    walk_at "go"
    rw [h563]
    refine ⟨a.lg, b.lg, rfl, ?_⟩
    walk_at "go"
    refine ⟨by rw [List.length_map, List.length_map]; exact hsz, ?_⟩
    have fin : ∀ z : Bool, z = (a.seq b).an → Fin M.length Q (.tup [.int ((a.sh : Int) + (b.sh : Int)), onD (sumO a.lg b.lg), csD L, .tup (a.ne.map csD ++ b.ne.map csD), .bl z]) M := by
      intro z hz
      refine .keep ?_
      rw [show (a.sh : Int) + (b.sh : Int) = (((a.seq b).sh : Nat) : Int) from rfl, ← List.map_append, ← hL, hz]
      exact hQ
    cases h1 : a.an with
    | true =>
      walk_at "go"
      exact fin _ (by simp [Fa.seq, h1])
    | false =>
      walk_at "go"
      cases h2 : a.lg with
      | none =>
        rw [on_none]
        walk_at "go"
        have := fin false (by simp [Fa.seq, h1, h2])
        rw [h2] at this
        exact this
      | some x =>
        rw [on_some]
        walk_at "go"
        refine iteI (fun hx => ?_) fun hx => ?_
        · have := fin b.an (by have : x = 0 := by omega
                               subst this; simp [Fa.seq, h1, h2])
          rw [h2] at this
          exact this
        · have := fin false (by have : x ≠ 0 := by omega
                                simp [Fa.seq, h1, h2, this])
          rw [h2] at this
          rw [decide_eq_false hx]
          exact this
  rw [faD_eq a, faD_eq b]
  walk_at "go"
  refine iteI (fun h => ?_) fun h => ?_
  · have h0 : a.sh = 0 := by omega
    walk_at "go"
    rw [h8]
    refine ⟨a.be, b.be, rfl, by have := ha.be.1; have := hb.be.1; rw [size_eq]; omega, fun L h1 h2 => ?_⟩
    walk_at "rd2"
    exact rest L (ha.seq hb hn hm h1 h2) (by show (if a.sh = 0 then uni a.be b.be else a.be) = L; rw [if_pos h0, uni_eq h1 h2])
  · have h0 : a.sh ≠ 0 := by omega
    exact rest a.be (ha.seq' hb hn hm h0) (by show (if a.sh = 0 then uni a.be b.be else a.be) = _; rw [if_neg h0])

/-! one step of threads -/
abbrev Th := Int × Option Nat × Option Rgs
def thD (t : Th) : D := .tup [.int t.1, onD t.2.1, rgD t.2.2]
theorem thD_eq (t : Th) : thD t = .tup [.int t.1, onD t.2.1, rgD t.2.2] := rfl
theorem nr_th (t : Th) : noRef (thD t) = true := by
  show noRefs [.int t.1, onD t.2.1, rgD t.2.2] = true
  have : noRef (onD t.2.1) = true := by cases t.2.1 <;> rfl
  simp only [noRefs, this, nr_rg, Bool.and_self, noRef]
theorem nr_ths (l : List Th) : noRefs (l.map thD) = true := noRefs_map fun t _ => nr_th t
def takesB (t : Co) (code : Option Int) (n : Nat) : Bool := match (collT t [])[n]?, code with
  | some p, some c => inP p.2.1 c
  | _, _ => false
/-- through the moves of one thread -/
def stM (t : Co) (code : Option Int) (st : Int) : List Mv → List Nat → List Th → List Nat × List Th × Option (Option Rgs)
  | [], ns, out => (ns, out, none)
  | (none, r) :: _, ns, out => (ns, out, some r)
  | (some n, r) :: ms, ns, out => if n ∉ ns ∧ takesB t code n = true then stM t code st ms (ns ++ [n]) (out ++ [(st, some n, r)]) else stM t code st ms ns out
theorem stM_some {t : Co} {code : Option Int} {st : Int} {n : Nat} {r : Option Rgs} {ms : List Mv} {ns : List Nat} {out : List Th} : stM t code st ((some n, r) :: ms) ns out = if n ∉ ns ∧ takesB t code n = true then stM t code st ms (ns ++ [n]) (out ++ [(st, some n, r)]) else stM t code st ms ns out := rfl
theorem add_l {c : D} {a b : List D} {M : Md} {Q : QE} (h : lstOf c M = some a) : opD .add c (.lst b) M Q = (a.length + b.length ≤ sizeLine ∧ Q (.lst (a ++ b)) M) := by
  cases c with
  | lst ds => cases h; rfl
  | ref k => rw [lstOf_R] at h; rw [addR, h]; rfl
  | _ => cases h
theorem list_l {c : D} {a : List D} {M : Md} {Q : QE} (h : lstOf c M = some a) : btD .list [c] M Q = Q (.lst a) M := by
  cases c with
  | lst ds => cases h; rfl
  | ref k => rw [lstOf_R] at h; rw [list_R, h]; rfl
  | _ => cases h
def stT (s : Sp) (t : Co) (code : Option Int) : List Th → List Nat → List Th → Option (List Th × Option (Int × Int × Option Rgs))
  | [], _, out => some (out, none)
  | th :: ths, ns, out => match mvs s t th.2.1 th.2.2 with
    | none => none
    | some x => match stM t code th.1 x ns out with
      | (_, o, some r) => some (o, some (th.1, s.pos, r))
      | (ns', o, none) => stT s t code ths ns' o
def endD (c : D) : Option (Int × Int × Option Rgs) → D
  | none => c
  | some p => .tup [.int p.1, .int p.2.1, rgD p.2.2]
def idct (l : List Nat) : List (Option Key × D) := ndct (l.map some)
theorem idct_eq (l : List Nat) : idct l = ndct (l.map some) := rfl
theorem idct_val {l : List Nat} {n : Nat} : (dctVal (idct l) (some (.inl (n : Int)))).isSome = decide (n ∈ l) := by
  have := ndct_val (l := l.map some) (n := some n)
  rw [show okey (some n) = some (.inl (n : Int)) from rfl] at this
  rw [idct, this]; simp
theorem idct_put {l : List Nat} {n : Nat} (h : n ∉ l) : dctPut (idct l) (some (.inl (n : Int))) (.bl true) = idct (l ++ [n]) := by
  have := ndct_put (l := l.map some) (n := some n) (by simpa using h)
  rw [show okey (some n) = some (.inl (n : Int)) from rfl] at this
  rw [idct, this, idct, List.map_append]; rfl
theorem idct_len {l : List Nat} : (idct l).length = l.length := by rw [idct, ndct_len, List.length_map]
theorem nodup_len : ∀ {N : Nat} {l : List Nat}, l.Nodup → (∀ x ∈ l, x < N) → l.length ≤ N
  | 0, l, _, h => by
    cases l with
    | nil => exact Nat.le_refl _
    | cons x _ => exact absurd (h x List.mem_cons_self) (by omega)
  | N + 1, l, hd, h => by
    have h1 := nodup_len (N := N) (l := l.erase N) (hd.erase N) fun x hx => by
      have := (hd.mem_erase_iff).mp hx
      have := h x this.2
      have : x ≠ N := by rename_i a; exact a.1
      omega
    by_cases hm : N ∈ l
    · rw [List.length_erase_of_mem hm] at h1; omega
    · rw [List.erase_of_not_mem hm] at h1; omega
theorem nodup_snoc {l : List Nat} {n : Nat} (h : l.Nodup) (hn : n ∉ l) : (l ++ [n]).Nodup := by
  rw [List.nodup_append]
  exact ⟨h, by simp, fun a ha b hb => by rw [List.mem_singleton.mp hb]; exact fun e => hn (e ▸ ha)⟩
/-- what stands between two moves -/
def stOk (L : Nat) (ns : List Nat) (out : List Th) : Prop := ns.Nodup ∧ (∀ n ∈ ns, n < L) ∧ out.length = ns.length
theorem stOk_len {L : Nat} {ns : List Nat} {out : List Th} (h : stOk L ns out) : ns.length ≤ L ∧ out.length ≤ L := by
  have := nodup_len h.1 h.2.1
  exact ⟨this, by rw [h.2.2]; exact this⟩
theorem stOk_put {L : Nat} {ns : List Nat} {out : List Th} {n : Nat} {th : Th} (h : stOk L ns out) (hn : n ∉ ns) (hl : n < L) : stOk L (ns ++ [n]) (out ++ [th]) :=
  ⟨nodup_snoc h.1 hn, fun x hx => by
    rcases List.mem_append.mp hx with hx | hx
    · exact h.2.1 x hx
    · rw [List.mem_singleton.mp hx]; exact hl, by rw [List.length_append, List.length_append, h.2.2]; rfl⟩
theorem stOk_nil {L : Nat} : stOk L [] [] := ⟨.nil, (fun _ h => by cases h), rfl⟩
def thsFit (g l : Nat) (ths : List Th) : Prop := ∀ th ∈ ths, rgFit g l th.2.2

/-! def 9: common; slots 0:a 1:b 2:ranges 3:low 4:high 5:start 6:stop; calls [('make_set', 0)]; consts []; built-ins ['max', 'min'] -/
def c9_5 : CSs := .cons (.expr (.mth .append (.var 2) (.cons (.tup (.cons (.blt .max2 (.cons (.var 3) (.cons (.var 5) .nil))) (.cons (.blt .min2 (.cons (.var 4) (.cons (.var 6) .nil))) .nil))) .nil))) .nil
def c9_4 : CSs := .cons (.ifs (.cmp .lt (.blt .max2 (.cons (.var 3) (.cons (.var 5) .nil))) (.blt .min2 (.cons (.var 4) (.cons (.var 6) .nil)))) c9_5 .nil) .nil
def c9_3 : CSs := .cons (.fors (.tp [5, 6]) (.seq (.var 1)) c9_4) .nil
def c9_2 : CSs := .cons (.ret (.call 0 (.cons (.var 2) .nil))) .nil
def c9_1 : CSs := .cons (.fors (.tp [3, 4]) (.seq (.var 0)) c9_3) c9_2
def c9 : CSs := .cons (.set 2 (.lst true .nil)) c9_1
def sp9 : SpD := fun ds M Q _ => ∃ A B : List (Int × Int), ds = [.tup (A.map pr), .tup (B.map pr)] ∧ A.length * B.length ≤ sizeLine ∧ ∀ L, Canon L → (∀ x : Int, inP L x = true ↔ inP A x = true ∧ inP B x = true) → Q (.tup (L.map pr)) M
theorem ln9 : ∀ ds M Q E, sp9 ds M Q E → ds.length = 2 := by
  rintro _ _ _ _ ⟨_, _, rfl, _⟩; rfl
theorem rd9 {Φ : Nat → SpD} {κ : Nat → D} (h0 : Φ 0 = sp0) : RdOk Φ κ c9 7 sp9 := by
  rintro ds M Q E hM hd ⟨A, B, rfl, hsz, hQ⟩
  rw [c9]; walk_at "rd"
  rw [nxt_eq, c9_1]; walk_at "rd"
  refine loop_list (fun rem σ M' => ∃ acc qs x3 x4 x5 x6, σ = [some (.tup (A.map pr)), some (.tup (B.map pr)), some (.ref M.length), x3, x4, x5, x6] ∧ M' = M ++ [.lst (acc.map pr)] ∧ rem = qs.map pr ∧ acc.length + qs.length * B.length ≤ A.length * B.length ∧ ∀ x, (inP acc x = true ∨ (inP qs x = true ∧ inP B x = true)) ↔ inP A x = true ∧ inP B x = true) ?_ ?_ ?_ _ _ _ ⟨[], A, _, _, _, _, rfl, rfl, rfl, by simp, fun x => by rw [inP_nil]; simp⟩
  · intro _ _ _ _; trivial
  · rintro d rem σ M' nx ⟨acc, qs, x3, x4, x5, x6, rfl, rfl, he, hl, hi⟩ hn
    obtain ⟨q, qs, rfl, rfl, rfl⟩ : ∃ q qs', qs = q :: qs' ∧ d = pr q ∧ rem = qs'.map pr := by
      cases qs with
      | nil => cases he
      | cons q qs => cases he; exact ⟨q, qs, rfl, rfl, rfl⟩
    rw [pr_eq]; walk_at "rd"
    rw [c9_3]; walk_at "rd"
    rw [List.length_cons, Nat.add_mul, Nat.one_mul] at hl
    refine loop_list (fun rem σ M' => ∃ acc rs x5 x6, σ = [some (.tup (A.map pr)), some (.tup (B.map pr)), some (.ref M.length), some (.int q.1), some (.int q.2), x5, x6] ∧ M' = M ++ [.lst (acc.map pr)] ∧ rem = rs.map pr ∧ acc.length + (rs.length + qs.length * B.length) ≤ A.length * B.length ∧
      ∀ x, (inP acc x = true ∨ ((q.1 ≤ x ∧ x < q.2) ∧ inP rs x = true) ∨ (inP qs x = true ∧ inP B x = true)) ↔ inP A x = true ∧ inP B x = true) ?_ ?_ ?_ _ _ _ ⟨acc, B, _, _, rfl, rfl, rfl, by omega, fun x => ?_⟩
    · intro _ _ _ _; trivial
    · rintro d rem σ M' nx ⟨acc, rs, x5, x6, rfl, rfl, he, hl, hi⟩ hn
      obtain ⟨r, rs, rfl, rfl, rfl⟩ : ∃ r rs', rs = r :: rs' ∧ d = pr r ∧ rem = rs'.map pr := by
        cases rs with
        | nil => cases he
        | cons r rs => cases he; exact ⟨r, rs, rfl, rfl, rfl⟩
      rw [List.length_cons] at hl
      rw [pr_eq r]; walk_at "rd"
      rw [c9_4]; walk_at "rd"
      have mx : ∀ y : Int, (if r.1 > q.1 then r.1 else q.1) ≤ y ↔ r.1 ≤ y ∧ q.1 ≤ y := fun y => by split <;> omega
      have mn : ∀ y : Int, (y < if r.2 < q.2 then r.2 else q.2) ↔ y < r.2 ∧ y < q.2 := fun y => by split <;> omega
      by_cases hc : (if r.1 > q.1 then r.1 else q.1) < (if r.2 < q.2 then r.2 else q.2)
      · rw [if_pos hc, c9_5]; walk_at "rd"
        refine ⟨by rw [List.length_map]; omega, hn _ _ ⟨acc ++ [((if r.1 > q.1 then r.1 else q.1), (if r.2 < q.2 then r.2 else q.2))], rs, _, _, rfl, by rw [List.map_append]; rfl, rfl, by simp; omega, fun x => ?_⟩⟩
        rw [← hi x, inP_append, inP_one, inP_cons]
        simp only [mx, mn]
        constructor
        · rintro ((z | z) | z | z)
          · exact .inl z
          · exact .inr (.inl ⟨by omega, .inl (by omega)⟩)
          · exact .inr (.inl ⟨z.1, .inr z.2⟩)
          · exact .inr (.inr z)
        · rintro (z | ⟨z1, z2 | z2⟩ | z)
          · exact .inl (.inl z)
          · exact .inl (.inr (by omega))
          · exact .inr (.inl ⟨z1, z2⟩)
          · exact .inr (.inr z)
      · rw [if_neg hc]
        refine hn _ _ ⟨acc, rs, _, _, rfl, rfl, rfl, by omega, fun x => ?_⟩
        rw [← hi x, inP_cons]
        constructor
        · rintro (z | z | z)
          · exact .inl z
          · exact .inr (.inl ⟨z.1, .inr z.2⟩)
          · exact .inr (.inr z)
        · rintro (z | ⟨z1, z2 | z2⟩ | z)
          · exact .inl z
          · exfalso
            apply hc
            rw [mn]
            have a1 := (mx x).mpr ⟨z2.1, z1.1⟩
            omega
          · exact .inr (.inl ⟨z1, z2⟩)
          · exact .inr (.inr z)
    · rintro σ M' ⟨acc, rs, x5, x6, rfl, rfl, he, hl, hi⟩
      cases rs with
      | cons _ _ => cases he
      | nil =>
        refine hn _ _ ⟨acc, qs, _, _, _, _, rfl, rfl, rfl, by simpa using hl, fun x => ?_⟩
        rw [← hi x, inP_nil]; simp
    · rw [← hi x, inP_cons]
      constructor
      · rintro (z | z | z)
        · exact .inl z
        · exact .inr ⟨.inl z.1, z.2⟩
        · exact .inr ⟨.inr z.1, z.2⟩
      · rintro (z | ⟨z1 | z1, z2⟩)
        · exact .inl z
        · exact .inr (.inl ⟨z1, z2⟩)
        · exact .inr (.inr ⟨z1, z2⟩)
  · rintro σ M' ⟨acc, qs, x3, x4, x5, x6, rfl, rfl, he, hl, hi⟩
    cases qs with
    | cons _ _ => cases he
    | nil =>
      dsimp only; rw [nxt_eq, c9_2]; walk_at "rd"
      rw [h0]
      refine ⟨_, acc, rfl, by rw [lstOf_R, at_new0]; rfl, by simp at hl; omega, fun L hL hx hl => Fin.tail rfl (noRefs_lt (noRefs_pr L)) hM (hQ L hL fun x => ?_)⟩
      rw [hx, ← hi x, inP_nil]; simp

/-! def 298: fillable; slots 0:core_tree 1:kind; calls [('possible', 297), ('fillable', 298)]; consts []; built-ins [] -/
abbrev c298_6 : CSs := .cons (.ret (.call 297 (.cons (.var 0) .nil))) .nil
abbrev c298_9 : CSs := .cons (.ret (.bl false)) .nil
abbrev c298_8 : CSs := .cons (.ret (.or (.call 298 (.cons (.idx (.var 0) (.int 1)) .nil)) (.call 298 (.cons (.idx (.var 0) (.int 2)) .nil)))) .nil
abbrev c298_7 : CSs := .cons (.ifs (.not (.call 297 (.cons (.var 0) .nil))) c298_9 .nil) c298_8
abbrev c298_10 : CSs := .cons (.ret (.or (.call 298 (.cons (.idx (.var 0) (.int 1)) .nil)) (.call 298 (.cons (.idx (.var 0) (.int 2)) .nil)))) .nil
abbrev c298_11 : CSs := .cons (.ret (.call 298 (.cons (.idx (.var 0) (.int 1)) .nil))) .nil
abbrev c298_5 : CSs := .cons (.ret (.bl false)) .nil
abbrev c298_4 : CSs := .cons (.ifs (.or (.cmp .eq (.var 1) (.str "nonempty")) (.cmp .eq (.var 1) (.str "star"))) c298_11 .nil) c298_5
abbrev c298_3 : CSs := .cons (.ifs (.cmp .eq (.var 1) (.str "choice")) c298_10 .nil) c298_4
abbrev c298_2 : CSs := .cons (.ifs (.cmp .eq (.var 1) (.str "sequence")) c298_7 .nil) c298_3
abbrev c298_1 : CSs := .cons (.ifs (.cmp .eq (.var 1) (.str "set")) c298_6 .nil) c298_2
abbrev c298 : CSs := .cons (.set 1 (.idx (.var 0) (.int 0))) c298_1
/-- the codes of texts -/
def isTx (c : Nat) : Bool := decide (c = 9) || (decide (c = 10) || (decide (31 < c) && (decide (c < 127) && !decide (c = 37))))
theorem isTx_iff {c : Nat} : isTx c = true ↔ c = 9 ∨ c = 10 ∨ (31 < c ∧ c < 127 ∧ c ≠ 37) := by
  unfold isTx
  simp
def txL : List Nat := (List.range 128).filter isTx
/-- some code of texts is in it -/
def txIn (ps : List (Int × Int)) : Bool := txL.any fun c => inP ps c
mutual
def Co.poss : Co → Bool
  | .set _ ps => txIn ps
  | .seq a b => a.poss && b.poss
  | .alt a b => a.poss || b.poss
  | .ne a => a.fill
  | _ => true
def Co.fill : Co → Bool
  | .set _ ps => txIn ps
  | .seq a b => (a.poss && b.poss) && (a.fill || b.fill)
  | .alt a b => a.fill || b.fill
  | .ne a => a.fill
  | .star a _ => a.fill
  | _ => false
end
/-- sets of a hundred ranges at most -/
def Co.pl : Co → Prop
  | .set _ ps => ps.length ≤ 100
  | .seq a b => a.pl ∧ b.pl
  | .alt a b => a.pl ∧ b.pl
  | .ne a => a.pl
  | .star a _ => a.pl
  | .anc s => ancOk s
  | _ => True
def sp297 (n : Nat) : SpD := fun ds M Q _ => ∃ t : Co, ds = [coD t] ∧ 2 * t.ht + 1 ≤ n ∧ t.pl ∧ Q (.bl t.poss) M
def sp298 (n : Nat) : SpD := fun ds M Q _ => ∃ t : Co, ds = [coD t] ∧ 2 * t.ht + 2 ≤ n ∧ t.pl ∧ Q (.bl t.fill) M
theorem ln298 (n : Nat) : ∀ ds M Q E, sp298 n ds M Q E → ds.length = 1 := by
  rintro _ _ _ _ ⟨_, rfl, _⟩; rfl
theorem z298 : ∀ ds M Q E, sp298 0 ds M Q E → False := by
  rintro _ _ _ _ ⟨_, _, h, _⟩; omega
theorem rd298 {Φ : Nat → SpD} {κ : Nat → D} {n : Nat} (h297 : Φ 297 = sp297 n) (h298 : Φ 298 = sp298 n) : RdOk Φ κ c298 2 (sp298 (n + 1)) := by
  rintro ds M Q E hM hd ⟨t, rfl, hh, hp, hQ⟩
  cases t with
  | set m ps =>
    simp only [coD]; walk_at "go"
    rw [h297]
    refine ⟨.set m ps, rfl, by show 2 * 0 + 1 ≤ n; have hh : 2 * 0 + 2 ≤ n + 1 := hh; omega, hp, ?_⟩
    walk_at "go"
    exact .keep hQ
  | opn g => simp only [coD]; walk_at "go"; exact .keep hQ
  | cls g => simp only [coD]; walk_at "go"; exact .keep hQ
  | fgt gs ms => simp only [coD]; walk_at "go"; exact .keep hQ
  | bit m b => simp only [coD]; walk_at "go"; exact .keep hQ
  | anc s => simp only [coD]; walk_at "go"; exact .keep hQ
  | emp => simp only [coD]; walk_at "go"; exact .keep hQ
  | seq a b =>
    have hh : 2 * (max a.ht b.ht + 1) + 2 ≤ n + 1 := hh
    have hQ : Q (.bl ((Co.seq a b).poss && (a.fill || b.fill))) M := hQ
    simp only [coD]; walk_at "go"
    rw [h297]
    refine ⟨.seq a b, rfl, by show 2 * (max a.ht b.ht + 1) + 1 ≤ n; omega, hp, ?_⟩
    cases e : (Co.seq a b).poss with
    | false =>
      rw [e] at hQ
      walk_at "go"
      exact .keep hQ
    | true =>
      rw [e] at hQ
      walk_at "go"
      rw [h298]
      refine ⟨a, rfl, by omega, hp.1, ?_⟩
      cases e1 : a.fill with
      | true => rw [e1] at hQ; walk_at "go"; exact .keep hQ
      | false =>
        rw [e1] at hQ
        walk_at "go"
        try rw [h298]
        refine ⟨b, rfl, by omega, hp.2, ?_⟩
        walk_at "go"
        exact .keep hQ
  | alt a b =>
    have hh : 2 * (max a.ht b.ht + 1) + 2 ≤ n + 1 := hh
    have hQ : Q (.bl (a.fill || b.fill)) M := hQ
    simp only [coD]; walk_at "go"
    rw [h298]
    refine ⟨a, rfl, by omega, hp.1, ?_⟩
    cases e1 : a.fill with
    | true => rw [e1] at hQ; walk_at "go"; exact .keep hQ
    | false =>
      rw [e1] at hQ
      walk_at "go"
      try rw [h298]
      refine ⟨b, rfl, by omega, hp.2, ?_⟩
      walk_at "go"
      exact .keep hQ
  | ne a =>
    have hh : 2 * (a.ht + 1) + 2 ≤ n + 1 := hh
    simp only [coD]; walk_at "go"
    rw [h298]
    refine ⟨a, rfl, by omega, hp, ?_⟩
    walk_at "go"
    exact .keep hQ
  | star a g =>
    have hh : 2 * (a.ht + 1) + 2 ≤ n + 1 := hh
    simp only [coD]; walk_at "go"
    rw [h298]
    refine ⟨a, rfl, by omega, hp, ?_⟩
    walk_at "go"
    exact .keep hQ

/-! def 51: _law_in; slots 0:_law_codes_here 1:_law_code 2:_law_pair; calls []; consts []; built-ins [] -/
def c51_3 : CSs := .cons (.ret (.bl true)) .nil
def c51_2 : CSs := .cons (.ifs (.and (.cmp .le (.idx (.var 2) (.int 0)) (.var 1)) (.cmp .lt (.var 1) (.idx (.var 2) (.int 1)))) c51_3 .nil) .nil
def c51_1 : CSs := .cons (.ret (.bl false)) .nil
def c51 : CSs := .cons (.fors (.nm 2) (.seq (.var 0)) c51_2) c51_1
def sp51 : SpD := fun ds M Q _ => ∃ (c : D) (x : Int) (ps : List (Int × Int)), ds = [c, .int x] ∧ seqOf c M = some (ps.map pr) ∧ Q (.bl (inP ps x)) M
theorem ln51 : ∀ ds M Q E, sp51 ds M Q E → ds.length = 2 := by
  rintro _ _ _ _ ⟨_, _, _, rfl, _⟩; rfl
theorem rd51 {Φ : Nat → SpD} {κ : Nat → D} : RdOk Φ κ c51 3 sp51 := by
  rintro ds M Q E hM hd ⟨c, x, ps, rfl, hc, hQ⟩
  rw [c51]; walk_at "rd"
  rw [walkS hc]
  refine loop_list (fun rem σ M' => M' = M ∧ ∃ y qs, σ = [some c, some (.int x), y] ∧ rem = qs.map pr ∧ inP ps x = inP qs x) ?_ ?_ ?_ _ _ _ ⟨rfl, _, ps, rfl, rfl, rfl⟩
  · rintro _ _ _ ⟨rfl, _⟩; exact lkS hc
  · rintro d rem σ M' nx ⟨rfl, y, qs, rfl, he, hi⟩ hn
    obtain ⟨q, qs, rfl, rfl, rfl⟩ : ∃ q qs', qs = q :: qs' ∧ d = pr q ∧ rem = qs'.map pr := by
      cases qs with
      | nil => cases he
      | cons q qs => cases he; exact ⟨q, qs, rfl, rfl, rfl⟩
    walk_at "rd"
    rw [c51_2]; walk_at "rd"; rw [pr_eq]; walk_at "rd"
    have no : ¬ (q.1 ≤ x ∧ x < q.2) → inP ps x = inP qs x := fun h => by
      rw [hi, Bool.eq_iff_iff, inP_cons]
      exact ⟨fun z => z.resolve_left h, .inr⟩
    split
    · split
      · rw [c51_3]; walk_at "rd"
        rw [hi, inP_cons.mpr (.inl ⟨by assumption, by assumption⟩)] at hQ
        exact .keep hQ
      · exact hn _ _ ⟨rfl, _, qs, rfl, rfl, no (by omega)⟩
    · exact hn _ _ ⟨rfl, _, qs, rfl, rfl, no (by omega)⟩
  · rintro σ M' ⟨rfl, y, qs, rfl, he, hi⟩
    dsimp only; rw [nxt_eq, c51_1]; walk_at "rd"
    cases qs with
    | nil => rw [hi, inP_nil] at hQ; exact .keep hQ
    | cons q qs => cases he

/-! the codes of texts, reckoned by laws -/
theorem fm_int (p : Nat → Bool) : ∀ l : List Nat, (l.map fun i : Nat => D.int i).filterMap (fun d => match d with
    | .int i => if p i.toNat = true then some d else none
    | _ => none) = (l.filter p).map fun i : Nat => D.int i
  | [] => rfl
  | c :: l => by
    rw [List.map_cons, List.filterMap_cons, List.filter_cons]
    dsimp only
    rw [show ((c : Int)).toNat = c from rfl]
    cases p c with
    | true => rw [if_pos rfl, if_pos rfl, List.map_cons, fm_int p l]
    | false => rw [if_neg Bool.false_ne_true, if_neg Bool.false_ne_true, fm_int p l]
theorem known_rd {Φ : Nat → SpD} {κ : Nat → D} {E : EX} {x0 x1 x2 : Option D} {M : Md} {Q : QE} (q : Q (.lst (txL.map fun i : Nat => D.int i)) M) :
    rE Φ κ (.comp false (.var 2) (.nm 2) (.rng1 (.int 128)) (.some (.or (.cmp .eq (.var 2) (.int 9)) (.or (.cmp .eq (.var 2) (.int 10)) (.and (.cmp .lt (.int 31) (.var 2)) (.and (.cmp .lt (.var 2) (.int 127)) (.cmp .ne (.var 2) (.int 37))))))) [2]) E [x0, x1, x2] M Q := by
  walk_at "rd2"
  refine comp_pure (fun d => match d with
    | .int i => if isTx i.toNat = true then some d else none
    | _ => none) trivial (by rw [size_eq]; decide) ?_ ?_
  · intro d hd yes no h
    obtain ⟨i, hi, rfl⟩ := List.mem_map.mp hd
    have hi := List.mem_range.mp hi
    dsimp only at h ⊢
    have e : ((0 : Int) + (i : Nat)).toNat = i := by omega
    rw [e] at h
    have hy : isTx i = true → yes (.int (0 + (i : Nat))) M := fun e => by rw [if_pos e] at h; exact h
    have hn : ¬ isTx i = true → no M := fun e => by rw [if_neg e] at h; exact h
    walk_at "rd2"
    rw [isTx_iff] at hy hn
    repeat' (refine iteI (fun _ => ?_) fun _ => ?_)
    all_goals (try simp only [decide_eq_false_iff_not, Bool.not_eq_true, Bool.not_eq_false, decide_eq_true_eq] at *)
    all_goals first | exact hy (by omega) | exact hn (by omega)
  · have := rngD_eq 128
    have e : rngD 0 128 = (List.range 128).map fun i : Nat => D.int i := this
    rw [e, fm_int]
    exact q
/-- any of them is in a set -/
theorem any_rd {Φ : Nat → SpD} {κ : Nat → D} {E : EX} {x2 : Option D} {d : D} {M : Md} {Q : QE} {k : Int} {ps : List (Int × Int)} (h51 : Φ 51 = sp51) (hx : ∀ {M : Md} {Q : QE}, ixD d (.int k) M Q = Q (.tup (ps.map pr)) M) (q : Q (.bl (txIn ps)) M) :
    rE Φ κ (.blt .any (.cons (.comp false (.call 51 (.cons (.idx (.var 0) (.int k)) (.cons (.var 2) .nil))) (.nm 2) (.seq (.var 1)) .none [2]) .nil)) E [some d, some (.lst (txL.map fun i : Nat => D.int i)), x2] M Q := by
  walk_at "rd2"
  refine comp_map (fun i : Nat => D.int i) (fun i : Nat => D.bl (inP ps i)) trivial (by rw [size_eq]; decide) ?_ ?_
  · intro i hi yes no h
    walk_at "rd2"
    rw [hx]
    try walk_at "rd2"
    rw [h51]
    exact ⟨_, _, ps, rfl, rfl, h⟩
  try walk_at "rd2"
  rw [show (txL.map fun i : Nat => D.bl (inP ps i)) = txL.map fun i : Nat => D.bl ((fun i : Nat => inP ps i) i) from rfl, blsOf_map]
  try walk_at "rd2"
  rw [List.any_map]
  exact q

/-! def 293: _law_shortest; slots 0:_law_tree_here 1:_law_known 2:_law_code; calls [('_law_in', 51), ('_law_shortest', 293)]; consts []; built-ins ['range', 'any', 'min'] -/
abbrev c293_9 : CSs := .cons (.ret (.int 1)) .nil
abbrev c293_8 : CSs := .cons (.ret (.int 1000000)) .nil
abbrev c293_7 : CSs := .cons (.ifs (.blt .any (.cons (.comp false (.call 51 (.cons (.idx (.var 0) (.int 1)) (.cons (.var 2) .nil))) (.nm 2) (.seq (.var 1)) .none [2]) .nil)) c293_9 .nil) c293_8
abbrev c293_6 : CSs := .cons (.set 1 (.comp false (.var 2) (.nm 2) (.rng1 (.int 128)) (.some (.or (.cmp .eq (.var 2) (.int 9)) (.or (.cmp .eq (.var 2) (.int 10)) (.and (.cmp .lt (.int 31) (.var 2)) (.and (.cmp .lt (.var 2) (.int 127)) (.cmp .ne (.var 2) (.int 37))))))) [2])) c293_7
abbrev c293_10 : CSs := .cons (.ret (.blt .min2 (.cons (.int 1000000) (.cons (.bin .add (.call 293 (.cons (.idx (.var 0) (.int 1)) .nil)) (.call 293 (.cons (.idx (.var 0) (.int 2)) .nil))) .nil)))) .nil
abbrev c293_11 : CSs := .cons (.ret (.blt .min2 (.cons (.call 293 (.cons (.idx (.var 0) (.int 1)) .nil)) (.cons (.call 293 (.cons (.idx (.var 0) (.int 2)) .nil)) .nil)))) .nil
abbrev c293_12 : CSs := .cons (.ret (.blt .min2 (.cons (.int 1000000) (.cons (.bin .mul (.call 293 (.cons (.idx (.var 0) (.int 1)) .nil)) (.idx (.var 0) (.int 2))) .nil)))) .nil
abbrev c293_13 : CSs := .cons (.ret (.call 293 (.cons (.idx (.var 0) (.int 2)) .nil))) .nil
abbrev c293_5 : CSs := .cons (.ret (.int 0)) .nil
abbrev c293_4 : CSs := .cons (.ifs (.cmp .eq (.idx (.var 0) (.int 0)) (.str "group")) c293_13 .nil) c293_5
abbrev c293_3 : CSs := .cons (.ifs (.cmp .eq (.idx (.var 0) (.int 0)) (.str "repeat")) c293_12 .nil) c293_4
abbrev c293_2 : CSs := .cons (.ifs (.cmp .eq (.idx (.var 0) (.int 0)) (.str "choice")) c293_11 .nil) c293_3
abbrev c293_1 : CSs := .cons (.ifs (.cmp .eq (.idx (.var 0) (.int 0)) (.str "sequence")) c293_10 .nil) c293_2
abbrev c293 : CSs := .cons (.ifs (.cmp .eq (.idx (.var 0) (.int 0)) (.str "set")) c293_6 .nil) c293_1
/-- the length of a shortest text; a million: none -/
def Pt.shor : Pt → Int
  | .set ps => if txIn ps then 1 else 1000000
  | .seq a b => if a.shor + b.shor < 1000000 then a.shor + b.shor else 1000000
  | .alt a b => if b.shor < a.shor then b.shor else a.shor
  | .rep t lo _ _ => if t.shor * lo < 1000000 then t.shor * lo else 1000000
  | .grp _ t => t.shor
  | _ => 0
theorem shor_bd : ∀ {t : Pt}, t.r2 → 0 ≤ t.shor ∧ t.shor ≤ 1000000
  | .set ps, _ => by show 0 ≤ (if txIn ps = true then (1 : Int) else 1000000) ∧ (if txIn ps = true then (1 : Int) else 1000000) ≤ 1000000; split <;> omega
  | .seq a b, h => by
    have h1 := shor_bd h.1; have h2 := shor_bd h.2
    show 0 ≤ (if a.shor + b.shor < 1000000 then a.shor + b.shor else 1000000) ∧ (if a.shor + b.shor < 1000000 then a.shor + b.shor else 1000000) ≤ 1000000
    split <;> omega
  | .alt a b, h => by
    have h1 := shor_bd h.1; have h2 := shor_bd h.2
    show 0 ≤ (if b.shor < a.shor then b.shor else a.shor) ∧ (if b.shor < a.shor then b.shor else a.shor) ≤ 1000000
    split <;> omega
  | .rep t lo _ _, h => by
    have h1 := shor_bd h.1
    have h2 : 0 ≤ t.shor * lo := Int.mul_nonneg h1.1 (by omega)
    show 0 ≤ (if t.shor * lo < 1000000 then t.shor * lo else 1000000) ∧ (if t.shor * lo < 1000000 then t.shor * lo else 1000000) ≤ 1000000
    split <;> omega
  | .grp _ t, h => shor_bd (t := t) h
  | .look _ _ _ _, _ | .empty, _ | .anchor _, _ => by show 0 ≤ (0 : Int) ∧ (0 : Int) ≤ 1000000; omega
def sp293 (n : Nat) : SpD := fun ds M Q _ => ∃ t : Pt, ds = [ptD t] ∧ t.ht < n ∧ t.r2 ∧ Q (.int t.shor) M
theorem ln293 (n : Nat) : ∀ ds M Q E, sp293 n ds M Q E → ds.length = 1 := by
  rintro _ _ _ _ ⟨_, rfl, _⟩; rfl
theorem z293 : ∀ ds M Q E, sp293 0 ds M Q E → False := by
  rintro _ _ _ _ ⟨_, _, h, _⟩; omega
theorem rd293 {Φ : Nat → SpD} {κ : Nat → D} {n : Nat} (h51 : Φ 51 = sp51) (h293 : Φ 293 = sp293 n) : RdOk Φ κ c293 3 (sp293 (n + 1)) := by
  rintro ds M Q E hM hd ⟨t, rfl, hh, hr, hQ⟩
  cases t with
  | set ps =>
    have hQ : Q (.int (if txIn ps = true then 1 else 1000000)) M := hQ
    simp only [ptD]; walk_at "rd2"
    refine nxt_of ?_
    rw [rSs_cons, rS_set]
    refine known_rd ?_
    walk_at "rd2"
    refine nxt_of ?_
    rw [rSs_cons, rS_ifsN, rT_blt]
    refine any_rd h51 (fun {M Q} => ix_tup'.trans atQ_1) ?_
    cases e : txIn ps with
    | true => rw [e] at hQ; walk_at "go"; exact .keep hQ
    | false => rw [e] at hQ; walk_at "go"; exact .keep hQ
  | empty => simp only [ptD]; walk_at "go"; exact .keep hQ
  | anchor s => simp only [ptD]; walk_at "go"; exact .keep hQ
  | seq a b =>
    have hh : max a.ht b.ht + 1 < n + 1 := hh
    simp only [ptD]; walk_at "go"
    rw [h293]
    refine ⟨a, rfl, by omega, hr.1, ?_⟩
    walk_at "go"
    try rw [h293]
    refine ⟨b, rfl, by omega, hr.2, ?_⟩
    walk_at "go"
    exact .keep hQ
  | alt a b =>
    have hh : max a.ht b.ht + 1 < n + 1 := hh
    simp only [ptD]; walk_at "go"
    rw [h293]
    refine ⟨a, rfl, by omega, hr.1, ?_⟩
    walk_at "go"
    try rw [h293]
    refine ⟨b, rfl, by omega, hr.2, ?_⟩
    walk_at "go"
    exact .keep hQ
  | rep t lo hi g =>
    have hh : t.ht + 1 < n + 1 := hh
    have h1 := shor_bd hr.1
    simp only [ptD]; walk_at "go"
    rw [h293]
    refine ⟨t, rfl, by omega, hr.1, ?_⟩
    walk_at "go"
    refine ⟨.inl (by omega), ?_⟩
    walk_at "go"
    exact .keep hQ
  | grp m t =>
    have hh : t.ht + 1 < n + 1 := hh
    simp only [ptD]; walk_at "go"
    rw [h293]
    refine ⟨t, rfl, by omega, hr, ?_⟩
    walk_at "go"
    exact .keep hQ
  | look a p t k =>
    cases k <;> (simp only [ptD]; walk_at "go"; exact .keep hQ)

/-! def 296: _law_within; slots 0:_law_tree_here; calls [('_law_within', 296)]; consts []; built-ins [] -/
abbrev c296_3 : CSs := .cons (.ret (.bin .cat (.bin .add (.lst false (.cons (.var 0) .nil)) (.call 296 (.cons (.idx (.var 0) (.int 1)) .nil))) (.call 296 (.cons (.idx (.var 0) (.int 2)) .nil)))) .nil
abbrev c296_4 : CSs := .cons (.ret (.bin .cat (.lst false (.cons (.var 0) .nil)) (.call 296 (.cons (.idx (.var 0) (.int 1)) .nil)))) .nil
abbrev c296_2 : CSs := .cons (.ret (.lst true (.cons (.var 0) .nil))) .nil
abbrev c296_1 : CSs := .cons (.ifs (.or (.cmp .eq (.idx (.var 0) (.int 0)) (.str "nonempty")) (.cmp .eq (.idx (.var 0) (.int 0)) (.str "star"))) c296_4 .nil) c296_2
abbrev c296 : CSs := .cons (.ifs (.or (.cmp .eq (.idx (.var 0) (.int 0)) (.str "sequence")) (.cmp .eq (.idx (.var 0) (.int 0)) (.str "choice"))) c296_3 .nil) c296_1
def Co.subs : Co → List Co
  | .seq a b => .seq a b :: (a.subs ++ b.subs)
  | .alt a b => .alt a b :: (a.subs ++ b.subs)
  | .ne a => .ne a :: a.subs
  | .star a g => .star a g :: a.subs
  | t => [t]
theorem subs_nd : ∀ {t : Co}, t.subs.length = t.nd
  | .seq a b => by show (a.subs ++ b.subs).length + 1 = _; rw [List.length_append, subs_nd, subs_nd]; rfl
  | .alt a b => by show (a.subs ++ b.subs).length + 1 = _; rw [List.length_append, subs_nd, subs_nd]; rfl
  | .ne a => by show a.subs.length + 1 = _; rw [subs_nd]; rfl
  | .star a _ => by show a.subs.length + 1 = _; rw [subs_nd]; rfl
  | .set _ _ | .opn _ | .cls _ | .fgt _ _ | .bit _ _ | .anc _ | .emp => rfl
/-- lists that nothing else leans on -/
def Junk (L : Md) : Prop := ∀ m ∈ L, ∃ ts : List Co, m = .lst (ts.map coD)
def sp296 (n : Nat) : SpD := fun ds M Q _ => ∃ t : Co, ds = [coD t] ∧ t.ht < n ∧ t.nd ≤ 1000000 ∧ ∀ L : Md, Q (.ref (M ++ L).length) (M ++ L ++ [.lst (t.subs.map coD)])
theorem ln296 (n : Nat) : ∀ ds M Q E, sp296 n ds M Q E → ds.length = 1 := by
  rintro _ _ _ _ ⟨_, rfl, _⟩; rfl
theorem z296 : ∀ ds M Q E, sp296 0 ds M Q E → False := by
  rintro _ _ _ _ ⟨_, _, h, _⟩; omega
theorem catL {M : Md} {k : Nat} {a b : List D} {Q : QE} (h : M[k]? = some (.lst b)) : opD .cat (.lst a) (.ref k) M Q = (a.length + b.length ≤ sizeLine ∧ Q (.ref M.length) (M ++ [MO.lst (a ++ b)])) := by
  show (match lstOf (.lst a) M, lstOf (.ref k) M with
    | some a, some b => a.length + b.length ≤ sizeLine ∧ Q (.ref M.length) (M ++ [MO.lst (a ++ b)])
    | _, _ => False) = _
  rw [lstOf_R, h]; rfl
theorem addL {M : Md} {k : Nat} {a b : List D} {Q : QE} (h : M[k]? = some (.lst b)) : opD .add (.lst a) (.ref k) M Q = (a.length + b.length ≤ sizeLine ∧ Q (.lst (a ++ b)) M) := by
  show (match lstOf (.lst a) M, lstOf (.ref k) M with
    | some a, some b => a.length + b.length ≤ sizeLine ∧ Q (.lst (a ++ b)) M
    | _, _ => False) = _
  rw [lstOf_R, h]; rfl
theorem at_end {M : Md} {m : MO} : (M ++ [m])[M.length]? = some m := by rw [at_new0]; rfl
theorem rd296 {Φ : Nat → SpD} {κ : Nat → D} {n : Nat} (h296 : Φ 296 = sp296 n) : RdOk Φ κ c296 1 (sp296 (n + 1)) := by
  rintro ds M Q E hM hd ⟨t, rfl, hh, hz, hQ⟩
  have h0 := hQ []
  rw [List.append_nil] at h0
  have two : ∀ a b : Co, t.subs = t :: (a.subs ++ b.subs) → a.ht < n → b.ht < n → Φ 296 [coD a] M (fun y M1 => opD .add (.lst [coD t]) y M1 fun z M2 => Φ 296 [coD b] M2 (fun w M3 => opD .cat z w M3 (Fin M.length Q)) E) E := by
    intro a b e ha hb
    have hn := subs_nd (t := t)
    rw [e, List.length_cons, List.length_append, subs_nd, subs_nd] at hn
    rw [h296]
    refine ⟨a, rfl, ha, by omega, fun L => ?_⟩
    dsimp only
    rw [addL at_end]
    refine ⟨by rw [size_eq, List.length_map, subs_nd]; show 1 + _ ≤ _; omega, ?_⟩
    refine ⟨b, rfl, hb, by omega, fun L' => ?_⟩
    dsimp only
    rw [catL at_end]
    refine ⟨by rw [size_eq, List.length_map, List.length_append, List.length_map, subs_nd, subs_nd]; show 1 + _ + _ ≤ _; omega, ?_⟩
    have := hQ (L ++ [MO.lst (a.subs.map coD)] ++ L' ++ [MO.lst (b.subs.map coD)])
    rw [e] at this
    refine .keep ?_
    simp only [List.append_assoc, List.map_cons, List.map_append, List.cons_append, List.nil_append] at this ⊢
    exact this
  have one : ∀ a : Co, t.subs = t :: a.subs → a.ht < n → Φ 296 [coD a] M (fun y M1 => opD .cat (.lst [coD t]) y M1 (Fin M.length Q)) E := by
    intro a e ha
    have hn := subs_nd (t := t)
    rw [e, List.length_cons, subs_nd] at hn
    rw [h296]
    refine ⟨a, rfl, ha, by omega, fun L => ?_⟩
    dsimp only
    rw [catL at_end]
    refine ⟨by rw [size_eq, List.length_map, subs_nd]; show 1 + _ ≤ _; omega, ?_⟩
    have := hQ (L ++ [MO.lst (a.subs.map coD)])
    rw [e] at this
    refine .keep ?_
    simp only [List.append_assoc, List.map_cons, List.map_append, List.cons_append, List.nil_append] at this ⊢
    exact this
  cases t with
  | set m ps => simp only [coD]; walk_at "go"; exact .keep h0
  | opn g => simp only [coD]; walk_at "go"; exact .keep h0
  | cls g => simp only [coD]; walk_at "go"; exact .keep h0
  | fgt gs ms => simp only [coD]; walk_at "go"; exact .keep h0
  | bit m b => simp only [coD]; walk_at "go"; exact .keep h0
  | anc s => simp only [coD]; walk_at "go"; exact .keep h0
  | emp => simp only [coD]; walk_at "go"; exact .keep h0
  | seq a b =>
    have hh : max a.ht b.ht + 1 < n + 1 := hh
    have q := two a b rfl (by omega) (by omega)
    simp only [coD] at q ⊢; walk_at "go"
    exact q
  | alt a b =>
    have hh : max a.ht b.ht + 1 < n + 1 := hh
    have q := two a b rfl (by omega) (by omega)
    simp only [coD] at q ⊢; walk_at "go"
    exact q
  | ne a =>
    have hh : a.ht + 1 < n + 1 := hh
    have q := one a rfl (by omega)
    simp only [coD] at q ⊢; walk_at "go"
    exact q
  | star a g =>
    have hh : a.ht + 1 < n + 1 := hh
    have q := one a rfl (by omega)
    simp only [coD] at q ⊢; walk_at "go"
    exact q

/-! possible cores and shortest texts -/
theorem seqN_poss {it c : Co} : ∀ {n : Nat}, (seqN it n c).poss = ((decide (n = 0) || it.poss) && c.poss)
  | 0 => by show c.poss = _; simp
  | n + 1 => by
    show (it.poss && (seqN it n c).poss) = _
    rw [seqN_poss]
    cases it.poss <;> simp
theorem optN_poss {it : Co} {g : Bool} : ∀ {n : Nat}, (optN it g n).poss = true
  | 0 => rfl
  | n + 1 => by
    cases g with
    | false => show (true || _) = true; rfl
    | true => show (_ || true) = true; rw [Bool.or_true]
theorem repCo_poss {it : Co} {lo : Nat} {hi : Option Nat} {g : Bool} : (repCo it lo hi g).poss = (decide (lo = 0) || it.poss) := by
  unfold repCo
  rw [seqN_poss]
  cases hi with
  | none => show (_ && true) = _; rw [Bool.and_true]
  | some h => show (_ && (optN it g (h - lo)).poss) = _; rw [optN_poss, Bool.and_true]
theorem lkCo_poss : ∀ {t : Pt}, t.lkCo.poss = true
  | .look _ true t (some k) | .look _ false t (some k) => rfl
  | .look _ _ _ none | .set _ | .empty | .anchor _ | .seq _ _ | .alt _ _ | .rep _ _ _ _ | .grp _ _ => rfl
theorem shor_ok : ∀ {t : Pt}, t.r2 → t.ht ≤ 10 → ((t.un false).poss = true ∧ t.shor ≤ 2 ^ t.ht) ∨ ((t.un false).poss = false ∧ t.shor = 1000000)
  | .set ps, _, _ => by
    show (txIn ps = true ∧ (if txIn ps = true then (1 : Int) else 1000000) ≤ 2 ^ 0) ∨ (txIn ps = false ∧ (if txIn ps = true then (1 : Int) else 1000000) = 1000000)
    cases txIn ps
    · right; exact ⟨rfl, rfl⟩
    · left; exact ⟨rfl, by decide⟩
  | .seq a b, h, hh => by
    have hh : max a.ht b.ht + 1 ≤ 10 := hh
    have i1 := shor_ok h.1 (by omega); have i2 := shor_ok h.2 (by omega)
    have b1 := shor_bd h.1; have b2 := shor_bd h.2
    have e1 : (2 : Int) ^ a.ht ≤ 2 ^ max a.ht b.ht := by exact_mod_cast Nat.pow_le_pow_right (n := 2) (by omega) (by omega)
    have e2 : (2 : Int) ^ b.ht ≤ 2 ^ max a.ht b.ht := by exact_mod_cast Nat.pow_le_pow_right (n := 2) (by omega) (by omega)
    have e3 : (2 : Int) ^ max a.ht b.ht ≤ 2 ^ 9 := by exact_mod_cast Nat.pow_le_pow_right (n := 2) (by omega) (by omega)
    show (((a.un false).poss && (b.un false).poss) = true ∧ (if a.shor + b.shor < 1000000 then a.shor + b.shor else 1000000) ≤ 2 ^ (max a.ht b.ht + 1)) ∨ (((a.un false).poss && (b.un false).poss) = false ∧ (if a.shor + b.shor < 1000000 then a.shor + b.shor else 1000000) = 1000000)
    rw [Int.pow_succ]
    rcases i1 with ⟨p1, q1⟩ | ⟨p1, q1⟩
    · rcases i2 with ⟨p2, q2⟩ | ⟨p2, q2⟩
      · left; rw [p1, p2]; exact ⟨rfl, by split <;> omega⟩
      · right; rw [p1, p2]; exact ⟨rfl, by rw [if_neg (by omega)]⟩
    · right; rw [p1]; exact ⟨rfl, by rw [if_neg (by omega)]⟩
  | .alt a b, h, hh => by
    have hh : max a.ht b.ht + 1 ≤ 10 := hh
    have i1 := shor_ok h.1 (by omega); have i2 := shor_ok h.2 (by omega)
    have b1 := shor_bd h.1; have b2 := shor_bd h.2
    have e1 : (2 : Int) ^ a.ht ≤ 2 ^ max a.ht b.ht := by exact_mod_cast Nat.pow_le_pow_right (n := 2) (by omega) (by omega)
    have e2 : (2 : Int) ^ b.ht ≤ 2 ^ max a.ht b.ht := by exact_mod_cast Nat.pow_le_pow_right (n := 2) (by omega) (by omega)
    have e3 : (2 : Int) ^ max a.ht b.ht ≤ 2 ^ 9 := by exact_mod_cast Nat.pow_le_pow_right (n := 2) (by omega) (by omega)
    have e4 : (0 : Int) ≤ 2 ^ max a.ht b.ht := by exact_mod_cast Nat.zero_le _
    show (((a.un false).poss || (b.un false).poss) = true ∧ (if b.shor < a.shor then b.shor else a.shor) ≤ 2 ^ (max a.ht b.ht + 1)) ∨ (((a.un false).poss || (b.un false).poss) = false ∧ (if b.shor < a.shor then b.shor else a.shor) = 1000000)
    rw [Int.pow_succ]
    rcases i1 with ⟨p1, q1⟩ | ⟨p1, q1⟩
    · left; rw [p1]; exact ⟨rfl, by split <;> omega⟩
    · rcases i2 with ⟨p2, q2⟩ | ⟨p2, q2⟩
      · left; rw [p1, p2]; exact ⟨rfl, by split <;> omega⟩
      · right; rw [p1, p2]; exact ⟨rfl, by split <;> omega⟩
  | .rep t lo hi g, h, hh => by
    have hh : t.ht + 1 ≤ 10 := hh
    have i1 := shor_ok h.1 (by omega)
    have b1 := shor_bd h.1
    have hlo : lo ≤ 2 := h.2.1
    have e3 : (2 : Int) ^ t.ht ≤ 2 ^ 9 := by exact_mod_cast Nat.pow_le_pow_right (n := 2) (by omega) (by omega)
    have e4 : (0 : Int) ≤ 2 ^ t.ht := by exact_mod_cast Nat.zero_le _
    have ep : (Co.seq t.fgt (t.un false)).poss = (t.un false).poss := by show (true && _) = _; rw [Bool.true_and]
    show ((repCo (.seq t.fgt (t.un false)) lo hi g).poss = true ∧ (if t.shor * lo < 1000000 then t.shor * lo else 1000000) ≤ 2 ^ (t.ht + 1)) ∨ ((repCo (.seq t.fgt (t.un false)) lo hi g).poss = false ∧ (if t.shor * lo < 1000000 then t.shor * lo else 1000000) = 1000000)
    rw [repCo_poss, ep, Int.pow_succ]
    have hc : lo = 0 ∨ lo = 1 ∨ lo = 2 := by omega
    rcases i1 with ⟨p1, q1⟩ | ⟨p1, q1⟩
    · left; rw [p1, Bool.or_true]
      refine ⟨rfl, ?_⟩
      rcases hc with rfl | rfl | rfl <;> (split <;> omega)
    · rcases hc with rfl | rfl | rfl
      · left; refine ⟨rfl, ?_⟩; split <;> omega
      · right; rw [p1]; refine ⟨rfl, ?_⟩; rw [if_neg (by omega)]
      · right; rw [p1]; refine ⟨rfl, ?_⟩; rw [if_neg (by omega)]
  | .grp n t, h, hh => by
    have hh : t.ht + 1 ≤ 10 := hh
    have i1 := shor_ok (t := t) h (by omega)
    have e4 : (0 : Int) ≤ 2 ^ t.ht := by exact_mod_cast Nat.zero_le _
    have ep : ((Pt.grp n t).un false).poss = (t.un false).poss := by show (true && ((t.un false).poss && true)) = _; rw [Bool.true_and, Bool.and_true]
    rw [ep]
    show ((t.un false).poss = true ∧ t.shor ≤ 2 ^ (t.ht + 1)) ∨ ((t.un false).poss = false ∧ t.shor = 1000000)
    rw [Int.pow_succ]
    rcases i1 with ⟨p1, q1⟩ | ⟨p1, q1⟩
    · exact .inl ⟨p1, by omega⟩
    · exact .inr ⟨p1, q1⟩
  | .look a p t k, h, hh => by
    have e4 : (0 : Int) ≤ 2 ^ (t.ht + 1) := by exact_mod_cast Nat.zero_le _
    exact .inl ⟨lkCo_poss, e4⟩
  | .empty, _, _ | .anchor _, _, _ => .inl ⟨rfl, by show (0 : Int) ≤ 2 ^ 0; decide⟩
theorem mark_shor : ∀ {t : Pt} {n : Nat}, (t.mark n).1.shor = t.shor
  | .seq a b, n => by show (if (a.mark n).1.shor + (b.mark (a.mark n).2).1.shor < 1000000 then (a.mark n).1.shor + (b.mark (a.mark n).2).1.shor else 1000000) = _; rw [mark_shor, mark_shor]; rfl
  | .alt a b, n => by show (if (b.mark (a.mark n).2).1.shor < (a.mark n).1.shor then (b.mark (a.mark n).2).1.shor else (a.mark n).1.shor) = _; rw [mark_shor, mark_shor]; rfl
  | .rep t lo _ _, n => by show (if (t.mark n).1.shor * lo < 1000000 then (t.mark n).1.shor * lo else 1000000) = _; rw [mark_shor]; rfl
  | .grp k t, n => mark_shor (t := t)
  | .look _ _ t _, n => rfl
  | .set _, _ | .empty, _ | .anchor _, _ => rfl
theorem nb_pf : ∀ {t : Co} {n : Nat}, (t.nb n).1.poss = t.poss ∧ (t.nb n).1.fill = t.fill
  | .seq a b, n => by
    obtain ⟨h1, h2⟩ := nb_pf (t := a) (n := n); obtain ⟨h3, h4⟩ := nb_pf (t := b) (n := (a.nb n).2)
    exact ⟨by show ((a.nb n).1.poss && (b.nb (a.nb n).2).1.poss) = (a.poss && b.poss); rw [h1, h3], by show (((a.nb n).1.poss && (b.nb (a.nb n).2).1.poss) && ((a.nb n).1.fill || (b.nb (a.nb n).2).1.fill)) = ((a.poss && b.poss) && (a.fill || b.fill)); rw [h1, h2, h3, h4]⟩
  | .alt a b, n => by
    obtain ⟨h1, h2⟩ := nb_pf (t := a) (n := n); obtain ⟨h3, h4⟩ := nb_pf (t := b) (n := (a.nb n).2)
    exact ⟨by show ((a.nb n).1.poss || (b.nb (a.nb n).2).1.poss) = (a.poss || b.poss); rw [h1, h3], by show ((a.nb n).1.fill || (b.nb (a.nb n).2).1.fill) = (a.fill || b.fill); rw [h2, h4]⟩
  | .ne a, n => by
    obtain ⟨h1, h2⟩ := nb_pf (t := a) (n := n)
    exact ⟨h2, h2⟩
  | .star a g, n => ⟨rfl, (nb_pf (t := a) (n := n)).2⟩
  | .set _ _, _ | .opn _, _ | .cls _, _ | .fgt _ _, _ | .bit _ _, _ | .anc _, _ | .emp, _ => ⟨rfl, rfl⟩
theorem whole_poss {t : Pt} (h : t.r2) (hh : t.ht ≤ 10) : (t.whole.core false).poss = decide (t.shor < 1000000) := by
  rw [Pt.core, nb_pf.1]
  have := shor_ok (t := t.whole) (r2_mark h) (by rw [Pt.whole, mark_ht]; exact hh)
  rw [show t.whole.shor = t.shor from mark_shor, show t.whole.ht = t.ht from mark_ht] at this
  have e3 : (2 : Int) ^ t.ht ≤ 2 ^ 10 := by exact_mod_cast Nat.pow_le_pow_right (n := 2) (by omega) hh
  rcases this with ⟨p, q⟩ | ⟨p, q⟩
  · rw [p]; exact (decide_eq_true (by omega)).symm
  · rw [p, q]; rfl
theorem nb_nd : ∀ {t : Co} {n : Nat}, (t.nb n).1.nd = t.nd
  | .seq a b, n => by show (a.nb n).1.nd + (b.nb (a.nb n).2).1.nd + 1 = a.nd + b.nd + 1; rw [nb_nd, nb_nd]
  | .alt a b, n => by show (a.nb n).1.nd + (b.nb (a.nb n).2).1.nd + 1 = a.nd + b.nd + 1; rw [nb_nd, nb_nd]
  | .ne a, n => by show (a.nb n).1.nd + 1 = a.nd + 1; rw [nb_nd]
  | .star a g, n => by show (a.nb n).1.nd + 1 = a.nd + 1; rw [nb_nd]
  | .set _ _, _ | .opn _, _ | .cls _, _ | .fgt _ _, _ | .bit _ _, _ | .anc _, _ | .emp, _ => rfl
theorem nb_pl : ∀ {t : Co} {n : Nat}, t.pl → (t.nb n).1.pl
  | .seq a b, n, h => ⟨nb_pl (t := a) h.1, nb_pl (t := b) h.2⟩
  | .alt a b, n, h => ⟨nb_pl (t := a) h.1, nb_pl (t := b) h.2⟩
  | .ne a, n, h => nb_pl (t := a) h
  | .star a g, n, h => nb_pl (t := a) h
  | .set _ _, _, h => h
  | .anc _, _, h => h
  | .opn _, _, _ | .cls _, _, _ | .fgt _ _, _, _ | .bit _ _, _, _ | .emp, _, _ => trivial
theorem seqN_pl {it c : Co} (h1 : it.pl) (h2 : c.pl) : ∀ {n : Nat}, (seqN it n c).pl
  | 0 => h2
  | n + 1 => ⟨h1, seqN_pl h1 h2⟩
theorem optN_pl {it : Co} {g : Bool} (h1 : it.pl) : ∀ {n : Nat}, (optN it g n).pl
  | 0 => trivial
  | n + 1 => by
    cases g with
    | false => exact ⟨trivial, h1, optN_pl h1⟩
    | true => exact ⟨⟨h1, optN_pl h1⟩, trivial⟩
theorem lkCo_pl : ∀ {t : Pt}, t.lkCo.pl
  | .look _ true t (some k) => ⟨trivial, trivial⟩
  | .look _ false t (some k) => trivial
  | .look _ _ _ none | .set _ | .empty | .anchor _ | .seq _ _ | .alt _ _ | .rep _ _ _ _ | .grp _ _ => trivial
theorem un_pl' {b : Bool} : ∀ {t : Pt}, t.pl → (t.un b).pl
  | .seq x y, h => by
    show (if b then Co.seq (y.un b) (x.un b) else .seq (x.un b) (y.un b)).pl
    split
    · exact ⟨un_pl' (t := y) h.2, un_pl' (t := x) h.1⟩
    · exact ⟨un_pl' (t := x) h.1, un_pl' (t := y) h.2⟩
  | .alt x y, h => ⟨un_pl' (t := x) h.1, un_pl' (t := y) h.2⟩
  | .rep t lo hi g, h => by
    have hi1 : (Co.seq t.fgt (t.un b)).pl := ⟨trivial, un_pl' (t := t) h⟩
    show (repCo _ lo hi g).pl
    unfold repCo
    cases hi with
    | none => exact seqN_pl (c := .star (.seq t.fgt (t.un b)) g) hi1 hi1
    | some k => exact seqN_pl hi1 (optN_pl hi1)
  | .grp n t, h => ⟨trivial, un_pl' (t := t) h, trivial⟩
  | .look a p t k, h => lkCo_pl
  | .set _, h => h.1
  | .anchor _, h => h
  | .empty, _ => trivial
theorem mark_pl : ∀ {t : Pt} {n : Nat}, t.pl → (t.mark n).1.pl
  | .seq a b, n, h => ⟨mark_pl (t := a) h.1, mark_pl (t := b) h.2⟩
  | .alt a b, n, h => ⟨mark_pl (t := a) h.1, mark_pl (t := b) h.2⟩
  | .rep t _ _ _, n, h => mark_pl (t := t) h
  | .grp k t, n, h => mark_pl (t := t) h
  | .look _ _ t _, n, h => mark_pl (t := t) h
  | .set _, _, h => h
  | .anchor _, _, h => h
  | .empty, _, _ => trivial
/-- trees within -/
def okC (n : Nat) (u : Co) : Prop := u.ht ≤ n ∧ u.pl
theorem subs_ok {n : Nat} : ∀ {t : Co}, okC n t → ∀ u ∈ t.subs, okC n u
  | .seq a b, h, u, hu => by
    have hh : max a.ht b.ht + 1 ≤ n := h.1
    rcases List.mem_cons.mp hu with rfl | hu
    · exact h
    rcases List.mem_append.mp hu with hu | hu
    · exact subs_ok (t := a) ⟨by omega, h.2.1⟩ u hu
    · exact subs_ok (t := b) ⟨by omega, h.2.2⟩ u hu
  | .alt a b, h, u, hu => by
    have hh : max a.ht b.ht + 1 ≤ n := h.1
    rcases List.mem_cons.mp hu with rfl | hu
    · exact h
    rcases List.mem_append.mp hu with hu | hu
    · exact subs_ok (t := a) ⟨by omega, h.2.1⟩ u hu
    · exact subs_ok (t := b) ⟨by omega, h.2.2⟩ u hu
  | .ne a, h, u, hu => by
    have hh : a.ht + 1 ≤ n := h.1
    rcases List.mem_cons.mp hu with rfl | hu
    · exact h
    · exact subs_ok (t := a) ⟨by omega, h.2⟩ u hu
  | .star a g, h, u, hu => by
    have hh : a.ht + 1 ≤ n := h.1
    rcases List.mem_cons.mp hu with rfl | hu
    · exact h
    · exact subs_ok (t := a) ⟨by omega, h.2⟩ u hu
  | .set _ _, h, u, hu | .opn _, h, u, hu | .cls _, h, u, hu | .fgt _ _, h, u, hu | .bit _ _, h, u, hu | .anc _, h, u, hu | .emp, h, u, hu => by
    rw [List.mem_singleton.mp hu]; exact h
theorem rests_ok {n : Nat} : ∀ {t : Co} {bh : List Co}, okC n t → (∀ u ∈ bh, okC n u) → ∀ p ∈ collT t bh, ∀ u ∈ p.2.2, okC n u
  | .set _ _, bh, _, hb, p, hp, u, hu => by
    rw [List.mem_singleton.mp hp] at hu; exact hb u hu
  | .seq a b, bh, h, hb, p, hp, u, hu => by
    have hh : max a.ht b.ht + 1 ≤ n := h.1
    rcases List.mem_append.mp hp with hp | hp
    · refine rests_ok (t := a) ⟨by omega, h.2.1⟩ (fun v hv => ?_) p hp u hu
      rcases List.mem_cons.mp hv with rfl | hv
      · exact ⟨by omega, h.2.2⟩
      · exact hb v hv
    · exact rests_ok (t := b) ⟨by omega, h.2.2⟩ hb p hp u hu
  | .alt a b, bh, h, hb, p, hp, u, hu => by
    have hh : max a.ht b.ht + 1 ≤ n := h.1
    rcases List.mem_append.mp hp with hp | hp
    · exact rests_ok (t := a) ⟨by omega, h.2.1⟩ hb p hp u hu
    · exact rests_ok (t := b) ⟨by omega, h.2.2⟩ hb p hp u hu
  | .ne a, bh, h, hb, p, hp, u, hu => by
    have hh : a.ht + 1 ≤ n := h.1
    exact rests_ok (t := a) ⟨by omega, h.2⟩ hb p hp u hu
  | .star a g, bh, h, hb, p, hp, u, hu => by
    have hh : a.ht + 1 ≤ n := h.1
    refine rests_ok (t := a) ⟨by omega, h.2⟩ (fun v hv => ?_) p hp u hu
    rcases List.mem_cons.mp hv with rfl | hv
    · exact h
    · exact hb v hv
  | .opn _, _, _, _, p, hp, _, _ | .cls _, _, _, _, p, hp, _, _ | .fgt _ _, _, _, _, p, hp, _, _ | .bit _ _, _, _, _, p, hp, _, _ | .anc _, _, _, _, p, hp, _, _ | .emp, _, _, _, p, hp, _, _ => by cases hp
theorem ne_bb {a b : Bool} {M : Md} {QB : Bool → Prop} : cpD .ne (.lst [.bl a, .bl b]) (.lst [.bl a, .bl b]) M QB = QB false := by
  have key : ∀ a b : Bool, SeqAt.shaped (.list [.bool a, .bool b]) = true ∧ PyData.eqv (.list [.bool a, .bool b]) (.list [.bool a, .bool b]) = true := by decide
  obtain ⟨k1, k2⟩ := key a b
  show (SeqAt.shaped (.list [.bool a, .bool b]) = true ∧ SeqAt.shaped (.list [.bool a, .bool b]) = true ∧ QB (!PyData.eqv (.list [.bool a, .bool b]) (.list [.bool a, .bool b]))) = _
  rw [k1, k2]; simp

/-! cores are plain data -/
def Co.fs : Co → Prop
  | .fgt gs ms => gs.length ≤ 4000000 ∧ ms.length ≤ 4000000
  | .seq a b => a.fs ∧ b.fs
  | .alt a b => a.fs ∧ b.fs
  | .ne a => a.fs
  | .star a _ => a.fs
  | _ => True
theorem plain_nats {l : List Nat} (h : l.length ≤ 4000000) : Plain 2 (nats l) := by
  refine ⟨by rw [List.length_map]; omega, fun d hd => ?_⟩
  obtain ⟨i, _, rfl⟩ := List.mem_map.mp hd
  trivial
theorem plain_co : ∀ {t : Co}, t.pl → t.fs → Plain (t.ht + 4) (coD t)
  | .set n ps, h, _ => by
    have h : ps.length ≤ 100 := h
    refine ⟨by show (3 : Nat) < 2 ^ 62; decide, fun d hd => ?_⟩
    simp only [List.mem_cons, List.not_mem_nil, or_false] at hd
    rcases hd with rfl | rfl | rfl
    · exact plain_str (by decide)
    · trivial
    · exact ⟨by rw [List.length_map]; omega, plain_prs (by omega)⟩
  | .opn g, _, _ => by
    refine ⟨by show (2 : Nat) < 2 ^ 62; decide, fun d hd => ?_⟩
    simp only [List.mem_cons, List.not_mem_nil, or_false] at hd
    rcases hd with rfl | rfl
    · exact plain_str (by decide)
    · trivial
  | .cls g, _, _ => by
    refine ⟨by show (2 : Nat) < 2 ^ 62; decide, fun d hd => ?_⟩
    simp only [List.mem_cons, List.not_mem_nil, or_false] at hd
    rcases hd with rfl | rfl
    · exact plain_str (by decide)
    · trivial
  | .fgt gs ms, _, h => by
    refine ⟨by show (3 : Nat) < 2 ^ 62; decide, fun d hd => ?_⟩
    simp only [List.mem_cons, List.not_mem_nil, or_false] at hd
    rcases hd with rfl | rfl | rfl
    · exact plain_str (by decide)
    · exact plain_mono (n := 2) (plain_nats h.1) (by omega)
    · exact plain_mono (n := 2) (plain_nats h.2) (by omega)
  | .bit k b, _, _ => by
    refine ⟨by show (3 : Nat) < 2 ^ 62; decide, fun d hd => ?_⟩
    simp only [List.mem_cons, List.not_mem_nil, or_false] at hd
    rcases hd with rfl | rfl | rfl
    · exact plain_str (by decide)
    · trivial
    · trivial
  | .anc s, h, _ => by
    refine ⟨by show (2 : Nat) < 2 ^ 62; decide, fun d hd => ?_⟩
    simp only [List.mem_cons, List.not_mem_nil, or_false] at hd
    rcases hd with rfl | rfl
    · exact plain_str (by decide)
    · exact plain_str (ancOk_len h)
  | .emp, _, _ => by
    refine ⟨by show (1 : Nat) < 2 ^ 62; decide, fun d hd => ?_⟩
    rw [List.mem_singleton.mp hd]
    exact plain_str (by decide)
  | .seq a b, h, h' => by
    have h1 := plain_co h.1 h'.1
    have h2 := plain_co h.2 h'.2
    show Plain ((max a.ht b.ht + 1) + 4) _
    refine ⟨by show (3 : Nat) < 2 ^ 62; decide, fun d hd => ?_⟩
    simp only [List.mem_cons, List.not_mem_nil, or_false] at hd
    rcases hd with rfl | rfl | rfl
    · exact plain_str (by decide)
    · exact plain_mono h1 (by omega)
    · exact plain_mono h2 (by omega)
  | .alt a b, h, h' => by
    have h1 := plain_co h.1 h'.1
    have h2 := plain_co h.2 h'.2
    show Plain ((max a.ht b.ht + 1) + 4) _
    refine ⟨by show (3 : Nat) < 2 ^ 62; decide, fun d hd => ?_⟩
    simp only [List.mem_cons, List.not_mem_nil, or_false] at hd
    rcases hd with rfl | rfl | rfl
    · exact plain_str (by decide)
    · exact plain_mono h1 (by omega)
    · exact plain_mono h2 (by omega)
  | .ne t, h, h' => by
    have h1 := plain_co (t := t) h h'
    show Plain ((t.ht + 1) + 4) _
    refine ⟨by show (2 : Nat) < 2 ^ 62; decide, fun d hd => ?_⟩
    simp only [List.mem_cons, List.not_mem_nil, or_false] at hd
    rcases hd with rfl | rfl
    · exact plain_str (by decide)
    · exact plain_mono h1 (by omega)
  | .star t x, h, h' => by
    have h1 := plain_co (t := t) h h'
    show Plain ((t.ht + 1) + 4) _
    refine ⟨by show (3 : Nat) < 2 ^ 62; decide, fun d hd => ?_⟩
    simp only [List.mem_cons, List.not_mem_nil, or_false] at hd
    rcases hd with rfl | rfl | rfl
    · exact plain_str (by decide)
    · exact plain_mono h1 (by omega)
    · trivial
theorem nb_fs : ∀ {t : Co} {n : Nat}, t.fs → (t.nb n).1.fs
  | .seq a b, n, h => ⟨nb_fs (t := a) h.1, nb_fs (t := b) h.2⟩
  | .alt a b, n, h => ⟨nb_fs (t := a) h.1, nb_fs (t := b) h.2⟩
  | .ne a, n, h => nb_fs (t := a) h
  | .star a g, n, h => nb_fs (t := a) h
  | .fgt _ _, _, h => h
  | .set _ _, _, _ | .opn _, _, _ | .cls _, _, _ | .bit _ _, _, _ | .anc _, _, _ | .emp, _, _ => trivial
theorem seqN_fs {it c : Co} (h1 : it.fs) (h2 : c.fs) : ∀ {n : Nat}, (seqN it n c).fs
  | 0 => h2
  | n + 1 => ⟨h1, seqN_fs h1 h2⟩
theorem optN_fs {it : Co} {g : Bool} (h1 : it.fs) : ∀ {n : Nat}, (optN it g n).fs
  | 0 => trivial
  | n + 1 => by
    cases g with
    | false => exact ⟨trivial, h1, optN_fs h1⟩
    | true => exact ⟨⟨h1, optN_fs h1⟩, trivial⟩
theorem fgt_fs {t : Pt} (h : t.ht ≤ 20) : t.fgt.fs := by
  have h1 := Pt.grps_len (t := t)
  have h2 := Pt.lks_len (t := t)
  have h3 : 2 ^ (t.ht + 1) ≤ 2 ^ 21 := Nat.pow_le_pow_right (by omega) (by omega)
  exact ⟨by omega, by rw [List.length_map]; omega⟩
theorem un_fs {b : Bool} : ∀ {t : Pt}, t.ht ≤ 20 → (t.un b).fs
  | .seq x y, h => by
    have h : max x.ht y.ht + 1 ≤ 20 := h
    have i1 := un_fs (b := b) (t := x) (by omega)
    have i2 := un_fs (b := b) (t := y) (by omega)
    show (if b then Co.seq (y.un b) (x.un b) else .seq (x.un b) (y.un b)).fs
    split
    · exact ⟨i2, i1⟩
    · exact ⟨i1, i2⟩
  | .alt x y, h => by
    have h : max x.ht y.ht + 1 ≤ 20 := h
    exact ⟨un_fs (t := x) (by omega), un_fs (t := y) (by omega)⟩
  | .rep t lo hi g, h => by
    have h : t.ht + 1 ≤ 20 := h
    have hi1 : (Co.seq t.fgt (t.un b)).fs := ⟨fgt_fs (by omega), un_fs (t := t) (by omega)⟩
    show (repCo _ lo hi g).fs
    unfold repCo
    cases hi with
    | none => exact seqN_fs (c := .star (.seq t.fgt (t.un b)) g) hi1 hi1
    | some k => exact seqN_fs hi1 (optN_fs hi1)
  | .grp n t, h => by
    have h : t.ht + 1 ≤ 20 := h
    exact ⟨trivial, un_fs (t := t) (by omega), trivial⟩
  | .look a true t (some k), h => by
    have h : t.ht + 1 ≤ 20 := h
    exact ⟨fgt_fs (by omega), trivial⟩
  | .look a false t (some k), h => trivial
  | .look a p t none, h => trivial
  | .set _, _ | .anchor _, _ | .empty, _ => trivial
theorem plain_core {t : Pt} {b : Bool} (h1 : t.pl) (h2 : t.r2) (h3 : t.ht ≤ 4) : Plain 36 (coD (t.core b)) := by
  have k1 : (t.core b).ht ≤ 32 := by
    rw [Pt.core, nb_ht]
    have := un_ht (b := b) h2
    omega
  exact plain_mono (plain_co (nb_pl (un_pl' h1)) (nb_fs (un_fs (by omega)))) (by omega)

/-! def 236: fresh; slots 0:prepared 1:groups 2:_; calls []; consts []; built-ins ['tuple', 'range'] -/
abbrev c236_1 : CSs := .cons (.ret (.tup (.cons (.var 1) (.cons (.var 1) (.cons (.blt .tuple (.cons (.comp false .non (.nm 2) (.seq (.fld "Prepared" (.var 0) "looks")) .none [2]) .nil)) .nil))))) .nil
abbrev c236 : CSs := .cons (.set 1 (.blt .tuple (.cons (.comp false .non (.nm 2) (.rng1 (.fld "Prepared" (.var 0) "group_total")) .none [2]) .nil))) c236_1
def nones (n : Nat) : D := .tup (List.replicate n .non)
def regD (g l : Nat) : D := .tup [nones g, nones g, nones l]
def sp236 : SpD := fun ds M Q _ => ∃ (c : D) (lk : List D) (g : Nat), ds = [.obj "Prepared" ["core", "looks", "group_total"] [c, .tup lk, .int g]] ∧ g ≤ 1000000 ∧ lk.length ≤ 1000000 ∧ Q (regD g lk.length) M
theorem ln236 : ∀ ds M Q E, sp236 ds M Q E → ds.length = 1 := by
  rintro _ _ _ _ ⟨_, _, _, rfl, _⟩; rfl
theorem map_non {α : Type} (l : List α) : (l.map fun _ => D.non) = List.replicate l.length .non := by
  rw [List.map_const']
theorem rd236 {Φ : Nat → SpD} {κ : Nat → D} : RdOk Φ κ c236 3 (sp236) := by
  rintro ds M Q E hM hd ⟨c, lk, g, rfl, hg, hl, hQ⟩
  walk_at "go"
  rw [rngD_eq]
  refine comp_map (fun i : Nat => D.int i) (fun _ => .non) trivial (by rw [size_eq, List.length_range]; omega) ?_ ?_
  · intro u hu yes no hy
    walk_at "go"
    exact hy
  walk_at "go"
  rw [show lk = lk.map id from (List.map_id lk).symm]
  refine comp_map (id : D → D) (fun _ => .non) trivial (by rw [size_eq]; omega) ?_ ?_
  · intro u hu yes no hy
    walk_at "go"
    exact hy
  walk_at "go"
  rw [map_non, map_non, List.length_range]
  exact .keep hQ

/-! registers: groups are opened in time -/
abbrev Gs := Nat → Prop
def post (S : Gs) : Co → Gs
  | .opn g => fun k => S k ∨ k = g
  | _ => S
theorem post_le {S : Gs} {t : Co} {k : Nat} (h : S k) : post S t k := by
  cases t <;> first | exact h | exact .inl h
theorem post_mono {S S' : Gs} (h : ∀ k, S k → S' k) {t : Co} {k : Nat} (q : post S t k) : post S' t k := by
  cases t <;> first | exact h k q | exact q.elim (fun z => .inl (h k z)) .inr
def Co.okc : Co → Gs → Prop
  | .cls g, S => S g
  | .seq a b, S => a.okc S ∧ b.okc (post S a)
  | .alt a b, S => a.okc S ∧ b.okc S
  | .ne a, S => a.okc S
  | .star a _, S => a.okc S
  | _, _ => True
theorem okc_mono : ∀ {t : Co} {S S' : Gs}, (∀ k, S k → S' k) → t.okc S → t.okc S'
  | .cls g, S, S', h, q => h g q
  | .seq a b, S, S', h, q => ⟨okc_mono h q.1, okc_mono (fun k => post_mono h) q.2⟩
  | .alt a b, S, S', h, q => ⟨okc_mono h q.1, okc_mono h q.2⟩
  | .ne a, S, S', h, q => okc_mono (t := a) h q
  | .star a _, S, S', h, q => okc_mono (t := a) h q
  | .set _ _, _, _, _, _ | .opn _, _, _, _, _ | .fgt _ _, _, _, _, _ | .bit _ _, _, _, _, _ | .anc _, _, _, _, _ | .emp, _, _, _, _ => trivial
def okcL : List Co → Gs → Prop
  | [], _ => True
  | u :: us, S => u.okc S ∧ okcL us (post S u)
theorem okcL_mono : ∀ {us : List Co} {S S' : Gs}, (∀ k, S k → S' k) → okcL us S → okcL us S'
  | [], _, _, _, _ => trivial
  | u :: us, S, S', h, q => ⟨okc_mono h q.1, okcL_mono (fun k => post_mono h) q.2⟩
def rgS (g l : Nat) (S : Gs) : Option Rgs → Prop
  | none => True
  | some r => Rgs.fit g l r ∧ ∀ k, S k → ∃ v, r.1[k]? = some (some v)
theorem rgS_mono {g l : Nat} {S S' : Gs} (h : ∀ k, S k → S' k) : ∀ {r : Option Rgs}, rgS g l S' r → rgS g l S r
  | none, _ => trivial
  | some r, q => ⟨q.1, fun k hk => q.2 k (h k hk)⟩
theorem rgS_fit {g l : Nat} {S : Gs} : ∀ {r : Option Rgs}, rgS g l S r → rgFit g l r
  | none, _ => trivial
  | some r, q => q.1
/-- what is noted -/
theorem note_tyS {g l : Nat} {pos : Int} {t : Co} {S : Gs} {r : Option Rgs} (ht : t.fit g l) (hc : t.okc S) (hr : rgS g l S r) : ∃ q, noteO pos t r = some q ∧ rgS g l (post S t) q := by
  cases r with
  | none => exact ⟨none, rfl, trivial⟩
  | some r =>
    obtain ⟨hf, ho⟩ := hr
    have key : ∃ q, notedR pos t r = some q ∧ ∀ k, post S t k → ∃ v, q.1[k]? = some (some v) := by
      obtain ⟨o, h, m⟩ := r
      cases t with
      | opn j =>
        refine ⟨_, rfl, fun k hk => ?_⟩
        have hlen : o.length = g := hf.1
        have hj : j < g := ht
        by_cases e : k = j
        · subst e; exact ⟨pos, List.getElem?_set_self (by omega)⟩
        · obtain ⟨v, hv⟩ := ho k (hk.resolve_right e)
          exact ⟨v, by show (o.set j (some pos))[k]? = _; rw [List.getElem?_set_ne (Ne.symm e)]; exact hv⟩
      | cls j =>
        obtain ⟨st, hst⟩ := ho j hc
        exact ⟨_, notedR_cls hst, ho⟩
      | fgt gs ms => exact ⟨_, rfl, ho⟩
      | bit k b => cases b <;> exact ⟨_, rfl, ho⟩
      | _ => exact ⟨_, rfl, ho⟩
    obtain ⟨q, e, hq⟩ := key
    exact ⟨some q, by show (notedR pos t r).map some = _; rw [e]; rfl, notedR_fit hf e, hq⟩
theorem spl_totP {f : Option Rgs → Option (List Mv)} {P : Mv → Prop} : ∀ {ms : List Mv}, (∀ m ∈ ms, m.1 = none → ∃ y, f m.2 = some y ∧ ∀ z ∈ y, P z) → (∀ m ∈ ms, m.1 ≠ none → P m) → ∃ x, spl f ms = some x ∧ ∀ z ∈ x, P z
  | [], _, _ => ⟨[], rfl, fun _ h => by cases h⟩
  | (none, r) :: ms, h1, h2 => by
    obtain ⟨y, e1, p1⟩ := h1 _ List.mem_cons_self rfl
    obtain ⟨x, e2, p2⟩ := spl_totP (f := f) (P := P) (ms := ms) (fun m hm => h1 m (List.mem_cons_of_mem _ hm)) (fun m hm => h2 m (List.mem_cons_of_mem _ hm))
    refine ⟨y ++ x, ?_, fun z hz => ?_⟩
    · show (match f r, spl f ms with
        | some a, some b => some (a ++ b)
        | _, _ => none) = _
      rw [e2]
      have e1 : f r = some y := e1
      rw [e1]
    · rcases List.mem_append.mp hz with hz | hz
      · exact p1 z hz
      · exact p2 z hz
  | (some n, r) :: ms, h1, h2 => by
    obtain ⟨x, e2, p2⟩ := spl_totP (f := f) (P := P) (ms := ms) (fun m hm => h1 m (List.mem_cons_of_mem _ hm)) (fun m hm => h2 m (List.mem_cons_of_mem _ hm))
    refine ⟨(some n, r) :: x, ?_, fun z hz => ?_⟩
    · show (spl f ms).map _ = _
      rw [e2]; rfl
    · rcases List.mem_cons.mp hz with rfl | hz
      · exact h2 _ List.mem_cons_self (by simp)
      · exact p2 z hz
/-- where a thread stands: its set among those told, its registers fit to what is behind -/
def inT (T : List (Nat × List (Int × Int) × List Co)) (g l : Nat) (n : Nat) (r : Option Rgs) : Prop := ∃ p ∈ T, p.1 = n ∧ ∃ S, okcL p.2.2 S ∧ rgS g l S r
theorem inT_mono {T T' : List (Nat × List (Int × Int) × List Co)} (h : ∀ p ∈ T, p ∈ T') {g l n : Nat} {r : Option Rgs} : inT T g l n r → inT T' g l n r := fun ⟨p, hp, q⟩ => ⟨p, h p hp, q⟩
def mvTy (T : List (Nat × List (Int × Int) × List Co)) (g l : Nat) (S : Gs) (m : Mv) : Prop := (m.1 = none → rgS g l S m.2) ∧ ∀ n, m.1 = some n → inT T g l n m.2
theorem mv_tyS {g l : Nat} {s : Sp} : ∀ {t : Co} {bh : List Co} {S : Gs} {r : Option Rgs}, t.fit g l → okcL (t :: bh) S → rgS g l S r → ∃ x, mv s t r = some x ∧ ∀ m ∈ x, mvTy (collT t bh) g l (post S t) m
  | .set n ps, bh, S, r, hf, hc, hr => ⟨[(some n, r)], rfl, fun m hm => by
      rw [List.mem_singleton.mp hm]
      refine ⟨fun h => ?_, fun k hk => ?_⟩
      · cases h
      · cases hk; exact ⟨(n, ps, bh), List.mem_singleton.mpr rfl, rfl, S, hc.2, hr⟩⟩
  | .seq a b, bh, S, r, hf, hc, hr => by
    have hbh : okcL bh S := hc.2
    have hbh2 : okcL bh (post (post S a) b) := okcL_mono (fun k hk => post_le (post_le hk)) hbh
    obtain ⟨x, e1, p1⟩ := mv_tyS (t := a) (bh := b :: bh) hf.1 ⟨hc.1.1, hc.1.2, hbh2⟩ hr
    obtain ⟨y, e2, p2⟩ := spl_totP (f := mv s b) (P := mvTy (collT (.seq a b) bh) g l S) (ms := x) (fun m hm hn => by
      obtain ⟨z, e3, p3⟩ := mv_tyS (t := b) (bh := bh) (S := post S a) hf.2 ⟨hc.1.2, hbh2⟩ ((p1 m hm).1 hn)
      refine ⟨z, e3, fun q hq => ⟨fun h => rgS_mono (fun k hk => post_le (post_le hk)) ((p3 q hq).1 h), fun n h => inT_mono (fun p hp => List.mem_append_right _ hp) ((p3 q hq).2 n h)⟩⟩) (fun m hm hn => ⟨fun h => absurd h hn, fun n h => inT_mono (fun p hp => List.mem_append_left _ hp) ((p1 m hm).2 n h)⟩)
    refine ⟨foe [] y, ?_, fun m hm => p2 m (foe_mem hm)⟩
    show ((mv s a r).bind (spl (mv s b))).map (foe []) = _
    rw [e1]
    show (spl (mv s b) x).map (foe []) = _
    rw [e2]; rfl
  | .alt a b, bh, S, r, hf, hc, hr => by
    have hbh : okcL bh S := hc.2
    obtain ⟨x, e1, p1⟩ := mv_tyS (t := a) (bh := bh) hf.1 ⟨hc.1.1, okcL_mono (fun k hk => post_le hk) hbh⟩ hr
    obtain ⟨y, e2, p2⟩ := mv_tyS (t := b) (bh := bh) hf.2 ⟨hc.1.2, okcL_mono (fun k hk => post_le hk) hbh⟩ hr
    refine ⟨foe [] (x ++ y), ?_, fun m hm => ?_⟩
    · show (match mv s a r, mv s b r with
        | some x, some y => some (foe [] (x ++ y))
        | _, _ => none) = _
      rw [e1, e2]
    · rcases List.mem_append.mp (foe_mem hm) with hm | hm
      · exact ⟨fun h => rgS_mono (fun k hk => post_le hk) ((p1 m hm).1 h), fun n h => inT_mono (fun p hp => List.mem_append_left _ hp) ((p1 m hm).2 n h)⟩
      · exact ⟨fun h => rgS_mono (fun k hk => post_le hk) ((p2 m hm).1 h), fun n h => inT_mono (fun p hp => List.mem_append_right _ hp) ((p2 m hm).2 n h)⟩
  | .ne a, bh, S, r, hf, hc, hr => by
    have hbh : okcL bh S := hc.2
    obtain ⟨x, e1, p1⟩ := mv_tyS (t := a) (bh := bh) hf ⟨hc.1, okcL_mono (fun k hk => post_le hk) hbh⟩ hr
    refine ⟨tks x, by show (mv s a r).map tks = _; rw [e1]; rfl, fun m hm => ?_⟩
    have hs : m.1.isSome = true := (List.mem_filter.mp hm).2
    exact ⟨fun h => by simp [h] at hs, (p1 m (tks_mem hm)).2⟩
  | .star a gr, bh, S, r, hf, hc, hr => by
    have hbh : okcL bh S := hc.2
    have hst : (Co.star a gr).okc S := hc.1
    obtain ⟨x, e1, p1⟩ := mv_tyS (t := a) (bh := .star a gr :: bh) hf ⟨hc.1, okc_mono (fun k hk => post_le hk) hst, okcL_mono (fun k hk => post_le (post_le hk)) hbh⟩ hr
    have ht : ∀ m ∈ tks x, mvTy (collT (.star a gr) bh) g l S m := fun m hm => by
      have hs : m.1.isSome = true := (List.mem_filter.mp hm).2
      exact ⟨fun h => by simp [h] at hs, (p1 m (tks_mem hm)).2⟩
    have he : mvTy (collT (.star a gr) bh) g l S (none, r) := ⟨fun _ => hr, fun n h => by cases h⟩
    refine ⟨if gr then tks x ++ [(none, r)] else (none, r) :: tks x, by show (mv s a r).map _ = _; rw [e1]; rfl, fun m hm => ?_⟩
    cases gr with
    | true =>
      rcases List.mem_append.mp hm with hm | hm
      · exact ht m hm
      · rw [List.mem_singleton.mp hm]; exact he
    | false =>
      rcases List.mem_cons.mp hm with rfl | hm
      · exact he
      · exact ht m hm
  | .opn j, bh, S, r, hf, hc, hr => by
    obtain ⟨q, e, hq⟩ := note_tyS (pos := s.pos) hf hc.1 hr
    refine ⟨[(none, q)], by unfold mv; rw [e]; rfl, fun m hm => ?_⟩
    rw [List.mem_singleton.mp hm]
    exact ⟨fun _ => hq, fun n h => by cases h⟩
  | .cls j, bh, S, r, hf, hc, hr => by
    obtain ⟨q, e, hq⟩ := note_tyS (pos := s.pos) hf hc.1 hr
    refine ⟨[(none, q)], by unfold mv; rw [e]; rfl, fun m hm => ?_⟩
    rw [List.mem_singleton.mp hm]
    exact ⟨fun _ => hq, fun n h => by cases h⟩
  | .fgt gs ms, bh, S, r, hf, hc, hr => by
    obtain ⟨q, e, hq⟩ := note_tyS (pos := s.pos) hf hc.1 hr
    refine ⟨[(none, q)], by unfold mv; rw [e]; rfl, fun m hm => ?_⟩
    rw [List.mem_singleton.mp hm]
    exact ⟨fun _ => hq, fun n h => by cases h⟩
  | .bit j b, bh, S, r, hf, hc, hr => by
    obtain ⟨q, e, hq⟩ := note_tyS (pos := s.pos) hf hc.1 hr
    by_cases hp : passB s (.bit j b) = true
    · refine ⟨[(none, q)], by unfold mv; rw [if_pos hp, e]; rfl, fun m hm => ?_⟩
      rw [List.mem_singleton.mp hm]
      exact ⟨fun _ => hq, fun n h => by cases h⟩
    · exact ⟨[], by unfold mv; rw [if_neg hp], fun m hm => by cases hm⟩
  | .anc j, bh, S, r, hf, hc, hr => by
    obtain ⟨q, e, hq⟩ := note_tyS (pos := s.pos) hf hc.1 hr
    by_cases hp : passB s (.anc j) = true
    · refine ⟨[(none, q)], by unfold mv; rw [if_pos hp, e]; rfl, fun m hm => ?_⟩
      rw [List.mem_singleton.mp hm]
      exact ⟨fun _ => hq, fun n h => by cases h⟩
    · exact ⟨[], by unfold mv; rw [if_neg hp], fun m hm => by cases hm⟩
  | .emp, bh, S, r, hf, hc, hr => by
    obtain ⟨q, e, hq⟩ := note_tyS (pos := s.pos) (t := .emp) hf hc.1 hr
    refine ⟨[(none, q)], by unfold mv; rw [e]; rfl, fun m hm => ?_⟩
    rw [List.mem_singleton.mp hm]
    exact ⟨fun _ => hq, fun n h => by cases h⟩
/-- what stands behind a set leads to sets that are told -/
def closL (T : List (Nat × List (Int × Int) × List Co)) : List Co → Prop
  | [] => True
  | u :: us => (∀ p ∈ collT u us, p ∈ T) ∧ closL T us
theorem coll_clos {T : List (Nat × List (Int × Int) × List Co)} : ∀ {t : Co} {bh : List Co}, closL T bh → (∀ p ∈ collT t bh, p ∈ T) → ∀ p ∈ collT t bh, closL T p.2.2
  | .set n ps, bh, hb, ht, p, hp => by rw [List.mem_singleton.mp hp]; exact hb
  | .seq a b, bh, hb, ht, p, hp => by
    have h1 : ∀ p ∈ collT b bh, p ∈ T := fun p hp => ht p (List.mem_append_right _ hp)
    rcases List.mem_append.mp hp with hp | hp
    · exact coll_clos (t := a) (bh := b :: bh) ⟨h1, hb⟩ (fun p hp => ht p (List.mem_append_left _ hp)) p hp
    · exact coll_clos (t := b) hb h1 p hp
  | .alt a b, bh, hb, ht, p, hp => by
    rcases List.mem_append.mp hp with hp | hp
    · exact coll_clos (t := a) hb (fun p hp => ht p (List.mem_append_left _ hp)) p hp
    · exact coll_clos (t := b) hb (fun p hp => ht p (List.mem_append_right _ hp)) p hp
  | .ne a, bh, hb, ht, p, hp => coll_clos (t := a) hb ht p hp
  | .star a g, bh, hb, ht, p, hp => coll_clos (t := a) (bh := .star a g :: bh) ⟨ht, hb⟩ ht p hp
  | .opn _, _, _, _, p, hp | .cls _, _, _, _, p, hp | .fgt _ _, _, _, _, p, hp | .bit _ _, _, _, _, p, hp | .anc _, _, _, _, p, hp | .emp, _, _, _, p, hp => by cases hp
theorem mvR_ty {g l : Nat} {s : Sp} {T : List (Nat × List (Int × Int) × List Co)} : ∀ {bh : List Co} {S : Gs} {ms : List Mv}, (∀ u ∈ bh, u.fit g l) → okcL bh S → closL T bh → (∀ m ∈ ms, mvTy T g l S m) → ∃ x S', mvR s bh ms = some x ∧ ∀ m ∈ x, mvTy T g l S' m
  | [], S, ms, _, _, _, h => ⟨ms, S, rfl, h⟩
  | u :: us, S, ms, hf, hc, hcl, h => by
    obtain ⟨y, e1, p1⟩ := spl_totP (f := mv s u) (P := mvTy T g l (post S u)) (ms := ms) (fun m hm hn => by
      obtain ⟨z, e3, p3⟩ := mv_tyS (t := u) (bh := us) (hf u List.mem_cons_self) hc ((h m hm).1 hn)
      exact ⟨z, e3, fun q hq => ⟨(p3 q hq).1, fun n hn => inT_mono hcl.1 ((p3 q hq).2 n hn)⟩⟩) (fun m hm hn => ⟨fun z => absurd z hn, (h m hm).2⟩)
    obtain ⟨x, S', e2, p2⟩ := mvR_ty (bh := us) (S := post S u) (ms := foe [] y) (fun v hv => hf v (List.mem_cons_of_mem _ hv)) hc.2 hcl.2 (fun m hm => p1 m (foe_mem hm))
    refine ⟨x, S', ?_, p2⟩
    unfold mvR
    rw [e1]
    exact e2
/-- the sets of a numbered core -/
theorem nb_at : ∀ {t : Co} {n : Nat} {bh : List Co}, n + (collT (t.nb n).1 bh).length = (t.nb n).2 ∧ ∀ i p, (collT (t.nb n).1 bh)[i]? = some p → p.1 = n + i
  | .set m ps, n, bh => ⟨rfl, fun i p h => by
      cases i with
      | zero => cases h; rfl
      | succ i => cases h⟩
  | .seq a b, n, bh => by
    obtain ⟨h1, h2⟩ := nb_at (t := a) (n := n) (bh := (b.nb (a.nb n).2).1 :: bh)
    obtain ⟨h3, h4⟩ := nb_at (t := b) (n := (a.nb n).2) (bh := bh)
    refine ⟨?_, fun i p h => ?_⟩
    · show n + (collT (a.nb n).1 ((b.nb (a.nb n).2).1 :: bh) ++ collT (b.nb (a.nb n).2).1 bh).length = (b.nb (a.nb n).2).2
      rw [List.length_append]; omega
    · have h : (collT (a.nb n).1 ((b.nb (a.nb n).2).1 :: bh) ++ collT (b.nb (a.nb n).2).1 bh)[i]? = some p := h
      by_cases hi : i < (collT (a.nb n).1 ((b.nb (a.nb n).2).1 :: bh)).length
      · rw [List.getElem?_append_left hi] at h; exact h2 i p h
      · rw [List.getElem?_append_right (by omega)] at h
        have := h4 _ p h
        omega
  | .alt a b, n, bh => by
    obtain ⟨h1, h2⟩ := nb_at (t := a) (n := n) (bh := bh)
    obtain ⟨h3, h4⟩ := nb_at (t := b) (n := (a.nb n).2) (bh := bh)
    refine ⟨?_, fun i p h => ?_⟩
    · show n + (collT (a.nb n).1 bh ++ collT (b.nb (a.nb n).2).1 bh).length = (b.nb (a.nb n).2).2
      rw [List.length_append]; omega
    · have h : (collT (a.nb n).1 bh ++ collT (b.nb (a.nb n).2).1 bh)[i]? = some p := h
      by_cases hi : i < (collT (a.nb n).1 bh).length
      · rw [List.getElem?_append_left hi] at h; exact h2 i p h
      · rw [List.getElem?_append_right (by omega)] at h
        have := h4 _ p h
        omega
  | .ne a, n, bh => nb_at (t := a) (n := n) (bh := bh)
  | .star a g, n, bh => nb_at (t := a) (n := n) (bh := (Co.star (a.nb n).1 g) :: bh)
  | .opn _, n, bh | .cls _, n, bh | .fgt _ _, n, bh | .bit _ _, n, bh | .anc _, n, bh | .emp, n, bh => ⟨rfl, fun i p h => by cases h⟩
theorem nb_numb : ∀ {t : Co} {n : Nat}, (t.nb n).1.numb (t.nb n).2 ∧ n ≤ (t.nb n).2
  | .set m ps, n => ⟨Nat.lt_succ_self n, Nat.le_succ n⟩
  | .seq a b, n => by
    obtain ⟨h1, h2⟩ := nb_numb (t := a) (n := n)
    obtain ⟨h3, h4⟩ := nb_numb (t := b) (n := (a.nb n).2)
    exact ⟨⟨numb_mono h4 h1, h3⟩, Nat.le_trans h2 h4⟩
  | .alt a b, n => by
    obtain ⟨h1, h2⟩ := nb_numb (t := a) (n := n)
    obtain ⟨h3, h4⟩ := nb_numb (t := b) (n := (a.nb n).2)
    exact ⟨⟨numb_mono h4 h1, h3⟩, Nat.le_trans h2 h4⟩
  | .ne a, n => nb_numb (t := a)
  | .star a g, n => nb_numb (t := a)
  | .opn _, n | .cls _, n | .fgt _ _, n | .bit _ _, n | .anc _, n | .emp, n => ⟨trivial, Nat.le_refl _⟩
/-- all that a core of a pattern has -/
structure CoreOk (g l : Nat) (c : Co) : Prop where
  fit : c.fit g l
  okc : ∀ S, c.okc S
  num : c.numb (collT c []).length
  idx : ∀ (i : Nat) (p : Nat × List (Int × Int) × List Co), (collT c [])[i]? = some p → p.1 = i
theorem nb_fit {g l : Nat} : ∀ {t : Co} {n : Nat}, t.fit g l → (t.nb n).1.fit g l
  | .seq a b, n, h => ⟨nb_fit (t := a) h.1, nb_fit (t := b) h.2⟩
  | .alt a b, n, h => ⟨nb_fit (t := a) h.1, nb_fit (t := b) h.2⟩
  | .ne a, n, h => nb_fit (t := a) h
  | .star a g, n, h => nb_fit (t := a) h
  | .opn _, _, h | .cls _, _, h | .fgt _ _, _, h | .bit _ _, _, h => h
  | .set _ _, _, _ | .anc _, _, _ | .emp, _, _ => trivial
theorem nb_post {S : Gs} {t : Co} {n : Nat} : post S (t.nb n).1 = post S t := by cases t <;> rfl
theorem nb_okc : ∀ {t : Co} {n : Nat} {S : Gs}, t.okc S → (t.nb n).1.okc S
  | .seq a b, n, S, h => ⟨nb_okc (t := a) h.1, by rw [nb_post]; exact nb_okc (t := b) h.2⟩
  | .alt a b, n, S, h => ⟨nb_okc (t := a) h.1, nb_okc (t := b) h.2⟩
  | .ne a, n, S, h => nb_okc (t := a) h
  | .star a g, n, S, h => nb_okc (t := a) h
  | .cls _, _, _, h => h
  | .set _ _, _, _, _ | .opn _, _, _, _ | .fgt _ _, _, _, _ | .bit _ _, _, _, _ | .anc _, _, _, _ | .emp, _, _, _ => trivial
theorem nb_ok {g l : Nat} {t : Co} (h1 : t.fit g l) (h2 : ∀ S, t.okc S) : CoreOk g l (t.nb 0).1 := by
  obtain ⟨e1, e2⟩ := nb_at (t := t) (n := 0) (bh := [])
  refine ⟨nb_fit h1, fun S => nb_okc (h2 S), ?_, fun i p h => by have := e2 i p h; omega⟩
  have := (nb_numb (t := t) (n := 0)).1
  rw [show (collT (t.nb 0).1 []).length = (t.nb 0).2 by omega]
  exact this
theorem seqN_okc {it c : Co} (h1 : ∀ S, it.okc S) (h2 : ∀ S, c.okc S) : ∀ {n : Nat} (S : Gs), (seqN it n c).okc S
  | 0, S => h2 S
  | n + 1, S => ⟨h1 S, seqN_okc h1 h2 _⟩
theorem optN_okc {it : Co} {g : Bool} (h1 : ∀ S, it.okc S) : ∀ {n : Nat} (S : Gs), (optN it g n).okc S
  | 0, S => trivial
  | n + 1, S => by
    cases g with
    | false => exact ⟨trivial, h1 S, optN_okc h1 _⟩
    | true => exact ⟨⟨h1 S, optN_okc h1 _⟩, trivial⟩
theorem un_okc {b : Bool} : ∀ {t : Pt} (S : Gs), (t.un b).okc S
  | .seq x y, S => by
    show (if b then Co.seq (y.un b) (x.un b) else .seq (x.un b) (y.un b)).okc S
    split
    · exact ⟨un_okc (t := y) _, un_okc (t := x) _⟩
    · exact ⟨un_okc (t := x) _, un_okc (t := y) _⟩
  | .alt x y, S => ⟨un_okc (t := x) _, un_okc (t := y) _⟩
  | .rep t lo hi g, S => by
    have hi1 : ∀ S, (Co.seq t.fgt (t.un b)).okc S := fun S => ⟨trivial, un_okc (t := t) _⟩
    show (repCo _ lo hi g).okc S
    unfold repCo
    cases hi with
    | none => exact seqN_okc (c := .star (.seq t.fgt (t.un b)) g) hi1 hi1 S
    | some k => exact seqN_okc hi1 (optN_okc hi1) S
  | .grp n t, S => ⟨trivial, un_okc (t := t) _, post_le (show (S n ∨ n = n) from .inr rfl)⟩
  | .look a true t (some k), S => ⟨trivial, trivial⟩
  | .look a false t (some k), S => trivial
  | .look a p t none, S => trivial
  | .set _, _ | .anchor _, _ | .empty, _ => trivial
theorem seqN_fit {g l : Nat} {it c : Co} (h1 : it.fit g l) (h2 : c.fit g l) : ∀ {n : Nat}, (seqN it n c).fit g l
  | 0 => h2
  | n + 1 => ⟨h1, seqN_fit h1 h2⟩
theorem optN_fit {g l : Nat} {it : Co} {z : Bool} (h1 : it.fit g l) : ∀ {n : Nat}, (optN it z n).fit g l
  | 0 => trivial
  | n + 1 => by
    cases z with
    | false => exact ⟨trivial, h1, optN_fit h1⟩
    | true => exact ⟨⟨h1, optN_fit h1⟩, trivial⟩
/-- the numbers of a tree's groups and looks -/
def Pt.fitP (g l : Nat) (t : Pt) : Prop := (∀ k ∈ t.grps, k < g) ∧ ∀ u ∈ t.lks, u.lnum < l
theorem fgt_fit {g l : Nat} {t : Pt} (h : t.fitP g l) : t.fgt.fit g l := ⟨h.1, fun k hk => by
  obtain ⟨u, hu, rfl⟩ := List.mem_map.mp hk
  exact h.2 u hu⟩
theorem un_fit {g l : Nat} {b : Bool} : ∀ {t : Pt}, t.fitP g l → (t.un b).fit g l
  | .seq x y, h => by
    have hx : x.fitP g l := ⟨fun k hk => h.1 k (List.mem_append_left _ hk), fun k hk => h.2 k (List.mem_append_left _ hk)⟩
    have hy : y.fitP g l := ⟨fun k hk => h.1 k (List.mem_append_right _ hk), fun k hk => h.2 k (List.mem_append_right _ hk)⟩
    show (if b then Co.seq (y.un b) (x.un b) else .seq (x.un b) (y.un b)).fit g l
    split
    · exact ⟨un_fit hy, un_fit hx⟩
    · exact ⟨un_fit hx, un_fit hy⟩
  | .alt x y, h => by
    have hx : x.fitP g l := ⟨fun k hk => h.1 k (List.mem_append_left _ hk), fun k hk => h.2 k (List.mem_append_left _ hk)⟩
    have hy : y.fitP g l := ⟨fun k hk => h.1 k (List.mem_append_right _ hk), fun k hk => h.2 k (List.mem_append_right _ hk)⟩
    exact ⟨un_fit hx, un_fit hy⟩
  | .rep t lo hi z, h => by
    have ht : t.fitP g l := h
    have hi1 : (Co.seq t.fgt (t.un b)).fit g l := ⟨fgt_fit ht, un_fit ht⟩
    show (repCo _ lo hi z).fit g l
    unfold repCo
    cases hi with
    | none => exact seqN_fit (c := .star (.seq t.fgt (t.un b)) z) hi1 hi1
    | some k => exact seqN_fit hi1 (optN_fit hi1)
  | .grp n t, h => by
    have ht : t.fitP g l := ⟨fun k hk => h.1 k (List.mem_cons_of_mem _ hk), h.2⟩
    have hn : n < g := h.1 n List.mem_cons_self
    exact ⟨hn, un_fit ht, hn⟩
  | .look a true t (some k), h => by
    have ht : t.fitP g l := ⟨h.1, fun u hu => h.2 u (List.mem_append_left _ hu)⟩
    have hk : k < l := h.2 (.look a true t (some k)) (List.mem_append_right _ (List.mem_singleton.mpr rfl))
    exact ⟨fgt_fit ht, hk⟩
  | .look a false t (some k), h => h.2 (.look a false t (some k)) (List.mem_append_right _ (List.mem_singleton.mpr rfl))
  | .look a p t none, h => trivial
  | .set _, _ | .anchor _, _ | .empty, _ => trivial
/-- looks are numbered one behind another -/
theorem mark_num : ∀ {t : Pt} {n : Nat}, (t.mark n).2 = n + t.lks.length ∧ (t.mark n).1.lks.length = t.lks.length ∧ ∀ u ∈ (t.mark n).1.lks, n ≤ u.lnum ∧ u.lnum < n + t.lks.length
  | .seq a b, n => by
    obtain ⟨h1, h2, h3⟩ := mark_num (t := a) (n := n)
    obtain ⟨h4, h5, h6⟩ := mark_num (t := b) (n := (a.mark n).2)
    refine ⟨by show (b.mark (a.mark n).2).2 = n + (a.lks ++ b.lks).length; rw [List.length_append]; omega, by show ((a.mark n).1.lks ++ (b.mark (a.mark n).2).1.lks).length = (a.lks ++ b.lks).length; rw [List.length_append, List.length_append]; omega, fun u hu => ?_⟩
    show n ≤ u.lnum ∧ u.lnum < n + (a.lks ++ b.lks).length
    rw [List.length_append]
    rcases List.mem_append.mp hu with hu | hu
    · have := h3 u hu; omega
    · have := h6 u hu; omega
  | .alt a b, n => by
    obtain ⟨h1, h2, h3⟩ := mark_num (t := a) (n := n)
    obtain ⟨h4, h5, h6⟩ := mark_num (t := b) (n := (a.mark n).2)
    refine ⟨by show (b.mark (a.mark n).2).2 = n + (a.lks ++ b.lks).length; rw [List.length_append]; omega, by show ((a.mark n).1.lks ++ (b.mark (a.mark n).2).1.lks).length = (a.lks ++ b.lks).length; rw [List.length_append, List.length_append]; omega, fun u hu => ?_⟩
    show n ≤ u.lnum ∧ u.lnum < n + (a.lks ++ b.lks).length
    rw [List.length_append]
    rcases List.mem_append.mp hu with hu | hu
    · have := h3 u hu; omega
    · have := h6 u hu; omega
  | .rep t _ _ _, n => mark_num (t := t)
  | .grp _ t, n => mark_num (t := t)
  | .look a p t _, n => by
    obtain ⟨h1, h2, h3⟩ := mark_num (t := t) (n := n)
    refine ⟨by show (t.mark n).2 + 1 = n + (t.lks ++ [_]).length; rw [List.length_append, List.length_singleton]; omega, by show ((t.mark n).1.lks ++ [_]).length = (t.lks ++ [_]).length; rw [List.length_append, List.length_append, h2]; rfl, fun u hu => ?_⟩
    show n ≤ u.lnum ∧ u.lnum < n + (t.lks ++ [_]).length
    rw [List.length_append, List.length_singleton]
    rcases List.mem_append.mp hu with hu | hu
    · have := h3 u hu; omega
    · rw [List.mem_singleton.mp hu]
      show n ≤ (t.mark n).2 ∧ (t.mark n).2 < _
      omega
  | .set _, n | .empty, n | .anchor _, n => ⟨rfl, rfl, fun u hu => by cases hu⟩
theorem whole_fit {t : Pt} {g : Nat} (h : t.grps = rgN 0 g) : t.whole.fitP g t.lks.length := by
  refine ⟨fun k hk => ?_, fun u hu => ?_⟩
  · rw [Pt.whole, mark_grps, h, rgN, List.mem_range'] at hk
    obtain ⟨i, hi, e⟩ := hk
    omega
  · have := (mark_num (t := t) (n := 0)).2.2 u hu
    omega
theorem whole_ok {t : Pt} {g : Nat} {b : Bool} (h : t.grps = rgN 0 g) : CoreOk g t.lks.length (t.whole.core b) := nb_ok (un_fit (whole_fit h)) un_okc

/-! def 493: begun; slots 0:threads 1:candidate 2:position 3:registers; calls []; consts []; built-ins ['list'] -/
abbrev c493_2 : CSs := .cons (.ret (.bin .add (.var 0) (.lst false (.cons (.tup (.cons (.var 2) (.cons .non (.cons (.var 3) .nil)))) .nil)))) .nil
abbrev c493_1 : CSs := .cons (.ret (.blt .list (.cons (.var 0) .nil))) .nil
abbrev c493 : CSs := .cons (.ifs (.cmp .isN (.var 1) .non) c493_2 .nil) c493_1
def sp493 : SpD := fun ds M Q _ => ∃ (c cand : D) (ths : List Th) (p : Int) (r : Option Rgs), ds = [c, cand, .int p, rgD r] ∧ lstOf c M = some (ths.map thD) ∧ ths.length < 1000000 ∧ Q (.lst ((if isNon cand then ths ++ [(p, none, r)] else ths).map thD)) M
theorem ln493 : ∀ ds M Q E, sp493 ds M Q E → ds.length = 4 := by
  rintro _ _ _ _ ⟨_, _, _, _, _, rfl, _⟩; rfl
theorem rd493 {Φ : Nat → SpD} {κ : Nat → D} : RdOk Φ κ c493 4 (sp493) := by
  rintro ds M Q E hM hd ⟨c, cand, ths, p, r, rfl, hc, hl, hQ⟩
  walk_at "go"
  refine iteI (fun h => ?_) fun h => ?_
  · rw [if_pos h] at hQ
    walk_at "go"
    rw [add_l hc]
    refine ⟨by rw [size_eq, List.length_map]; simp; omega, ?_⟩
    rw [List.map_append] at hQ
    exact .keep hQ
  · rw [if_neg h] at hQ
    walk_at "go"
    rw [list_l hc]
    exact .keep hQ

/-! def 228: taken_code; slots 0:core 1:spot; calls []; consts []; built-ins [] -/
abbrev c228_2 : CSs := .cons (.ret (.fld "Spot" (.var 1) "before")) .nil
abbrev c228_1 : CSs := .cons (.ret (.fld "Spot" (.var 1) "after")) .nil
abbrev c228 : CSs := .cons (.ifs (.fld "Core" (.var 0) "backward") c228_2 .nil) c228_1
def sp228 : SpD := fun ds M Q _ => ∃ (t : Co) (b : Bool) (s : Sp), ds = [coreV t b, spotD s] ∧ Q (oD (if b then s.bf else s.af)) M
theorem ln228 : ∀ ds M Q E, sp228 ds M Q E → ds.length = 2 := by
  rintro _ _ _ _ ⟨_, _, _, rfl, _⟩; rfl
theorem rd228 {Φ : Nat → SpD} {κ : Nat → D} : RdOk Φ κ c228 2 (sp228) := by
  rintro ds M Q E hM hd ⟨t, b, s, rfl, hQ⟩
  rw [coreV_eq, spotD_eq]
  walk_at "go"
  cases b
  · walk_at "go"; exact .keep hQ
  · walk_at "go"; exact .keep hQ

/-! def 494: advanced; slots 0:core 1:threads 2:candidate 3:spot 4:code 5:following 6:numbers 7:start 8:last 9:registers 10:number 11:noted; calls [('taken_code', 228), ('moves', 227), ('contains', 13)]; consts []; built-ins [] -/
abbrev c494_8 : CSs := .cons (.ret (.tup (.cons (.var 5) (.cons (.tup (.cons (.var 7) (.cons (.fld "Spot" (.var 3) "position") (.cons (.var 11) .nil)))) .nil)))) .nil
abbrev c494_10 : CSs := .cons (.expr (.mth .append (.var 5) (.cons (.tup (.cons (.var 7) (.cons (.var 10) (.cons (.var 11) .nil)))) .nil))) .nil
abbrev c494_9 : CSs := .cons (.setIx (.var 6) (.var 10) (.bl true)) c494_10
abbrev c494_7 : CSs := .cons (.ifs (.and (.cmp .nin (.var 10) (.var 6)) (.and (.cmp .notN (.var 4) .non) (.call 13 (.cons (.idx (.fld "Core" (.var 0) "sets") (.var 10)) (.cons (.var 4) .nil))))) c494_9 .nil) .nil
abbrev c494_6 : CSs := .cons (.ifs (.cmp .isN (.var 10) .non) c494_8 .nil) c494_7
abbrev c494_5 : CSs := .cons (.fors (.tp [10, 11]) (.seq (.call 227 (.cons (.var 0) (.cons (.var 8) (.cons (.var 3) (.cons (.var 9) .nil)))))) c494_6) .nil
abbrev c494_4 : CSs := .cons (.ret (.tup (.cons (.var 5) (.cons (.var 2) .nil)))) .nil
abbrev c494_3 : CSs := .cons (.fors (.tp [7, 8, 9]) (.seq (.var 1)) c494_5) c494_4
abbrev c494_2 : CSs := .cons (.set 6 .dnew) c494_3
abbrev c494_1 : CSs := .cons (.set 5 (.lst true .nil)) c494_2
abbrev c494 : CSs := .cons (.set 4 (.call 228 (.cons (.var 0) (.cons (.var 3) .nil)))) c494_1
def sp494 : SpD := fun ds M Q _ => ∃ (t : Co) (b : Bool) (c cand : D) (ths : List Th) (s : Sp) (g l : Nat) (res : List Th × Option (Int × Int × Option Rgs)), ds = [coreV t b, c, cand, spotD s] ∧ seqOf c M = some (ths.map thD) ∧ noRef cand = true ∧ t.ht < 60 ∧ t.fit g l ∧ t.numb (collT t []).length ∧ s.bits.length = l ∧ thsFit g l ths ∧ g < 1000 ∧ l < 1000 ∧ t.sz ≤ 10000 ∧ stT s t (if b then s.bf else s.af) ths [] [] = some res ∧ Q (.tup [.lst (res.1.map thD), endD cand res.2]) M
theorem ln494 : ∀ ds M Q E, sp494 ds M Q E → ds.length = 4 := by
  rintro _ _ _ _ ⟨_, _, _, _, _, _, _, _, _, rfl, _⟩; rfl
theorem rd494 {Φ : Nat → SpD} {κ : Nat → D} (h228 : Φ 228 = sp228) (h227 : Φ 227 = sp227) (h13 : Φ 13 = sp13) : RdOk Φ κ c494 12 (sp494) := by
  rintro ds M Q E hM hd ⟨t, b, c, cand, ths, s, g, l, res, rfl, hc, hcd, hh, hf, hnb, hb, hfit, hg, hl, hz, hres, hQ⟩
  walk_at "go"
  rw [h228]
  refine ⟨t, b, s, rfl, ?_⟩
  generalize hcode : (if b then s.bf else s.af) = code at hres
  have hcl := collT_len (t := t) (bh := [])
  walk_at "go"
  rw [walk_seq (seqOf_app hc)]
  refine for_any (M0 := M) [7, 8, 9, 10, 11] (fun rem js M' => ∃ (ns : List Nat) (out : List Th) (x7 x8 x9 x10 x11 : Option D), js = [x7, x8, x9, x10, x11] ∧ M' = M ++ [.lst (out.map thD), .dct (idct ns)] ∧ stT s t code rem ns out = some res ∧ stOk (collT t []).length ns out ∧ thsFit g l rem) hc ?_ ⟨[_, _, _, _, _], rfl, [], [], _, _, _, _, _, rfl, rfl, hres, stOk_nil, hfit⟩ ?_ ?_
  · rintro r js M' ⟨ns, out, _, _, _, _, _, rfl, rfl, _⟩; exact ⟨_, rfl⟩
  · rintro th r js M' nx ⟨ns, out, x7, x8, x9, x10, x11, rfl, rfl, h1, h2, h3⟩ hn
    rw [thD_eq]
    walk_at "go"
    unfold stT at h1
    split at h1
    · cases h1
    · next x hx =>
      rw [h227]
      refine ⟨t, b, th.2.1, s, th.2.2, g, l, x, rfl, hh, hf, hb, h3 th List.mem_cons_self, hg, hl, hz, hx, ?_⟩
      have hxn := mvs_nb hnb hx
      walk_at "go"
      refine for_list [10, 11] (fun rem js M' => ∃ (ns' : List Nat) (out' : List Th) (x10 x11 : Option D), js = [x10, x11] ∧ M ++ [.lst (out'.map thD), .dct (idct ns')] = M' ∧ stM t code th.1 rem ns' out' = stM t code th.1 x ns out ∧ stOk (collT t []).length ns' out' ∧ mvsNb (collT t []).length rem) ⟨[_, _], rfl, ns, out, _, _, rfl, rfl, rfl, h2, hxn⟩ ?_ ?_
      · rintro ⟨o, r2⟩ rm js M' nx2 ⟨ns', out', y10, y11, rfl, rfl, e1, e2, e3⟩ hn2
        have e3' : mvsNb (collT t []).length rm := fun z hz => e3 z (List.mem_cons_of_mem _ hz)
        rw [mvD_eq]
        cases o with
        | none =>
          rw [on_none]; walk_at "go"
          have e1' : (ns', out', some r2) = stM t code th.1 x ns out := e1
          rw [← e1'] at h1
          cases h1
          have hQ' : Q (.tup [.lst (out'.map thD), .tup [.int th.1, .int s.pos, rgD r2]]) M := hQ
          rw [spotD_eq]; walk_at "go"
          refine Fin.lstT rfl hM (by rw [at_new0]; rfl) (Nat.le_refl _) (nr_ths _) ?_ hQ'
          simp only [noRefs, noRef, nr_rg, Bool.and_self]
        | some n =>
          rw [on_some]; walk_at "go"
          rw [idct_val]
          have hn3 : n < (collT t []).length := e3 _ List.mem_cons_self n rfl
          obtain ⟨p, hp⟩ := collT_at hn3
          have hle := stOk_len e2
          by_cases hm : n ∈ ns'
          · rw [if_neg (by simp [hm])]
            refine hn2 [_, _] _ ⟨ns', out', _, _, rfl, rfl, ?_, e2, e3'⟩
            rw [← e1]; rw [stM_some, if_neg (by simp [hm])]
          · rw [if_pos (by simp [hm])]
            walk_at "go"
            cases code with
            | none =>
              walk_at "go"
              refine hn2 [_, _] _ ⟨ns', out', _, _, rfl, rfl, ?_, e2, e3'⟩
              rw [← e1]; rw [stM_some, if_neg (by simp [takesB])]
            | some cd =>
              walk_at "go"
              rw [coreV_eq]; walk_at "go"
              rw [atQ_at (f := fun p => cdD p.2.1) hp]
              walk_at "go"
              rw [h13]
              refine ⟨_, cd, p.2.1, rfl, rfl, ?_⟩
              have ht : takesB t (some cd) n = inP p.2.1 cd := by unfold takesB; rw [hp]
              walk_at "go"
              refine iteI (fun h => ?_) fun h => ?_
              · walk_at "go"
                rw [idct_put hm]
                refine ⟨by rw [idct_len, size_eq]; omega, ?_⟩
                walk_at "go"
                refine hn2 [_, _] _ ⟨ns' ++ [n], out' ++ [(th.1, some n, r2)], _, _, rfl, ?_, ?_, stOk_put e2 hm hn3, e3'⟩
                · rw [List.map_append]; rfl
                · rw [← e1, stM_some, if_pos ⟨hm, by rw [ht]; exact h⟩]
              · refine hn2 [_, _] _ ⟨ns', out', _, _, rfl, rfl, ?_, e2, e3'⟩
                rw [← e1]; rw [stM_some, if_neg (by simp [ht, h])]
      · rintro js M' ⟨ns', out', y10, y11, rfl, rfl, e1, e2, e3⟩
        have e1' : (ns', out', none) = stM t code th.1 x ns out := e1
        rw [← e1'] at h1
        walk_at "go"
        exact hn [_, _, _, _, _] _ ⟨ns', out', _, _, _, _, _, rfl, rfl, h1, e2, fun z hz => h3 z (List.mem_cons_of_mem _ hz)⟩
  · rintro js M' ⟨ns, out, x7, x8, x9, x10, x11, rfl, rfl, h1, h2, h3⟩
    cases h1
    walk_at "go"
    exact Fin.lstT rfl hM (by rw [at_new0]; rfl) (Nat.le_refl _) (nr_ths _) (by show noRefs [cand] = true; simp only [noRefs, hcd, Bool.and_self]) hQ

/-! def 531: _law_code; slots 0:_law_text_here 1:_law_index; calls []; consts []; built-ins ['len', 'ord'] -/
abbrev c531_2 : CSs := .cons (.ret (.blt .ord (.cons (.idx (.var 0) (.var 1)) .nil))) .nil
abbrev c531_1 : CSs := .cons (.ret .non) .nil
abbrev c531 : CSs := .cons (.ifs (.and (.cmp .le (.int 0) (.var 1)) (.cmp .lt (.var 1) (.blt .len (.cons (.var 0) .nil)))) c531_2 .nil) c531_1
theorem ord_at {cs : List Nat} {i c : Nat} {M : Md} {Q : QE} (hc : cs[i]? = some c) (hl : cs.length ≤ 1000000) (q : Q (.int c) M) : ixD (.str (tx cs)) (.int i) M fun d M1 => btD .ord [d] M1 Q := by
  refine ix_s (by rw [tx_len, size_eq]; omega) (atI_nat ?_) ⟨rfl, q⟩
  exact hc
/-- the code at a place, if there is one -/
def cdAt (cs : List Nat) (i : Int) : Option Int := if 0 ≤ i then (cs[i.toNat]?).map (fun c : Nat => (c : Int)) else none
theorem cdAt_in {cs : List Nat} {i c : Nat} (h : cs[i]? = some c) : cdAt cs i = some (c : Int) := by
  unfold cdAt
  rw [if_pos (by omega), show (i : Int).toNat = i by omega, h]; rfl
theorem cdAt_lt {cs : List Nat} {i : Int} (h : i < 0) : cdAt cs i = none := by
  unfold cdAt
  rw [if_neg (by omega)]
theorem cdAt_ge {cs : List Nat} {i : Int} (h : (cs.length : Int) ≤ i) : cdAt cs i = none := by
  unfold cdAt
  split
  · rw [List.getElem?_eq_none (by omega)]; rfl
  · rfl
def sp531 : SpD := fun ds M Q _ => ∃ (cs : List Nat) (i : Int), ds = [.str (tx cs), .int i] ∧ cs.length ≤ 1000000 ∧ Q (oD (cdAt cs i)) M
theorem ln531 : ∀ ds M Q E, sp531 ds M Q E → ds.length = 2 := by
  rintro _ _ _ _ ⟨_, _, rfl, _⟩; rfl
theorem rd531 {Φ : Nat → SpD} {κ : Nat → D} : RdOk Φ κ c531 2 (sp531) := by
  rintro ds M Q E hM hd ⟨cs, i, rfl, hl, hQ⟩
  walk_at "go"
  rw [tx_len]
  refine iteI (fun h => ?_) fun h => ?_
  · refine ⟨by rw [size_eq]; omega, ?_⟩
    refine iteI (fun h2 => ?_) fun h2 => ?_
    · obtain ⟨j, rfl⟩ : ∃ j : Nat, i = j := ⟨i.toNat, by omega⟩
      have hj : j < cs.length := by omega
      walk_at "go"
      refine ord_at (List.getElem?_eq_getElem hj) hl ?_
      rw [cdAt_in (List.getElem?_eq_getElem hj)] at hQ
      exact .keep hQ
    · walk_at "go"
      rw [cdAt_ge (by omega)] at hQ
      exact .keep hQ
  · walk_at "go"
    rw [cdAt_lt (by omega)] at hQ
    exact .keep hQ

/-! def 523: Spot.__init__; slots 0:self 1:position 2:before 3:after 4:bits; calls []; consts []; built-ins [] -/
abbrev c523_3 : CSs := .cons (.setFld "Spot" (.var 0) "bits" (.var 4)) .nil
abbrev c523_2 : CSs := .cons (.setFld "Spot" (.var 0) "after" (.var 3)) c523_3
abbrev c523_1 : CSs := .cons (.setFld "Spot" (.var 0) "before" (.var 2)) c523_2
abbrev c523 : CSs := .cons (.setFld "Spot" (.var 0) "position" (.var 1)) c523_1
def sp523 : SpD := fun ds M Q _ => ∃ (M0 : Md) (p b a bits : D), ds = [.ref M0.length, p, b, a, bits] ∧ M = M0 ++ [.ins "Spot" []] ∧ Q .non (M0 ++ [.ins "Spot" [("position", p), ("before", b), ("after", a), ("bits", bits)]])
theorem ln523 : ∀ ds M Q E, sp523 ds M Q E → ds.length = 5 := by
  rintro _ _ _ _ ⟨_, _, _, _, _, rfl, _⟩; rfl
theorem rd523 {Φ : Nat → SpD} {κ : Nat → D} : RdOk Φ κ c523 5 (sp523) := by
  rintro ds M Q E hM hd ⟨M0, p, b, a, bits, rfl, rfl, hQ⟩
  walk_at "go"
  exact .keep hQ

/-! def 527: View.__init__; slots 0:self 1:text 2:rows 3:row; calls []; consts []; built-ins ['list'] -/
abbrev c527_1 : CSs := .cons (.setFld "View" (.var 0) "rows" (.comp false (.blt .list (.cons (.var 3) .nil)) (.nm 3) (.seq (.var 2)) .none [3])) .nil
abbrev c527 : CSs := .cons (.setFld "View" (.var 0) "text" (.var 1)) c527_1
def sp527 : SpD := fun ds M Q _ => ∃ (M0 : Md) (s : Str) (c : D) (rws : List (D × List D)), ds = [.ref M0.length, .str s, c] ∧ M = M0 ++ [.ins "View" []] ∧ seqOf c M0 = some (rws.map (·.1)) ∧ (∀ p ∈ rws, lstOf p.1 M0 = some p.2 ∧ noRefs p.2 = true) ∧ rws.length < 1000000 ∧
  Q .non (M0 ++ [.ins "View" [("text", .str s), ("rows", .lst (rws.map fun p => .lst p.2))]])
theorem ln527 : ∀ ds M Q E, sp527 ds M Q E → ds.length = 3 := by
  rintro _ _ _ _ ⟨_, _, _, _, rfl, _⟩; rfl
theorem rd527 {Φ : Nat → SpD} {κ : Nat → D} : RdOk Φ κ c527 4 (sp527) := by
  rintro ds M Q E hM hd ⟨M0, s, c, rws, rfl, rfl, hc, hp, hl, hQ⟩
  walk_at "go"
  rw [walk_seq (seqOf_app hc)]
  refine comp_map (fun p : D × List D => p.1) (fun p => .lst p.2) (lk_seq (seqOf_app hc)) (by rw [size_eq]; omega) ?_ ?_
  · intro p hpm yes no hy
    walk_at "go"
    rw [list_l (lstOf_app (hp p hpm).1)]
    exact hy
  walk_at "go"
  refine Fin.init rfl hM ?_ hQ
  have h1 : noRefs (rws.map fun p => .lst p.2) = true := noRefs_map fun p hp' => (hp p hp').2
  simp only [List.map_cons, List.map_nil, noRefs, noRef, h1, Bool.and_self]

/-! def 1169: View.spot; slots 0:self 1:position 2:before 3:after 4:row; calls [('Spot.__init__', 523)]; consts []; built-ins ['ord', 'len', 'tuple'] -/
abbrev c1169_5 : CSs := .cons (.set 2 (.blt .ord (.cons (.idx (.fld "View" (.var 0) "text") (.bin .sub (.var 1) (.int 1))) .nil))) .nil
abbrev c1169_6 : CSs := .cons (.set 3 (.blt .ord (.cons (.idx (.fld "View" (.var 0) "text") (.var 1)) .nil))) .nil
abbrev c1169_4 : CSs := .cons (.ret (.make false 523 "Spot" (.cons (.var 1) (.cons (.var 2) (.cons (.var 3) (.cons (.blt .tuple (.cons (.comp false (.idx (.var 4) (.var 1)) (.nm 4) (.seq (.fld "View" (.var 0) "rows")) .none [4]) .nil)) .nil)))))) .nil
abbrev c1169_3 : CSs := .cons (.ifs (.cmp .lt (.var 1) (.blt .len (.cons (.fld "View" (.var 0) "text") .nil))) c1169_6 .nil) c1169_4
abbrev c1169_2 : CSs := .cons (.ifs (.cmp .gt (.var 1) (.int 0)) c1169_5 .nil) c1169_3
abbrev c1169_1 : CSs := .cons (.set 3 .non) c1169_2
abbrev c1169 : CSs := .cons (.set 2 .non) c1169_1
def viewD (cs : List Nat) (rows : List (List Bool)) : D := .obj "View" ["text", "rows"] [.str (tx cs), .lst (rows.map fun r => .lst (r.map .bl))]
theorem viewD_eq (cs : List Nat) (rows : List (List Bool)) : viewD cs rows = .obj "View" ["text", "rows"] [.str (tx cs), .lst (rows.map fun r => .lst (r.map .bl))] := rfl
def rwD (r : List Bool) : D := .lst (r.map .bl)
theorem rwD_eq (r : List Bool) : rwD r = .lst (r.map .bl) := rfl
def spotAt (cs : List Nat) (rows : List (List Bool)) (i : Nat) : Sp := ⟨i, cdAt cs ((i : Int) - 1), cdAt cs i, rows.map fun r => r.getD i false⟩
def sp1169 : SpD := fun ds M Q _ => ∃ (cs : List Nat) (rows : List (List Bool)) (i : Nat), ds = [viewD cs rows, .int i] ∧ i ≤ cs.length ∧ cs.length ≤ 1000000 ∧ (∀ r ∈ rows, i < r.length) ∧ rows.length < 1000 ∧ Q (spotD (spotAt cs rows i)) M
theorem ln1169 : ∀ ds M Q E, sp1169 ds M Q E → ds.length = 2 := by
  rintro _ _ _ _ ⟨_, _, _, rfl, _⟩; rfl
theorem rd1169 {Φ : Nat → SpD} {κ : Nat → D} (h523 : Φ 523 = sp523) : RdOk Φ κ c1169 5 (sp1169) := by
  rintro ds M Q E hM hd ⟨cs, rows, i, rfl, hi, hl, hr, hrl, hQ⟩
  rw [viewD_eq]
  walk_at "go"
  have rest2 : ∀ bf af : Option Int, cdAt cs ((i : Int) - 1) = bf → cdAt cs i = af → nxt Φ κ c1169_4 (fun x _ M => E x M) (endsD M.length Q) [some (viewD cs rows), some (.int i), some (oD bf), some (oD af), none] M := by
    intro bf af hbf haf
    rw [viewD_eq]
    walk_at "go"
    refine comp_map (fun r : List Bool => .lst (r.map .bl)) (fun r => .bl (r.getD i false)) trivial (by rw [size_eq]; omega) ?_ ?_
    · intro r hrm yes no hy
      have hir := hr r hrm
      walk_at "go"
      rw [atQ_at (f := D.bl) (List.getElem?_eq_getElem hir)]
      rw [List.getD_eq_getElem?_getD, List.getElem?_eq_getElem hir] at hy
      exact hy
    walk_at "go"
    rw [h523]
    refine ⟨_, .int i, oD bf, oD af, .tup (rows.map fun r => .bl (r.getD i false)), rfl, rfl, mkQ_of ?_ ?_⟩
    · intro p hp
      refine noRef_lt ?_
      simp only [List.mem_cons, List.not_mem_nil, or_false] at hp
      rcases hp with rfl | rfl | rfl | rfl
      · rfl
      · exact nr_oD _
      · exact nr_oD _
      · exact noRefs_map fun _ _ => rfl
    subst hbf haf
    rw [spotD_eq] at hQ
    rw [show (spotAt cs rows i).bits.map D.bl = rows.map fun r => .bl (r.getD i false) from List.map_map ..] at hQ
    exact .keep hQ
  have rest1 : ∀ bf : Option Int, cdAt cs ((i : Int) - 1) = bf → nxt Φ κ c1169_3 (fun x _ M => E x M) (endsD M.length Q) [some (viewD cs rows), some (.int i), some (oD bf), some .non, none] M := by
    intro bf hbf
    rw [viewD_eq]
    walk_at "go"
    rw [tx_len]
    refine iteI (fun h => ?_) fun h => ?_
    · have hj : i < cs.length := by omega
      walk_at "go"
      refine ord_at (List.getElem?_eq_getElem hj) hl ?_
      try walk_at "rd2"
      exact rest2 bf (some _) hbf (cdAt_in (List.getElem?_eq_getElem hj))
    · exact rest2 bf none hbf (cdAt_ge (by omega))
  refine iteI (fun h => ?_) fun h => ?_
  · have hj : i - 1 < cs.length := by omega
    walk_at "go"
    rw [show (i : Int) - 1 = ((i - 1 : Nat) : Int) by omega]
    refine ord_at (List.getElem?_eq_getElem hj) hl ?_
    try walk_at "rd2"
    refine rest1 (some _) ?_
    rw [show (i : Int) - 1 = ((i - 1 : Nat) : Int) by omega]
    exact cdAt_in (List.getElem?_eq_getElem hj)
  · exact rest1 none (cdAt_lt (by omega))

/-! runs -/
abbrev Cd := Int × Int × Option Rgs
structure RnS where
  th : List Th
  cand : Option Cd
  pos : Int
  beg : Bool
def cdO (o : Option Cd) : D := endD .non o
theorem cdO_none : cdO none = .non := rfl
theorem cdO_some (p : Cd) : cdO (some p) = .tup [.int p.1, .int p.2.1, rgD p.2.2] := rfl
theorem nr_cdO (o : Option Cd) : noRef (cdO o) = true := by
  cases o with
  | none => rfl
  | some p =>
    show noRefs [.int p.1, .int p.2.1, rgD p.2.2] = true
    simp only [noRefs, noRef, nr_rg, Bool.and_self]
theorem isNon_cd (o : Option Cd) : isNon (cdO o) = o.isNone := by cases o <;> rfl
def runF (c : Co) (b : Bool) (regs : Option Rgs) (renew : Bool) (x : RnS) : List (Str × D) := [("core", coreV c b), ("registers", rgD regs), ("position", .int x.pos), ("renewing", .bl renew), ("threads", .lst (x.th.map thD)), ("candidate", cdO x.cand), ("begins", .bl x.beg)]
def runO (c : Co) (b : Bool) (regs : Option Rgs) (renew : Bool) (x : RnS) : MO := .ins "Run" [("core", coreV c b), ("registers", rgD regs), ("position", .int x.pos), ("renewing", .bl renew), ("threads", .lst (x.th.map thD)), ("candidate", cdO x.cand), ("begins", .bl x.beg)]
theorem runO_eq {c : Co} {b : Bool} {regs : Option Rgs} {renew : Bool} {x : RnS} : runO c b regs renew x = .ins "Run" [("core", coreV c b), ("registers", rgD regs), ("position", .int x.pos), ("renewing", .bl renew), ("threads", .lst (x.th.map thD)), ("candidate", cdO x.cand), ("begins", .bl x.beg)] := rfl
def RnS.ths (x : RnS) (regs : Option Rgs) : List Th := if x.beg && x.cand.isNone then x.th ++ [(x.pos, none, regs)] else x.th
/-- the candidate behind a step -/
def nxCd (a : Option Cd) : Option Cd → Option Cd
  | none => a
  | some p => some p
theorem endD_nx {a r : Option Cd} : endD (cdO a) r = cdO (nxCd a r) := by cases r <;> rfl
/-- one step -/
def rnStep (c : Co) (b : Bool) (regs : Option Rgs) (renew : Bool) (s : Sp) (x : RnS) : Option RnS :=
  (stT s c (if b then s.bf else s.af) (x.ths regs) [] []).map fun r => ⟨r.1, nxCd x.cand r.2, if b then x.pos - 1 else x.pos + 1, renew⟩
def RnS.over (len : Nat) (x : RnS) : Bool := decide (x.pos < 0) || (decide (x.pos > len) || (x.th.isEmpty && (x.cand.isSome || !x.beg)))
def rnGo (c : Co) (b : Bool) (regs : Option Rgs) (renew : Bool) (sp : Nat → Sp) (len : Nat) : Nat → RnS → Option RnS
  | 0, x => some x
  | n + 1, x => if x.over len then some x else (rnStep c b regs renew (sp x.pos.toNat) x).bind (rnGo c b regs renew sp len n)
/-- bounds of a core -/
structure CoreB (c : Co) (g l : Nat) : Prop where
  ok : CoreOk g l c
  ht : c.ht < 60
  sz : c.sz ≤ 10000
  hg : g < 1000
  hl : l < 1000
def thOk (c : Co) (g l : Nat) (th : Th) : Prop := match th.2.1 with
  | none => rgFit g l th.2.2
  | some n => ∃ p, (collT c [])[n]? = some p ∧ ∃ S, okcL p.2.2 S ∧ rgS g l S th.2.2
theorem thOk_fit {c : Co} {g l : Nat} {th : Th} (h : thOk c g l th) : rgFit g l th.2.2 := by
  unfold thOk at h
  split at h
  · exact h
  · obtain ⟨p, _, S, _, h⟩ := h
    exact rgS_fit h
def cdFit (g l : Nat) : Option Cd → Prop
  | none => True
  | some p => rgFit g l p.2.2
structure RnOk (c : Co) (g l : Nat) (x : RnS) : Prop where
  th : ∀ t ∈ x.th, thOk c g l t
  len : x.th.length ≤ 10000
  cd : cdFit g l x.cand
theorem fit_S {g l : Nat} {r : Option Rgs} (h : rgFit g l r) : rgS g l (fun _ => False) r := by
  cases r with
  | none => trivial
  | some r => exact ⟨h, fun k hk => hk.elim⟩
theorem inT_th {c : Co} {g l n : Nat} {r : Option Rgs} {st : Int} (B : CoreOk g l c) (h : inT (collT c []) g l n r) : thOk c g l (st, some n, r) := by
  obtain ⟨p, hp, e, S, h1, h2⟩ := h
  obtain ⟨i, hi, hip⟩ := List.getElem_of_mem hp
  have hi' : (collT c [])[i]? = some p := by rw [List.getElem?_eq_getElem hi, hip]
  have := B.idx i p hi'
  have e2 : i = n := by omega
  subst e2
  exact ⟨p, hi', S, h1, h2⟩
theorem mvs_ty {c : Co} {g l : Nat} {s : Sp} {th : Th} (B : CoreB c g l) (h : thOk c g l th) : ∃ x, mvs s c th.2.1 th.2.2 = some x ∧ ∀ m ∈ x, (m.1 = none → rgFit g l m.2) ∧ ∀ n, m.1 = some n → inT (collT c []) g l n m.2 := by
  unfold thOk at h
  split at h
  · next e =>
    rw [e]
    obtain ⟨x, e1, p1⟩ := mv_tyS (s := s) (t := c) (bh := []) B.ok.fit ⟨B.ok.okc _, trivial⟩ (fit_S h)
    exact ⟨x, e1, fun m hm => ⟨fun hn => rgS_fit ((p1 m hm).1 hn), (p1 m hm).2⟩⟩
  · next n e =>
    rw [e]
    obtain ⟨p, hp, S, h1, h2⟩ := h
    rw [mvs_some hp]
    have hmem := List.mem_of_getElem? hp
    obtain ⟨x, S', e1, p1⟩ := mvR_ty (s := s) (T := collT c []) (bh := p.2.2) (S := S) (ms := [(none, th.2.2)]) (fun u hu => (fit_rests B.ok.fit (fun _ h => by cases h) (Nat.le_refl c.ht) (by have := B.sz; omega) p hmem u hu).1) h1 (coll_clos (t := c) (bh := []) trivial (fun _ h => h) p hmem) (fun m hm => by
      rw [List.mem_singleton.mp hm]
      exact ⟨fun _ => h2, fun n h => by cases h⟩)
    exact ⟨x, e1, fun m hm => ⟨fun hn => rgS_fit ((p1 m hm).1 hn), (p1 m hm).2⟩⟩
theorem stM_ty {c : Co} {g l L : Nat} {code : Option Int} {st : Int} (B : CoreOk g l c) : ∀ {ms : List Mv} {ns : List Nat} {out : List Th} {res : List Nat × List Th × Option (Option Rgs)}, (∀ m ∈ ms, (m.1 = none → rgFit g l m.2) ∧ ∀ n, m.1 = some n → inT (collT c []) g l n m.2) → mvsNb L ms → stOk L ns out → (∀ t ∈ out, thOk c g l t) → stM c code st ms ns out = res →
    stOk L res.1 res.2.1 ∧ (∀ t ∈ res.2.1, thOk c g l t) ∧ ∀ r, res.2.2 = some r → rgFit g l r
  | [], ns, out, res, _, _, h2, h3, e => by
    have e : (ns, out, none) = res := e
    subst e; exact ⟨h2, h3, fun r h => by cases h⟩
  | (none, r) :: ms, ns, out, res, h, hb, h2, h3, e => by
    have e : (ns, out, some r) = res := e
    subst e; exact ⟨h2, h3, fun r' h' => by cases h'; exact (h _ List.mem_cons_self).1 rfl⟩
  | (some n, r) :: ms, ns, out, res, h, hb, h2, h3, e => by
    have h' : ∀ m ∈ ms, _ := fun m hm => h m (List.mem_cons_of_mem _ hm)
    have hb' : mvsNb L ms := fun m hm => hb m (List.mem_cons_of_mem _ hm)
    rw [stM_some] at e
    split at e
    · next hc =>
      refine stM_ty B h' hb' (stOk_put h2 hc.1 (hb _ List.mem_cons_self n rfl)) (fun t ht => ?_) e
      rcases List.mem_append.mp ht with ht | ht
      · exact h3 t ht
      · rw [List.mem_singleton.mp ht]; exact inT_th B ((h _ List.mem_cons_self).2 n rfl)
    · exact stM_ty B h' hb' h2 h3 e
theorem stT_ty {c : Co} {g l : Nat} {s : Sp} {code : Option Int} (B : CoreB c g l) : ∀ {ths : List Th} {ns : List Nat} {out : List Th}, (∀ t ∈ ths, thOk c g l t) → stOk (collT c []).length ns out → (∀ t ∈ out, thOk c g l t) → ∃ res, stT s c code ths ns out = some res ∧ res.1.length ≤ (collT c []).length ∧ (∀ t ∈ res.1, thOk c g l t) ∧ cdFit g l res.2
  | [], ns, out, _, h2, h3 => ⟨(out, none), rfl, (stOk_len h2).2, h3, trivial⟩
  | th :: ths, ns, out, h, h2, h3 => by
    obtain ⟨x, e1, p1⟩ := mvs_ty (s := s) B (h th List.mem_cons_self)
    have hb := mvs_nb B.ok.num e1
    obtain ⟨q1, q2, q3⟩ := stM_ty (code := code) (st := th.1) B.ok p1 hb h2 h3 rfl
    unfold stT
    rw [e1]
    dsimp only
    rcases hr : stM c code th.1 x ns out with ⟨ns', o, e⟩
    rw [hr] at q1 q2 q3
    cases e with
    | some r => exact ⟨(o, some (th.1, s.pos, r)), rfl, (stOk_len q1).2, q2, q3 r rfl⟩
    | none => exact stT_ty B (fun t ht => h t (List.mem_cons_of_mem _ ht)) q1 q2
theorem rn_ths {c : Co} {g l : Nat} {x : RnS} {regs : Option Rgs} (h : RnOk c g l x) (hr : rgFit g l regs) : ∀ t ∈ x.ths regs, thOk c g l t := by
  intro t ht
  unfold RnS.ths at ht
  split at ht
  · rcases List.mem_append.mp ht with ht | ht
    · exact h.th t ht
    · rw [List.mem_singleton.mp ht]; exact hr
  · exact h.th t ht
theorem rnStep_ty {c : Co} {g l : Nat} {b renew : Bool} {regs : Option Rgs} {s : Sp} {x : RnS} (B : CoreB c g l) (h : RnOk c g l x) (hr : rgFit g l regs) : ∃ y, rnStep c b regs renew s x = some y ∧ RnOk c g l y ∧ y.pos = (if b then x.pos - 1 else x.pos + 1) ∧ y.beg = renew := by
  obtain ⟨res, e, h1, h2, h3⟩ := stT_ty (s := s) (code := if b then s.bf else s.af) B (rn_ths h hr) stOk_nil (fun _ h => by cases h)
  refine ⟨_, by unfold rnStep; rw [e]; rfl, ⟨h2, ?_, ?_⟩, rfl, rfl⟩
  · have := collT_len (t := c) (bh := [])
    have := B.sz
    show res.1.length ≤ _
    omega
  · show cdFit g l (nxCd x.cand res.2)
    cases e2 : res.2 with
    | none => exact h.cd
    | some p => rw [e2] at h3; exact h3
/-- forwards: as many steps as positions are left -/
theorem rnGo_fw {c : Co} {g l : Nat} {renew : Bool} {regs : Option Rgs} {sp : Nat → Sp} {len : Nat} (B : CoreB c g l) (hr : rgFit g l regs) : ∀ {n : Nat} {x : RnS}, RnOk c g l x → (len : Int) + 1 - x.pos ≤ n → ∃ y, rnGo c false regs renew sp len n x = some y ∧ y.over len = true ∧ RnOk c g l y
  | 0, x, h, hn => ⟨x, rfl, by unfold RnS.over; rw [show decide (x.pos > (len : Int)) = true from decide_eq_true (by omega)]; simp, h⟩
  | n + 1, x, h, hn => by
    unfold rnGo
    by_cases ho : x.over len = true
    · exact ⟨x, by rw [if_pos ho], ho, h⟩
    · obtain ⟨y, e, h1, h2, h3⟩ := rnStep_ty (b := false) (renew := renew) (s := sp x.pos.toNat) B h hr
      have h2 : y.pos = x.pos + 1 := h2
      obtain ⟨z, e2, h4, h5⟩ := rnGo_fw (sp := sp) (renew := renew) (len := len) B hr (n := n) h1 (by omega)
      exact ⟨z, by rw [if_neg ho, e]; exact e2, h4, h5⟩
theorem rnGo_bw {c : Co} {g l : Nat} {renew : Bool} {regs : Option Rgs} {sp : Nat → Sp} {len : Nat} (B : CoreB c g l) (hr : rgFit g l regs) : ∀ {n : Nat} {x : RnS}, RnOk c g l x → x.pos + 1 ≤ n → ∃ y, rnGo c true regs renew sp len n x = some y ∧ y.over len = true ∧ RnOk c g l y
  | 0, x, h, hn => ⟨x, rfl, by unfold RnS.over; rw [show decide (x.pos < 0) = true from decide_eq_true (by omega)]; simp, h⟩
  | n + 1, x, h, hn => by
    unfold rnGo
    by_cases ho : x.over len = true
    · exact ⟨x, by rw [if_pos ho], ho, h⟩
    · obtain ⟨y, e, h1, h2, h3⟩ := rnStep_ty (b := true) (renew := renew) (s := sp x.pos.toNat) B h hr
      have h2 : y.pos = x.pos - 1 := h2
      obtain ⟨z, e2, h4, h5⟩ := rnGo_bw (sp := sp) (renew := renew) (len := len) B hr (n := n) h1 (by omega)
      exact ⟨z, by rw [if_neg ho, e]; exact e2, h4, h5⟩
/-- the bounds of a drawn tree's core -/
theorem whole_B {t : Pt} {g : Nat} {b : Bool} (h : t.grps = rgN 0 g) (hr : t.r2) (hh : t.ht ≤ 3) : CoreB (t.whole.core b) g t.lks.length := by
  have hwr : t.whole.r2 := r2_mark hr
  have hwh : t.whole.ht ≤ 3 := by rw [Pt.whole, mark_ht]; exact hh
  have h1 := Pt.lks_len (t := t)
  have h2 := Pt.grps_len (t := t)
  have h3 : 2 ^ (t.ht + 1) ≤ 2 ^ 4 := Nat.pow_le_pow_right (by omega) (by omega)
  refine ⟨whole_ok h, ?_, ?_, ?_, by omega⟩
  · rw [Pt.core, nb_ht]
    have := un_ht (b := b) hwr
    omega
  · rw [Pt.core, nb_sz]
    have h4 := un_nd (b := b) hwr
    have h5 : 6 ^ t.whole.ht ≤ 6 ^ 3 := Nat.pow_le_pow_right (by omega) hwh
    have h6 : 6 ^ 3 = 216 := rfl
    have := sz_nd (t := t.whole.un b)
    omega
  · rw [h, rgN, List.length_range'] at h2; omega
/-- a run has no field of that name -/
theorem run_obj {M0 : Md} {a b c d e f g : D} {m : Str} (h : ([("core" : Str), "registers", "position", "renewing", "threads", "candidate", "begins"].contains m) = false) :
    objD "Run" m (.ref M0.length) (M0 ++ [.ins "Run" [("core", a), ("registers", b), ("position", c), ("renewing", d), ("threads", e), ("candidate", f), ("begins", g)]]) := by
  unfold objD
  dsimp only
  rw [at_new0]
  exact ⟨rfl, h⟩

/-! def 231: numbers_of; slots 0:core 1:number 2:spot 3:move; calls [('moves', 227)]; consts []; built-ins [] -/
abbrev c231 : CSs := .cons (.ret (.comp false (.idx (.var 3) (.int 0)) (.nm 3) (.seq (.call 227 (.cons (.var 0) (.cons (.var 1) (.cons (.var 2) (.cons .non .nil)))))) .none [3])) .nil
def sp231 : SpD := fun ds M Q _ => ∃ (t : Co) (b : Bool) (n : Option Nat) (s : Sp) (g l : Nat) (x : List Mv), ds = [coreV t b, onD n, spotD s] ∧ t.ht < 60 ∧ t.fit g l ∧ s.bits.length = l ∧ g < 1000 ∧ l < 1000 ∧ t.sz ≤ 10000 ∧ mvs s t n none = some x ∧ x.length ≤ 10000000 ∧ Q (.lst (x.map fun m => onD m.1)) M
theorem ln231 : ∀ ds M Q E, sp231 ds M Q E → ds.length = 3 := by
  rintro _ _ _ _ ⟨_, _, _, _, _, _, _, rfl, _⟩; rfl
theorem rd231 {Φ : Nat → SpD} {κ : Nat → D} (h227 : Φ 227 = sp227) : RdOk Φ κ c231 4 (sp231) := by
  rintro ds M Q E hM hd ⟨t, b, n, s, g, l, x, rfl, hh, hf, hb, hg, hl, hz, hx, hxl, hQ⟩
  walk_at "go"
  rw [h227]
  refine ⟨t, b, n, s, none, g, l, x, rfl, hh, hf, hb, trivial, hg, hl, hz, hx, ?_⟩
  walk_at "go"
  refine comp_map mvD (fun m => onD m.1) trivial (by rw [size_eq]; omega) ?_ ?_
  · intro m hm yes no hy
    rw [mvD_eq]; walk_at "go"
    exact hy
  exact .keep hQ

/-! passes: what can match, the states and bits of looks -/
def codeAt (b : Bool) (s : Sp) : Option Int := if b then s.bf else s.af
def canF (c : Co) (code : Option Int) (st : List Nat) (m : Mv) : Bool := match m.1 with
  | none => true
  | some k => takesB c code k && st.contains k
def canM (c : Co) (s : Sp) (code : Option Int) (st : List Nat) (n : Option Nat) : Bool := match mvs s c n none with
  | some x => x.any (canF c code st)
  | none => false
theorem canM_eq {c : Co} {s : Sp} {code : Option Int} {st : List Nat} {n : Option Nat} {x : List Mv} (h : mvs s c n none = some x) : canM c s code st n = x.any (canF c code st) := by unfold canM; rw [h]
def stN (c : Co) (s : Sp) (code : Option Int) (st : List Nat) : List Nat := (List.range (collT c []).length).filter fun k => canM c s code st (some k)
def od (b : Bool) (len i : Nat) : Nat := if b then i else len - i
theorem od_od {b : Bool} {len i : Nat} (h : i ≤ len) : od b len (od b len i) = i := by unfold od; split <;> omega
theorem od_le {b : Bool} {len i : Nat} (h : i ≤ len) : od b len i ≤ len := by unfold od; split <;> omega
/-- the state before step j -/
def pv (c : Co) (b : Bool) (cs : List Nat) (rows : List (List Bool)) : Nat → List Nat
  | 0 => []
  | j + 1 => stN c (spotAt cs rows (od b cs.length j)) (codeAt b (spotAt cs rows (od b cs.length j))) (pv c b cs rows j)
def stAt (c : Co) (b : Bool) (cs : List Nat) (rows : List (List Bool)) (i : Nat) : List Nat := pv c b cs rows (od b cs.length i + 1)
def btAt (c : Co) (b : Bool) (cs : List Nat) (rows : List (List Bool)) (i : Nat) : Bool := canM c (spotAt cs rows i) (codeAt b (spotAt cs rows i)) (pv c b cs rows (od b cs.length i)) none
def stsOf (c : Co) (b : Bool) (cs : List Nat) (rows : List (List Bool)) : List (List Nat) := (List.range (cs.length + 1)).map (stAt c b cs rows)
def bitsOf (c : Co) (b : Bool) (cs : List Nat) (rows : List (List Bool)) : List Bool := (List.range (cs.length + 1)).map (btAt c b cs rows)
theorem stAt_eq {c : Co} {b : Bool} {cs : List Nat} {rows : List (List Bool)} {i : Nat} (h : i ≤ cs.length) : stAt c b cs rows i = stN c (spotAt cs rows i) (codeAt b (spotAt cs rows i)) (pv c b cs rows (od b cs.length i)) := by
  unfold stAt
  rw [pv, od_od h]
theorem pv_bound {c : Co} {b : Bool} {cs : List Nat} {rows : List (List Bool)} {j : Nat} : (pv c b cs rows j).length ≤ (collT c []).length := by
  cases j with
  | zero => exact Nat.zero_le _
  | succ j =>
    rw [pv]
    have := List.length_filter_le (fun k => canM c (spotAt cs rows (od b cs.length j)) (codeAt b (spotAt cs rows (od b cs.length j))) (pv c b cs rows j) (some k)) (List.range (collT c []).length)
    rw [List.length_range] at this
    exact this
theorem nr_nats' (l : List Nat) : noRef (nats l) = true := noRefs_map fun _ _ => rfl
theorem in_nats {st : List Nat} {k : Nat} {M : Md} {QB : Bool → Prop} : cpD .inn (.int (k : Int)) (nats st) M QB = QB (st.contains k) := by
  unfold nats
  rw [cp_inn_tup rfl (by rw [List.all_map]; exact List.all_eq_true.mpr fun _ _ => rfl)]
  congr 1
  rw [List.any_map]
  induction st with
  | nil => rfl
  | cons x r ih =>
    rw [List.any_cons, ih, List.contains_cons]
    congr 1
    show decide ((x : Int) = (k : Int)) = (k == x)
    by_cases h : x = k
    · subst h; simp
    · have h2 : ¬ (x : Int) = (k : Int) := by omega
      rw [decide_eq_false h2]
      symm
      simp [Ne.symm h]
theorem Fin.lst2 {n0 : Nat} {Q : QE} {M L : Md} {k1 k2 : Nat} {d1 d2 : List D} (hn : M.length = n0) (hM : MOk M) (h1 : (M ++ L)[k1]? = some (.lst d1)) (h2 : (M ++ L)[k2]? = some (.lst d2)) (hne : k1 ≠ k2) (l1 : M.length ≤ k1) (l2 : M.length ≤ k2) (n1 : noRefs d1 = true) (n2 : noRefs d2 = true) (q : Q (.tup [.lst d1, .lst d2]) M) : Fin n0 Q (.tup [.ref k1, .ref k2]) (M ++ L) := by
  refine .settleT (es := []) h1 ?_
  rw [List.nil_append]
  refine .settleT (es := [.lst d1]) (us := []) (k := k2) (ds := d2) ?_ ?_
  · rw [List.getElem?_set_ne hne]; exact h2
  rw [List.set_append_right _ _ l1, List.set_append_right _ _ l2]
  refine Fin.tail hn (noRef_lt ?_) hM q
  show noRefs [.lst d1, .lst d2] = true
  simp only [noRefs, noRef, n1, n2, Bool.and_self]
section
variable {lk : Option Nat} {all : List D} {asg : D → (Std → Md → Prop) → Md → Prop} {tst : Std → Md → (Bool → Md → Prop) → Prop} {elt : Std → Md → QE → Prop} {Q : List D → Md → Prop}
theorem comp_fmap {α : Type} {xs : List α} {M : Md} (enc : α → D) (f : α → Option D) (hl : lkOk lk all M) (hs : xs.length ≤ sizeLine)
    (step : ∀ x ∈ xs, ∀ (yes : D → Md → Prop) (no : Md → Prop), (match f x with
      | some y => yes y M
      | none => no M) → asg (enc x) (fun σ1 M1 => tst σ1 M1 fun k M2 => if k = true then elt σ1 M2 yes else no M2) M)
    (fin : Q (xs.filterMap f) M) : compD lk all asg tst elt Q (xs.map enc) [] M := by
  have key : ∀ (ys : List α) (acc : List D), (∀ y ∈ ys, y ∈ xs) → acc.length + ys.length ≤ sizeLine → acc ++ ys.filterMap f = xs.filterMap f → compD lk all asg tst elt Q (ys.map enc) acc M := by
    intro ys
    induction ys with
    | nil => intro acc _ _ e; rw [List.filterMap_nil, List.append_nil] at e; rw [e]; exact ⟨hl, fin⟩
    | cons y ys ih =>
      intro acc hm hlen e
      have hlen : acc.length + (ys.length + 1) ≤ sizeLine := hlen
      refine ⟨hl, step y (hm y List.mem_cons_self) _ _ ?_⟩
      cases e2 : f y with
      | none => exact ih acc (fun z hz => hm z (List.mem_cons_of_mem _ hz)) (by omega) (by rw [← e, List.filterMap_cons, e2])
      | some v => exact ⟨by omega, ih (acc ++ [v]) (fun z hz => hm z (List.mem_cons_of_mem _ hz)) (by rw [List.length_append]; show acc.length + 1 + ys.length ≤ _; omega) (by rw [← e, List.filterMap_cons, e2, List.append_assoc]; rfl)⟩
  exact key xs [] (fun _ h => h) (by simpa using hs) rfl
end
/-- a drawn tree's looks -/
theorem mark_at : ∀ {t : Pt} {n i : Nat} {a p : Bool} {s : Pt} {m : Option Nat}, (t.mark n).1.lks[i]? = some (.look a p s m) → (∀ u ∈ s.lks, u.lnum < n + i) ∧ ∀ k ∈ s.grps, k ∈ t.grps
  | .seq x y, n, i, a, p, s, m, h => by
    have h : ((x.mark n).1.lks ++ (y.mark (x.mark n).2).1.lks)[i]? = _ := h
    obtain ⟨h1, h2, _⟩ := mark_num (t := x) (n := n)
    by_cases hi : i < (x.mark n).1.lks.length
    · rw [List.getElem?_append_left hi] at h
      obtain ⟨q1, q2⟩ := mark_at h
      exact ⟨q1, fun k hk => List.mem_append_left _ (q2 k hk)⟩
    · rw [List.getElem?_append_right (by omega)] at h
      obtain ⟨q1, q2⟩ := mark_at h
      exact ⟨fun u hu => by have := q1 u hu; omega, fun k hk => List.mem_append_right _ (q2 k hk)⟩
  | .alt x y, n, i, a, p, s, m, h => by
    have h : ((x.mark n).1.lks ++ (y.mark (x.mark n).2).1.lks)[i]? = _ := h
    obtain ⟨h1, h2, _⟩ := mark_num (t := x) (n := n)
    by_cases hi : i < (x.mark n).1.lks.length
    · rw [List.getElem?_append_left hi] at h
      obtain ⟨q1, q2⟩ := mark_at h
      exact ⟨q1, fun k hk => List.mem_append_left _ (q2 k hk)⟩
    · rw [List.getElem?_append_right (by omega)] at h
      obtain ⟨q1, q2⟩ := mark_at h
      exact ⟨fun u hu => by have := q1 u hu; omega, fun k hk => List.mem_append_right _ (q2 k hk)⟩
  | .rep t _ _ _, n, i, a, p, s, m, h => mark_at (t := t) h
  | .grp g t, n, i, a, p, s, m, h => by
    obtain ⟨q1, q2⟩ := mark_at (t := t) h
    exact ⟨q1, fun k hk => List.mem_cons_of_mem _ (q2 k hk)⟩
  | .look a' p' t _, n, i, a, p, s, m, h => by
    have h : ((t.mark n).1.lks ++ [.look a' p' (t.mark n).1 (some (t.mark n).2)])[i]? = _ := h
    obtain ⟨h1, h2, h3⟩ := mark_num (t := t) (n := n)
    by_cases hi : i < (t.mark n).1.lks.length
    · rw [List.getElem?_append_left hi] at h
      exact mark_at (t := t) h
    · rw [List.getElem?_append_right (by omega)] at h
      cases e : i - (t.mark n).1.lks.length with
      | succ j => rw [e] at h; cases h
      | zero =>
        rw [e] at h; cases h
        exact ⟨fun u hu => by have := (h3 u hu).2; omega, fun k hk => by rw [mark_grps] at hk; exact hk⟩
  | .set _, _, _, _, _, _, _, h | .empty, _, _, _, _, _, _, h | .anchor _, _, _, _, _, _, _, h => by cases h
/-- the bounds of a look's core -/
theorem look_B {t : Pt} {g i : Nat} {a p b : Bool} {s : Pt} {m : Option Nat} (h : t.whole.lks[i]? = some (.look a p s m)) (hg : ∀ k ∈ t.grps, k < g) (hr : t.r2) (hs : s.ht ≤ 3) (h1 : g < 1000) (h2 : i < 1000) : CoreB (s.core b) g i := by
  obtain ⟨q1, q2⟩ := mark_at h
  have hsr : s.r2 := lks_r2 (List.mem_of_getElem? h) (r2_mark hr)
  refine ⟨nb_ok (un_fit ⟨fun k hk => hg k (q2 k hk), fun u hu => by have := q1 u hu; omega⟩) un_okc, ?_, ?_, h1, h2⟩
  · rw [Pt.core, nb_ht]
    have := un_ht (b := b) hsr
    omega
  · rw [Pt.core, nb_sz]
    have h4 := un_nd (b := b) hsr
    have h5 : 6 ^ s.ht ≤ 6 ^ 3 := Nat.pow_le_pow_right (by omega) hs
    have h6 : 6 ^ 3 = 216 := rfl
    have := sz_nd (t := s.un b)
    omega
theorem cOk_of5 {t : Pt} {b : Bool} (h : t.r2) (hh : t.ht ≤ 5) : t.cOk b := by
  have h1 := un_ht (b := b) h
  have h2 := un_nd (b := b) h
  have h3 := sz_nd (t := t.un b)
  have h5 : 6 ^ t.ht ≤ 6 ^ 5 := Nat.pow_le_pow_right (by omega) hh
  have h6 : 6 ^ 5 = 7776 := rfl
  exact ⟨by omega, by omega⟩
theorem prep_ok5 {t : Pt} (h : t.r2) (hh : t.ht ≤ 5) (hp : t.grps.Pairwise (· < ·)) {M : Md} {Q : QE} {E : EX} (q : Q (prepV t) M) : sp564 [ptD t] M Q E := by
  have hw : t.whole.r2 := r2_mark h
  have hwh : t.whole.ht ≤ 5 := by rw [Pt.whole, mark_ht]; exact hh
  refine ⟨t, rfl, r2_sm h, by omega, hp, cOk_of5 hw hwh, fun a p s k hs => cOk_of5 (lks_r2 hs hw) ?_, q⟩
  have := (lks_lt hs).1
  omega
/-- a step of the moves is told -/
theorem mv_B {c : Co} {g l : Nat} {s : Sp} {n : Option Nat} (B : CoreB c g l) (hn : ∀ k, n = some k → k < (collT c []).length) : ∃ x, mvs s c n none = some x ∧ mvsNb (collT c []).length x ∧ x.length ≤ 1010000 := by
  obtain ⟨x, e, _⟩ := mvs_tot (s := s) (r := none) (by have := B.sz; omega) B.ok.fit trivial hn
  exact ⟨x, e, mvs_nb B.ok.num e, mvs_len B.ht B.sz e⟩

/-! def 558: greater_of; slots 0:a 1:b; calls []; consts []; built-ins ['max'] -/
abbrev c558_2 : CSs := .cons (.ret .non) .nil
abbrev c558_1 : CSs := .cons (.ret (.blt .max2 (.cons (.var 0) (.cons (.var 1) .nil)))) .nil
abbrev c558 : CSs := .cons (.ifs (.or (.cmp .isN (.var 0) .non) (.cmp .isN (.var 1) .non)) c558_2 .nil) c558_1
def sp558 : SpD := fun ds M Q _ => ∃ a b : Option Nat, ds = [onD a, onD b] ∧ Q (onD (maxO a b)) M
theorem ln558 : ∀ ds M Q E, sp558 ds M Q E → ds.length = 2 := by
  rintro _ _ _ _ ⟨_, _, rfl, _⟩; rfl
theorem maxI (x y : Nat) : (if (y : Int) > (x : Int) then (y : Int) else (x : Int)) = ((max x y : Nat) : Int) := by split <;> omega
theorem rd558 {Φ : Nat → SpD} {κ : Nat → D} : RdOk Φ κ c558 2 (sp558) := by
  rintro ds M Q E hM hd ⟨a, b, rfl, hQ⟩
  cases a with
  | none => rw [on_none]; walk_at "go"; exact .keep hQ
  | some x =>
    cases b with
    | none => rw [on_some, on_none]; walk_at "go"; exact .keep hQ
    | some y =>
      rw [on_some, on_some]; walk_at "go"
      refine .keep ?_
      rw [maxI]
      exact hQ

/-! def 560: choice_facts; slots 0:a 1:b 2:needs 3:codes; calls [('union', 8), ('greater_of', 558)]; consts []; built-ins ['tuple', 'min'] -/
abbrev c560_1 : CSs := .cons (.ret (.tup (.cons (.blt .min2 (.cons (.idx (.var 0) (.int 0)) (.cons (.idx (.var 1) (.int 0)) .nil))) (.cons (.call 558 (.cons (.idx (.var 0) (.int 1)) (.cons (.idx (.var 1) (.int 1)) .nil))) (.cons (.call 8 (.cons (.idx (.var 0) (.int 2)) (.cons (.idx (.var 1) (.int 2)) .nil))) (.cons (.var 2) (.cons (.and (.idx (.var 0) (.int 4)) (.idx (.var 1) (.int 4))) .nil))))))) .nil
abbrev c560 : CSs := .cons (.set 2 (.blt .tuple (.cons (.comp false (.var 3) (.nm 3) (.seq (.idx (.var 0) (.int 3))) (.some (.cmp .inn (.var 3) (.idx (.var 1) (.int 3)))) [3]) .nil))) c560_1
theorem Fa.Ok.alt {n m k : Nat} {a b : Fa} {L : List (Int × Int)} (ha : a.Ok n) (hb : b.Ok m) (hn : n < k) (hm : m < k) (h1 : Canon L) (h2 : ∀ x : Int, inP L x = true ↔ inP a.be x = true ∨ inP b.be x = true) : (a.alt b).Ok k := by
  refine ⟨?_, ?_, ?_⟩
  · show setOk (uni a.be b.be)
    rw [uni_eq h1 h2]; exact setOk.uni ha.be hb.be h1 h2
  · show (a.ne.filter _).length ≤ 2 ^ k
    have := ha.len
    have := List.length_filter_le (fun c => decide (c ∈ b.ne)) a.ne
    have e1 : 2 ^ n ≤ 2 ^ k := Nat.pow_le_pow_right (by omega) (by omega)
    omega
  · intro c hc
    exact ha.ne c (List.mem_filter.mp hc).1
def sp560 : SpD := fun ds M Q _ => ∃ (a b : Fa) (n m k : Nat), ds = [faD a, faD b] ∧ a.Ok n ∧ b.Ok m ∧ n < k ∧ m < k ∧ k ≤ 20 ∧ ((a.alt b).Ok k → Q (faD (a.alt b)) M)
theorem ln560 : ∀ ds M Q E, sp560 ds M Q E → ds.length = 2 := by
  rintro _ _ _ _ ⟨_, _, _, _, _, rfl, _⟩; rfl
theorem minI (x y : Nat) : (if (y : Int) < (x : Int) then (y : Int) else (x : Int)) = ((min x y : Nat) : Int) := by split <;> omega
theorem fmap_filter {α β : Type} (f : α → β) (p : α → Bool) : ∀ l : List α, (l.filterMap fun x => if p x = true then some (f x) else none) = (l.filter p).map f
  | [] => rfl
  | x :: l => by
    rw [List.filterMap_cons, List.filter_cons, fmap_filter f p l]
    cases p x <;> simp
theorem rd560 {Φ : Nat → SpD} {κ : Nat → D} (h8 : Φ 8 = sp8) (h558 : Φ 558 = sp558) : RdOk Φ κ c560 4 (sp560) := by
  rintro ds M Q E hM hd ⟨a, b, n, m, k, rfl, ha, hb, hn, hm, hk, hQ⟩
  have hsz : a.ne.length ≤ sizeLine := by
    have := ha.len
    have e1 : 2 ^ n ≤ 2 ^ 20 := Nat.pow_le_pow_right (by omega) (by omega)
    rw [size_eq]; omega
  rw [faD_eq a, faD_eq b]
  walk_at "go"
  refine comp_fmap csD (fun c => if decide (c ∈ b.ne) = true then some (csD c) else none) trivial hsz ?_ ?_
  · intro c hc yes no hy
    try walk_at "rd2"
    rw [in_cs]
    by_cases h : c ∈ b.ne
    · rw [if_pos (by simpa using h)] at hy
      simp only [h, decide_true]
      exact hy
    · rw [if_neg (by simpa using h)] at hy
      simp only [h, decide_false]
      exact hy
  rw [fmap_filter csD fun c => decide (c ∈ b.ne)]
  walk_at "go"
  rw [h558]
  refine ⟨a.lg, b.lg, rfl, ?_⟩
  walk_at "go"
  rw [h8]
  refine ⟨a.be, b.be, rfl, by have := ha.be.1; have := hb.be.1; rw [size_eq]; omega, fun L h1 h2 => ?_⟩
  have hQ := hQ (ha.alt hb hn hm h1 h2)
  have fin : ∀ z : Bool, z = (a.alt b).an → Fin M.length Q (.tup [.int (min a.sh b.sh : Nat), onD (maxO a.lg b.lg), .tup (L.map pr), .tup ((a.ne.filter fun c => decide (c ∈ b.ne)).map csD), .bl z]) M := by
    intro z hz
    refine .keep ?_
    rw [hz, show D.tup (L.map pr) = csD (a.alt b).be by show csD L = csD (uni a.be b.be); rw [uni_eq h1 h2]]
    exact hQ
  walk_at "go"
  rw [minI]
  cases h3 : a.an with
  | true => walk_at "go"; exact fin _ (by simp [Fa.alt, h3])
  | false => walk_at "go"; exact fin _ (by simp [Fa.alt, h3])

/-! def 556: facts_of; slots 0:tree 1:kind; calls [('sequence_facts', 559), ('facts_of', 556), ('choice_facts', 560), ('repeat_facts', 561)]; consts [('NOTHING', 7)]; built-ins [] -/
abbrev c556_7 : CSs := .cons (.ret (.tup (.cons (.int 1) (.cons (.int 1) (.cons (.idx (.var 0) (.int 1)) (.cons (.tup (.cons (.idx (.var 0) (.int 1)) .nil)) (.cons (.bl false) .nil))))))) .nil
abbrev c556_8 : CSs := .cons (.ret (.call 559 (.cons (.call 556 (.cons (.idx (.var 0) (.int 1)) .nil)) (.cons (.call 556 (.cons (.idx (.var 0) (.int 2)) .nil)) .nil)))) .nil
abbrev c556_9 : CSs := .cons (.ret (.call 560 (.cons (.call 556 (.cons (.idx (.var 0) (.int 1)) .nil)) (.cons (.call 556 (.cons (.idx (.var 0) (.int 2)) .nil)) .nil)))) .nil
abbrev c556_10 : CSs := .cons (.ret (.call 561 (.cons (.var 0) .nil))) .nil
abbrev c556_11 : CSs := .cons (.ret (.call 556 (.cons (.idx (.var 0) (.int 2)) .nil))) .nil
abbrev c556_6 : CSs := .cons (.ret (.tup (.cons (.int 0) (.cons (.int 0) (.cons (.glob 7) (.cons (.tup .nil) (.cons (.cmp .eq (.var 0) (.tup (.cons (.str "anchor") (.cons (.str "text_start") .nil)))) .nil))))))) .nil
abbrev c556_5 : CSs := .cons (.ifs (.cmp .eq (.var 1) (.str "group")) c556_11 .nil) c556_6
abbrev c556_4 : CSs := .cons (.ifs (.cmp .eq (.var 1) (.str "repeat")) c556_10 .nil) c556_5
abbrev c556_3 : CSs := .cons (.ifs (.cmp .eq (.var 1) (.str "choice")) c556_9 .nil) c556_4
abbrev c556_2 : CSs := .cons (.ifs (.cmp .eq (.var 1) (.str "sequence")) c556_8 .nil) c556_3
abbrev c556_1 : CSs := .cons (.ifs (.cmp .eq (.var 1) (.str "set")) c556_7 .nil) c556_2
abbrev c556 : CSs := .cons (.set 1 (.idx (.var 0) (.int 0))) c556_1
theorem ln556 (n : Nat) : ∀ ds M Q E, sp556 n ds M Q E → ds.length = 1 := by
  rintro _ _ _ _ ⟨_, rfl, _⟩; rfl
theorem z556 : ∀ ds M Q E, sp556 0 ds M Q E → False := by
  rintro _ _ _ _ ⟨_, _, h, _⟩; omega
theorem rd556 {Φ : Nat → SpD} {κ : Nat → D} {n : Nat} (h559 : Φ 559 = sp559) (h556 : Φ 556 = sp556 n) (h560 : Φ 560 = sp560) (h561 : Φ 561 = sp561 n) (hk7 : κ 7 = k7) : RdOk Φ κ c556 2 (sp556 (n + 1)) := by
  rintro ds M Q E hM hd ⟨t, rfl, hh, hh2, hp, hs, hQ⟩
  have hk7 : κ 7 = .tup [] := hk7
  have hnil : Fa.nil.Ok 1 := .nil
  cases t with
  | set ps =>
    simp only [ptD]
    walk_at "go"
    refine .keep ?_
    exact hQ ⟨hp, by show 1 ≤ 2 ^ _; exact Nat.one_le_two_pow, fun c hc => by rw [List.mem_singleton.mp hc]; exact hp⟩
  | seq x y =>
    have hx : max x.ht y.ht + 1 < n + 1 := hh
    have hy : max x.ht y.ht + 1 ≤ 12 := hh2
    simp only [ptD]
    walk_at "go"
    rw [h556]
    refine ⟨x, rfl, by omega, by omega, hp.1, hs.1, fun hx1 => ?_⟩
    walk_at "go"
    refine ⟨y, rfl, by omega, by omega, hp.2, hs.2, fun hy1 => ?_⟩
    walk_at "go"
    rw [h559]
    exact ⟨_, _, x.ht + 1, y.ht + 1, max x.ht y.ht + 1 + 1, rfl, hx1, hy1, by omega, by omega, by omega, fun h => .keep (hQ h)⟩
  | alt x y =>
    have hx : max x.ht y.ht + 1 < n + 1 := hh
    have hy : max x.ht y.ht + 1 ≤ 12 := hh2
    simp only [ptD]
    walk_at "go"
    rw [h556]
    refine ⟨x, rfl, by omega, by omega, hp.1, hs.1, fun hx1 => ?_⟩
    walk_at "go"
    refine ⟨y, rfl, by omega, by omega, hp.2, hs.2, fun hy1 => ?_⟩
    walk_at "go"
    rw [h560]
    exact ⟨_, _, x.ht + 1, y.ht + 1, max x.ht y.ht + 1 + 1, rfl, hx1, hy1, by omega, by omega, by omega, fun h => .keep (hQ h)⟩
  | rep t lo hi g =>
    have hx : t.ht + 1 < n + 1 := hh
    have hy : t.ht + 1 ≤ 12 := hh2
    have hd' : ptD (.rep t lo hi g) = .tup [.str "repeat", ptD t, .int lo, onD hi, .bl g] := rfl
    rw [hd']
    walk_at "go"
    rw [h561]
    exact ⟨t, lo, hi, g, rfl, by omega, by omega, hp, hs, fun h => .keep (hQ (h.up (by show _ ≤ t.ht + 1 + 1; omega)))⟩
  | grp m t =>
    have hx : t.ht + 1 < n + 1 := hh
    have hy : t.ht + 1 ≤ 12 := hh2
    simp only [ptD]
    walk_at "go"
    rw [h556]
    exact ⟨t, rfl, by omega, by omega, hp, hs, fun h => .keep (hQ (h.up (by show _ ≤ t.ht + 1 + 1; omega)))⟩
  | empty =>
    have he : cpD .eq (ptD .empty) (ptD (.anchor "text_start")) M = fun Q => Q false := by
      funext Q
      rw [eq_tr hp (by show ancOk _; unfold ancOk; simp) (by show (0 : Nat) ≤ 60; omega) (by show (0 : Nat) ≤ 60; omega)]
      simp
    simp only [ptD] at he ⊢
    walk_at "go"
    rw [hk7, he]
    walk_at "go"
    exact .keep (hQ .nil)
  | anchor s =>
    have he : cpD .eq (ptD (.anchor s)) (ptD (.anchor "text_start")) M = fun Q => Q (decide (s = "text_start")) := by
      funext Q
      rw [eq_tr hp (by show ancOk _; unfold ancOk; simp) (by show (0 : Nat) ≤ 60; omega) (by show (0 : Nat) ≤ 60; omega)]
      congr 1
      by_cases h : s = "text_start" <;> simp [h]
    simp only [ptD] at he ⊢
    walk_at "go"
    rw [hk7, he]
    walk_at "go"
    refine .keep (hQ ⟨setOk_nil, Nat.zero_le _, fun _ h => by cases h⟩)
  | look a p t k =>
    have hy : t.ht + 1 ≤ 12 := hh2
    have he : cpD .eq (ptD (.look a p t k)) (ptD (.anchor "text_start")) M = fun Q => Q false := by
      funext Q
      rw [eq_tr hp (by show ancOk _; unfold ancOk; simp) (by show t.ht + 1 ≤ 60; omega) (by show (0 : Nat) ≤ 60; omega)]
      simp
    walk_at "go"
    rw [pt_0]
    cases k with
    | none =>
      simp only [ptD, Pt.hd] at he ⊢
      walk_at "go"
      rw [hk7, he]
      walk_at "go"
      exact .keep (hQ .nil)
    | some k =>
      simp only [ptD, Pt.hd] at he ⊢
      walk_at "go"
      rw [hk7, he]
      walk_at "go"
      exact .keep (hQ .nil)

/-! def 45: character; slots 0:code; calls []; consts [('VISIBLE', 8)]; built-ins [] -/
def c45_4 : CSs := .cons (.ret (.str "\t")) .nil
def c45_5 : CSs := .cons (.ret (.str "\n")) .nil
def c45_6 : CSs := .cons (.ret (.idx (.glob 8) (.bin .sub (.var 0) (.int 32)))) .nil
def c45_3 : CSs := .cons (.ret (.idx (.glob 8) (.bin .sub (.var 0) (.int 33)))) .nil
def c45_2 : CSs := .cons (.ifs (.cmp .lt (.var 0) (.int 37)) c45_6 .nil) c45_3
def c45_1 : CSs := .cons (.ifs (.cmp .eq (.var 0) (.int 10)) c45_5 .nil) c45_2
def c45 : CSs := .cons (.ifs (.cmp .eq (.var 0) (.int 9)) c45_4 .nil) c45_1
def visS : Str := " !\"#$&'()*+,-./0123456789:;<=>?@ABCDEFGHIJKLMNOPQRSTUVWXYZ[\\]^_`abcdefghijklmnopqrstuvwxyz{|}~"
theorem vis_at : ∀ i : Nat, i < 94 → visS.cps.toList[i]? = some (if i < 5 then i + 32 else i + 33) := by decide +kernel
theorem vis_len : visS.length ≤ sizeLine := by decide +kernel
def textC (x : Nat) : Prop := x = 9 ∨ x = 10 ∨ (32 ≤ x ∧ x < 127 ∧ x ≠ 37)
def sp45 : SpD := fun ds M Q _ => ∃ x : Nat, ds = [.int x] ∧ textC x ∧ Q (.str ⟨#[x]⟩) M
theorem ln45 : ∀ ds M Q E, sp45 ds M Q E → ds.length = 1 := by
  rintro _ _ _ _ ⟨_, rfl, _⟩; rfl
theorem rd45 {Φ : Nat → SpD} {κ : Nat → D} (hk8 : κ 8 = k8) : RdOk Φ κ c45 1 sp45 := by
  rintro ds M Q E hM hd ⟨x, rfl, hx, hQ⟩
  have hk : κ 8 = .str visS := hk8
  unfold textC at hx
  rw [c45]; walk_at "rd"
  split
  · next h =>
    have : x = 9 := by omega
    subst this
    rw [c45_4]; walk_at "rd"
    exact .keep hQ
  · rw [nxt_eq, c45_1]; walk_at "rd"
    split
    · next h =>
      have : x = 10 := by omega
      subst this
      rw [c45_5]; walk_at "rd"
      exact .keep hQ
    · rw [nxt_eq, c45_2]; walk_at "rd"
      split
      · rw [c45_6]; walk_at "rd"
        rw [hk]
        refine ix_s vis_len (c := x) ?_ (.keep hQ)
        rw [show (x : Int) - 32 = ((x - 32 : Nat) : Int) by omega]
        refine atI_nat ?_
        rw [vis_at _ (by omega), if_pos (by omega)]
        congr 1
        omega
      · rw [nxt_eq, c45_3]; walk_at "rd"
        rw [hk]
        refine ix_s vis_len (c := x) ?_ (.keep hQ)
        rw [show (x : Int) - 33 = ((x - 33 : Nat) : Int) by omega]
        refine atI_nat ?_
        rw [vis_at _ (by omega), if_neg (by omega)]
        congr 1
        omega

/-! the word of a tree -/
instance {x : Nat} : Decidable (textC x) := by unfold textC; infer_instance
def oneC : List (Int × Int) → Option (List Nat)
  | [(a, b)] => if b = a + 1 ∧ 0 ≤ a ∧ textC a.toNat then some [a.toNat] else none
  | _ => none
def catO : Option (List Nat) → Option (List Nat) → Option (List Nat)
  | some a, some b => some (a ++ b)
  | _, _ => none
def word : Pt → Option (List Nat)
  | .empty => some []
  | .set ps => oneC ps
  | .seq a b => catO (word a) (word b)
  | _ => none
def wordD : Option (List Nat) → D
  | none => .non
  | some l => .str (tx l)
theorem wordD_none : wordD none = .non := rfl
theorem wordD_some (l : List Nat) : wordD (some l) = .str (tx l) := rfl
theorem word_len : ∀ {t : Pt} {l : List Nat}, word t = some l → l.length + 1 ≤ 2 ^ (t.ht + 1)
  | .empty, l, h => by cases h; show (0 : Nat) + 1 ≤ 2 ^ (0 + 1); omega
  | .set ps, l, h => by
    show l.length + 1 ≤ 2 ^ (0 + 1)
    unfold word oneC at h
    split at h
    · split at h
      · cases h; show 1 + 1 ≤ 2; omega
      · cases h
    · cases h
  | .seq a b, l, h => by
    have h : catO (word a) (word b) = some l := h
    cases h1 : word a with
    | none => rw [h1] at h; cases h
    | some x =>
      cases h2 : word b with
      | none => rw [h1, h2] at h; cases h
      | some y =>
        rw [h1, h2] at h
        cases h
        have l1 := word_len h1
        have l2 := word_len h2
        have e1 : 2 ^ (a.ht + 1) ≤ 2 ^ (max a.ht b.ht + 1) := Nat.pow_le_pow_right (by omega) (by omega)
        have e2 : 2 ^ (b.ht + 1) ≤ 2 ^ (max a.ht b.ht + 1) := Nat.pow_le_pow_right (by omega) (by omega)
        show (x ++ y).length + 1 ≤ 2 ^ (max a.ht b.ht + 1 + 1)
        rw [List.length_append, Nat.pow_succ 2 (max a.ht b.ht + 1)]; omega
  | .anchor _, l, h | .alt _ _, l, h | .rep _ _ _ _, l, h | .grp _ _, l, h | .look _ _ _ _, l, h => by cases h
/-- one code: by its size -/
theorem size_one {ps : List (Int × Int)} (h : Canon ps) (h1 : (ps.map fun p => p.2 - p.1).sum = 1) : ∃ a, ps = [(a, a + 1)] := by
  have pos : ∀ {L : List (Int × Int)}, Canon L → (L.length : Int) ≤ (L.map fun p => p.2 - p.1).sum := by
    intro L
    induction L with
    | nil => intro _; simp
    | cons p L ih =>
      intro hc
      have := ih hc.2.2
      have := hc.1
      rw [List.map_cons, List.sum_cons, List.length_cons]
      push_cast
      omega
  match ps, h, h1 with
  | [], _, h1 => simp at h1
  | [(a, b)], h, h1 =>
    simp at h1
    refine ⟨a, ?_⟩
    have : b = a + 1 := by omega
    rw [this]
  | p :: q :: L, h, h1 =>
    have := pos h
    rw [h1, List.length_cons, List.length_cons] at this
    push_cast at this
    omega
theorem text_set {x : Int} : inP [(9, 11), (32, 37), (38, 127)] x = true ↔ 0 ≤ x ∧ textC x.toNat := by
  simp only [inP_cons, inP_nil, Bool.false_eq_true, or_false]
  unfold textC
  omega
theorem oneC_one {a : Int} : oneC [(a, a + 1)] = if inP [(9, 11), (32, 37), (38, 127)] a = true then some [a.toNat] else none := by
  show (if a + 1 = a + 1 ∧ 0 ≤ a ∧ textC a.toNat then some [a.toNat] else none) = _
  by_cases h : inP [(9, 11), (32, 37), (38, 127)] a = true
  · rw [if_pos h, if_pos ⟨rfl, text_set.mp h⟩]
  · rw [if_neg h, if_neg fun z => h (text_set.mpr z.2)]
theorem oneC_no {ps : List (Int × Int)} (h : (ps.map fun p => p.2 - p.1).sum ≠ 1) : oneC ps = none := by
  unfold oneC
  split
  · next a b =>
    rw [if_neg]
    rintro ⟨e, _⟩
    apply h
    simp
    omega
  · rfl

/-! def 14: size; slots 0:a 1:low 2:high; calls []; consts []; built-ins ['sum'] -/
def c14 : CSs := .cons (.ret (.blt .sum (.cons (.comp false (.bin .sub (.var 2) (.var 1)) (.tp [1, 2]) (.seq (.var 0)) .none [1, 2]) .nil))) .nil
def sp14 : SpD := fun ds M Q _ => ∃ A : List (Int × Int), ds = [.tup (A.map pr)] ∧ A.length ≤ sizeLine ∧ Q (.int (A.map fun p => p.2 - p.1).sum) M
theorem ln14 : ∀ ds M Q E, sp14 ds M Q E → ds.length = 1 := by
  rintro _ _ _ _ ⟨_, rfl, _⟩; rfl
theorem rd14 {Φ : Nat → SpD} {κ : Nat → D} : RdOk Φ κ c14 3 sp14 := by
  rintro ds M Q E hM hd ⟨A, rfl, hsz, hQ⟩
  rw [c14]; walk_at "rd"
  refine comp_map pr (fun p : Int × Int => D.int (p.2 - p.1)) trivial hsz ?_ ?_
  · intro p hp yes no hy
    rw [pr_eq]; walk_at "rd"
    exact hy
  · rw [intsOf_map, intsQ_some]
    exact .keep hQ

/-! def 557: word_of; slots 0:tree 1:first 2:second; calls [('size', 14), ('contains', 13), ('character', 45), ('word_of', 557)]; consts [('TEXT_CODES', 9)]; built-ins [] -/
abbrev c557_4 : CSs := .cons (.ret (.str "")) .nil
abbrev c557_5 : CSs := .cons (.ret (.call 45 (.cons (.idx (.idx (.idx (.var 0) (.int 1)) (.int 0)) (.int 0)) .nil))) .nil
abbrev c557_8 : CSs := .cons (.ret (.bin .add (.var 1) (.var 2))) .nil
abbrev c557_7 : CSs := .cons (.ifs (.and (.cmp .notN (.var 1) .non) (.cmp .notN (.var 2) .non)) c557_8 .nil) .nil
abbrev c557_6 : CSs := .cons (.setP [1, 2] (.cons (.call 557 (.cons (.idx (.var 0) (.int 1)) .nil)) (.cons (.call 557 (.cons (.idx (.var 0) (.int 2)) .nil)) .nil))) c557_7
abbrev c557_3 : CSs := .cons (.ret .non) .nil
abbrev c557_2 : CSs := .cons (.ifs (.cmp .eq (.idx (.var 0) (.int 0)) (.str "sequence")) c557_6 .nil) c557_3
abbrev c557_1 : CSs := .cons (.ifs (.and (.cmp .eq (.idx (.var 0) (.int 0)) (.str "set")) (.and (.cmp .eq (.call 14 (.cons (.idx (.var 0) (.int 1)) .nil)) (.int 1)) (.call 13 (.cons (.glob 9) (.cons (.idx (.idx (.idx (.var 0) (.int 1)) (.int 0)) (.int 0)) .nil))))) c557_5 .nil) c557_2
abbrev c557 : CSs := .cons (.ifs (.cmp .eq (.idx (.var 0) (.int 0)) (.str "empty")) c557_4 .nil) c557_1
def sp557 (n : Nat) : SpD := fun ds M Q _ => ∃ t : Pt, ds = [ptD t] ∧ t.ht < n ∧ t.ht ≤ 12 ∧ t.pl ∧ Q (wordD (word t)) M
theorem ln557 (n : Nat) : ∀ ds M Q E, sp557 n ds M Q E → ds.length = 1 := by
  rintro _ _ _ _ ⟨_, rfl, _⟩; rfl
theorem z557 : ∀ ds M Q E, sp557 0 ds M Q E → False := by
  rintro _ _ _ _ ⟨_, _, h, _⟩; omega
theorem rd557 {Φ : Nat → SpD} {κ : Nat → D} {n : Nat} (h14 : Φ 14 = sp14) (h13 : Φ 13 = sp13) (h45 : Φ 45 = sp45) (h557 : Φ 557 = sp557 n) (hk9 : κ 9 = k9) : RdOk Φ κ c557 3 (sp557 (n + 1)) := by
  rintro ds M Q E hM hd ⟨t, rfl, hh, hh2, hp, hQ⟩
  have hk9 : κ 9 = .tup [.tup [.int 9, .int 11], .tup [.int 32, .int 37], .tup [.int 38, .int 127]] := hk9
  cases t with
  | set ps =>
    have hp : setOk ps := hp
    have hd' : ptD (.set ps) = .tup [.str "set", csD ps] := rfl
    rw [hd']
    walk_at "go"
    rw [h14]
    refine ⟨ps, rfl, by have := hp.1; rw [size_eq]; omega, ?_⟩
    walk_at "rd2"
    refine iteI (fun h => ?_) fun h => ?_
    · obtain ⟨a, rfl⟩ := size_one hp.2.1 h
      have hd2 : csD [(a, a + 1)] = .tup [.tup [.int a, .int (a + 1)]] := rfl
      have hq : word (.set [(a, a + 1)]) = oneC [(a, a + 1)] := rfl
      rw [hq, oneC_one] at hQ
      rw [hd2]
      walk_at "rd2"
      rw [h13]
      refine ⟨_, a, [(9, 11), (32, 37), (38, 127)], rfl, by rw [hk9]; rfl, ?_⟩
      cases hi : inP [(9, 11), (32, 37), (38, 127)] a with
      | true =>
        rw [hi, if_pos rfl] at hQ
        obtain ⟨h0, ht⟩ := text_set.mp hi
        walk_at "go"
        rw [h45]
        refine ⟨a.toNat, by rw [show ((a.toNat : Nat) : Int) = a by omega], ht, .keep hQ⟩
      | false =>
        rw [hi, if_neg (by decide)] at hQ
        walk_at "go"
        exact .keep hQ
    · have hq : word (.set ps) = oneC ps := rfl
      rw [hq, oneC_no h] at hQ
      walk_at "go"
      exact .keep hQ
  | empty =>
    simp only [ptD]
    walk_at "go"
    exact .keep hQ
  | seq x y =>
    have hx : max x.ht y.ht + 1 < n + 1 := hh
    have hy : max x.ht y.ht + 1 ≤ 12 := hh2
    simp only [ptD]
    walk_at "go"
    rw [h557]
    refine ⟨x, rfl, by omega, by omega, hp.1, ?_⟩
    walk_at "go"
    refine ⟨y, rfl, by omega, by omega, hp.2, ?_⟩
    have hq : word (.seq x y) = catO (word x) (word y) := rfl
    rw [hq] at hQ
    cases h1 : word x with
    | none =>
      rw [h1] at hQ
      rw [wordD_none]
      walk_at "go"
      cases h2 : word y with
      | none => rw [h2] at hQ; walk_at "go"; exact .keep hQ
      | some _ => rw [h2] at hQ; walk_at "go"; exact .keep hQ
    | some a =>
      rw [h1] at hQ
      rw [wordD_some]
      cases h2 : word y with
      | none =>
        rw [h2] at hQ
        rw [wordD_none]
        walk_at "go"
        exact .keep hQ
      | some b =>
        rw [h2] at hQ
        rw [wordD_some]
        walk_at "go"
        have l1 := word_len h1
        have l2 := word_len h2
        have e1 : 2 ^ (x.ht + 1) ≤ 2 ^ 20 := Nat.pow_le_pow_right (by omega) (by omega)
        have e2 : 2 ^ (y.ht + 1) ≤ 2 ^ 20 := Nat.pow_le_pow_right (by omega) (by omega)
        try refine ⟨by rw [tx_len, tx_len, size_eq]; omega, ?_⟩
        refine .keep ?_
        rw [show tx a ++ tx b = tx (a ++ b) from SX.S_cat a b]
        exact hQ
  | look a p t k =>
    cases k with
    | none => simp only [ptD]; walk_at "go"; exact .keep hQ
    | some k => simp only [ptD]; walk_at "go"; exact .keep hQ
  | _ => simp only [ptD]; walk_at "go"; exact .keep hQ

/-! def 562: Facts.__init__; slots 0:self 1:tree 2:shortest 3:longest 4:begins 5:needs 6:anchored; calls [('facts_of', 556), ('word_of', 557)]; consts []; built-ins [] -/
abbrev c562_6 : CSs := .cons (.setFld "Facts" (.var 0) "word" (.call 557 (.cons (.var 1) .nil))) .nil
abbrev c562_5 : CSs := .cons (.setFld "Facts" (.var 0) "anchored" (.var 6)) c562_6
abbrev c562_4 : CSs := .cons (.setFld "Facts" (.var 0) "needs" (.var 5)) c562_5
abbrev c562_3 : CSs := .cons (.setFld "Facts" (.var 0) "begins" (.var 4)) c562_4
abbrev c562_2 : CSs := .cons (.setFld "Facts" (.var 0) "longest" (.var 3)) c562_3
abbrev c562_1 : CSs := .cons (.setFld "Facts" (.var 0) "shortest" (.var 2)) c562_2
abbrev c562 : CSs := .cons (.setT [2, 3, 4, 5, 6] (.call 556 (.cons (.var 1) .nil))) c562_1
noncomputable def factsV (t : Pt) : D := .obj "Facts" ["shortest", "longest", "begins", "needs", "anchored", "word"] [.int (facts t).sh, onD (facts t).lg, csD (facts t).be, .tup ((facts t).ne.map csD), .bl (facts t).an, wordD (word t)]
def sp562 : SpD := fun ds M Q _ => ∃ (M0 : Md) (t : Pt), ds = [.ref M0.length, ptD t] ∧ M = M0 ++ [.ins "Facts" []] ∧ t.ht ≤ 12 ∧ t.pl ∧ t.sm ∧ ((facts t).Ok (t.ht + 1) → Q .non (M0 ++ [.ins "Facts" [("shortest", .int (facts t).sh), ("longest", onD (facts t).lg), ("begins", csD (facts t).be), ("needs", .tup ((facts t).ne.map csD)), ("anchored", .bl (facts t).an), ("word", wordD (word t))]]))
theorem ln562 : ∀ ds M Q E, sp562 ds M Q E → ds.length = 2 := by
  rintro _ _ _ _ ⟨_, _, rfl, _⟩; rfl
theorem rd562 {Φ : Nat → SpD} {κ : Nat → D} (h556 : Φ 556 = sp556 (13)) (h557 : Φ 557 = sp557 (13)) : RdOk Φ κ c562 7 (sp562) := by
  rintro ds M Q E hM hd ⟨M0, t, rfl, rfl, hh, hp, hs, hQ⟩
  walk_at "go"
  rw [h556]
  refine ⟨t, rfl, by omega, hh, hp, hs, fun hok => ?_⟩
  rw [faD_eq]
  walk_at "go"
  rw [h557]
  refine ⟨t, rfl, by omega, hh, hp, ?_⟩
  walk_at "go"
  exact .keep (hQ hok)

/-! def 181: _law_both; slots 0:_law_a 1:_law_b 2:_law_code; calls [('_law_ranges', 5), ('_law_in', 51)]; consts []; built-ins ['range'] -/
abbrev c181 : CSs := .cons (.ret (.call 5 (.cons (.comp false (.or (.call 51 (.cons (.var 0) (.cons (.var 2) .nil))) (.call 51 (.cons (.var 1) (.cons (.var 2) .nil)))) (.nm 2) (.rng1 (.int 128)) .none [2]) .nil))) .nil
def sp181 : SpD := fun ds M Q _ => ∃ A B : List (Int × Int), ds = [csD A, csD B] ∧ setOk A ∧ setOk B ∧ ∀ L, Canon L → (∀ x : Int, inP L x = true ↔ inP A x = true ∨ inP B x = true) → Q (csD L) M
theorem ln181 : ∀ ds M Q E, sp181 ds M Q E → ds.length = 2 := by
  rintro _ _ _ _ ⟨_, _, rfl, _⟩; rfl
theorem rd181 {Φ : Nat → SpD} {κ : Nat → D} (h5 : Φ 5 = sp5) (h51 : Φ 51 = sp51) : RdOk Φ κ c181 3 (sp181) := by
  rintro ds M Q E hM hd ⟨A, B, rfl, hA, hB, hQ⟩
  walk_at "go"
  refine comp_bits (f := fun i => inP A i || inP B i) ?_ ?_
  · intro i hi yes no hy
    try walk_at "rd2"
    rw [h51]
    refine ⟨_, i, A, rfl, rfl, ?_⟩
    cases h1 : inP A i with
    | true =>
      rw [h1, Bool.true_or] at hy
      walk_at "rd2"
      exact hy
    | false =>
      rw [h1, Bool.false_or] at hy
      walk_at "rd2"
      refine ⟨_, i, B, rfl, rfl, ?_⟩
      exact hy
  · try walk_at "rd2"
    rw [h5]
    refine ⟨(List.range 128).map fun i : Nat => inP A i || inP B i, by unfold bitsD; rw [List.map_map]; rfl, by simp, fun L h1 h2 => .keep (hQ L h1 fun x => ?_)⟩
    rw [h2]
    constructor
    · rintro ⟨h0, h3⟩
      obtain ⟨j, rfl⟩ : ∃ j : Nat, x = j := ⟨x.toNat, by omega⟩
      rw [Int.toNat_natCast, List.getElem?_map] at h3
      by_cases hj : j < 128
      · rw [List.getElem?_range hj] at h3
        simpa using h3
      · rw [List.getElem?_eq_none (by simp; omega)] at h3
        cases h3
    · intro h
      have hb : 0 ≤ x ∧ x < 128 := by
        rcases h with h | h
        · exact hA.2.2 x h
        · exact hB.2.2 x h
      refine ⟨hb.1, ?_⟩
      obtain ⟨j, rfl⟩ : ∃ j : Nat, x = j := ⟨x.toNat, by omega⟩
      rw [Int.toNat_natCast, List.getElem?_map, List.getElem?_range (show j < 128 by omega)]
      simpa using h

theorem sl_txE {cs : List Nat} {m : Bool} {lo hi : Option Int} {M : Md} {Q : QE} : slD m (.str (tx cs)) lo hi M Q = (cs.length ≤ sizeLine ∧ Q (.str (tx (cutD cs lo hi))) M) := by
  rw [sl_str', tx_len]
theorem tx_cat {a b : List Nat} : tx a ++ tx b = tx (a ++ b) := SX.S_cat a b
theorem cut_mid {α : Type} {xs : List α} {n k : Nat} (h : n + k ≤ xs.length) : cutD xs (some (n : Int)) (some ((n : Int) + (k : Int))) = (xs.drop n).take k := by
  unfold cutD
  rw [show (n : Int) + (k : Int) = ((n + k : Nat) : Int) by omega, HT.sIx_nat, HT.sIx_nat, Nat.min_eq_left (by omega), Nat.min_eq_left (by omega), Nat.add_sub_cancel_left]
/-- an edit: place, number of removed ones, what is put in -/
def eD (p r : Nat) (ins : List Nat) : D := .tup [.int p, .int r, .str (tx ins)]
theorem eD_eq (p r : Nat) (ins : List Nat) : eD p r ins = .tup [.int p, .int r, .str (tx ins)] := rfl
def edl (cs : List Nat) (p r : Nat) (ins : List Nat) : List Nat := cs.take p ++ ins ++ cs.drop (p + r)
theorem edl_len {cs : List Nat} {p r : Nat} {ins : List Nat} (h : p + r ≤ cs.length) : (edl cs p r ins).length = cs.length - r + ins.length := by
  simp [edl]; omega
theorem edl_back {cs : List Nat} {p r : Nat} {ins : List Nat} (h : p + r ≤ cs.length) : edl (edl cs p r ins) p ins.length ((cs.drop p).take r) = cs := by
  have h1 : (cs.take p).length = p := by rw [List.length_take]; omega
  unfold edl
  have e1 : (cs.take p ++ ins ++ cs.drop (p + r)).take p = cs.take p := by rw [List.append_assoc, List.take_left' h1]
  have e2 : (cs.take p ++ ins ++ cs.drop (p + r)).drop (p + ins.length) = cs.drop (p + r) := List.drop_left' (by rw [List.length_append, h1])
  rw [e1, e2, List.append_assoc, ← List.drop_drop, List.take_append_drop, List.take_append_drop]
theorem edl_mid {cs : List Nat} {p r : Nat} {ins : List Nat} (h : p + r ≤ cs.length) : ((edl cs p r ins).drop p).take ins.length = ins := by
  have h1 : (cs.take p).length = p := by rw [List.length_take]; omega
  unfold edl
  rw [List.append_assoc, List.drop_left' h1, List.take_left' rfl]
theorem edl_lo {cs : List Nat} {p r : Nat} {ins : List Nat} {i : Nat} (h : p + r ≤ cs.length) (hi : i < p) : (edl cs p r ins)[i]? = cs[i]? := by
  unfold edl
  rw [List.append_assoc, List.getElem?_append_left (by rw [List.length_take]; omega), List.getElem?_take_of_lt hi]
theorem edl_hi {cs : List Nat} {p r : Nat} {ins : List Nat} {i : Nat} (h : p + r ≤ cs.length) (hi : p + ins.length ≤ i) : (edl cs p r ins).drop i = cs.drop (i + r - ins.length) := by
  have h1 : (cs.take p ++ ins).length = p + ins.length := by rw [List.length_append, List.length_take]; omega
  unfold edl
  rw [List.drop_append, h1, List.drop_eq_nil_of_le (by omega), List.nil_append, List.drop_drop]
  congr 1; omega
def okEd (cs : List Nat) (p r : Nat) (ins : List Nat) : Prop := p + r ≤ cs.length ∧ cs.length - r + ins.length ≤ 100 ∧ cs.length ≤ 1000 ∧ ins.length ≤ 1000
theorem mk_tx {l : List Nat} : (⟨l.toArray⟩ : Str) = tx l := rfl
/-- the text behind an edit, as it is put together -/
theorem edl_tx {cs ins : List Nat} {p r : Nat} : (⟨(cutD cs none (some (p : Int))).toArray⟩ : Str) ++ tx ins ++ ⟨(cutD cs (some ((p : Int) + (r : Int))) none).toArray⟩ = tx (edl cs p r ins) := by
  rw [cut_to, show (p : Int) + (r : Int) = ((p + r : Nat) : Int) by omega, cut_from, mk_tx, mk_tx, tx_cat, tx_cat]; rfl
theorem edl_sz {cs ins : List Nat} {p r : Nat} (h : okEd cs p r ins) : (⟨(cutD cs none (some (p : Int))).toArray⟩ : Str).length + (tx ins).length ≤ sizeLine ∧ (tx cs).length ≤ sizeLine ∧
    ((⟨(cutD cs none (some (p : Int))).toArray⟩ : Str) ++ tx ins).length + (⟨(cutD cs (some ((p : Int) + (r : Int))) none).toArray⟩ : Str).length ≤ sizeLine := by
  obtain ⟨h1, h2, h3, h4⟩ := h
  rw [cut_to, show (p : Int) + (r : Int) = ((p + r : Nat) : Int) by omega, cut_from, mk_tx, mk_tx, tx_cat, tx_len, tx_len, tx_len, tx_len, tx_len, size_eq]
  simp only [List.length_append, List.length_take, List.length_drop]
  omega

/-! def 182: _law_sum; slots 0:_law_a 1:_law_b; calls []; consts []; built-ins [] -/
abbrev c182 : CSs := .cons (.ret (.ife (.or (.cmp .isN (.var 0) .non) (.cmp .isN (.var 1) .non)) .non (.bin .add (.var 0) (.var 1)))) .nil
def sp182 : SpD := fun ds M Q _ => (∃ a b : Option Nat, ds = [onD a, onD b] ∧ Q (onD (sumO a b)) M) ∨ ∃ a b : Option (List Nat), ds = [wordD a, wordD b] ∧ (∀ l, a = some l → l.length ≤ 1000000) ∧ (∀ l, b = some l → l.length ≤ 1000000) ∧ Q (wordD (catO a b)) M
theorem ln182 : ∀ ds M Q E, sp182 ds M Q E → ds.length = 2 := by
  rintro _ _ _ _ (⟨_, _, rfl, _⟩ | ⟨_, _, rfl, _⟩) <;> rfl
theorem rd182 {Φ : Nat → SpD} {κ : Nat → D} : RdOk Φ κ c182 2 sp182 := by
  rintro ds M Q E hM hd (⟨a, b, rfl, hQ⟩ | ⟨a, b, rfl, h1, h2, hQ⟩)
  · cases a with
    | none => rw [on_none]; walk_at "go"; exact .keep hQ
    | some x =>
      cases b with
      | none => rw [on_some, on_none]; walk_at "go"; exact .keep hQ
      | some y =>
        rw [on_some, on_some]; walk_at "go"
        refine .keep ?_
        rw [show (x : Int) + (y : Int) = ((x + y : Nat) : Int) by omega]
        exact hQ
  · cases a with
    | none => rw [wordD_none]; walk_at "go"; exact .keep hQ
    | some x =>
      cases b with
      | none => rw [wordD_some, wordD_none]; walk_at "go"; exact .keep hQ
      | some y =>
        rw [wordD_some, wordD_some]; walk_at "go"
        have l1 := h1 x rfl
        have l2 := h2 y rfl
        refine ⟨by rw [tx_len, tx_len, size_eq]; omega, ?_⟩
        refine .keep ?_
        rw [tx_cat]
        exact hQ

/-! def 180: _law_facts; slots 0:_law_tree_here 1:_law_a 2:_law_b 3:_law_begins 4:_law_longest 5:_law_needs 6:_law_codes_here; calls [('_law_facts', 180), ('_law_both', 181), ('_law_sum', 182)]; consts []; built-ins ['max', 'tuple', 'min'] -/
abbrev c180_5 : CSs := .cons (.ret (.tup (.cons (.int 1) (.cons (.int 1) (.cons (.idx (.var 0) (.int 1)) (.cons (.tup (.cons (.idx (.var 0) (.int 1)) .nil)) (.cons (.bl false) .nil))))))) .nil
abbrev c180_6 : CSs := .cons (.ret (.call 180 (.cons (.idx (.var 0) (.int 2)) .nil))) .nil
abbrev c180_14 : CSs := .cons (.ret (.tup (.cons (.blt .min2 (.cons (.idx (.var 1) (.int 0)) (.cons (.idx (.var 2) (.int 0)) .nil))) (.cons (.var 4) (.cons (.call 181 (.cons (.idx (.var 1) (.int 2)) (.cons (.idx (.var 2) (.int 2)) .nil))) (.cons (.var 5) (.cons (.and (.idx (.var 1) (.int 4)) (.idx (.var 2) (.int 4))) .nil))))))) .nil
abbrev c180_13 : CSs := .cons (.set 5 (.blt .tuple (.cons (.comp false (.var 6) (.nm 6) (.seq (.idx (.var 1) (.int 3))) (.some (.cmp .inn (.var 6) (.idx (.var 2) (.int 3)))) [6]) .nil))) c180_14
abbrev c180_12 : CSs := .cons (.set 4 (.ife (.or (.cmp .isN (.idx (.var 1) (.int 1)) .non) (.cmp .isN (.idx (.var 2) (.int 1)) .non)) .non (.blt .max2 (.cons (.idx (.var 1) (.int 1)) (.cons (.idx (.var 2) (.int 1)) .nil))))) c180_13
abbrev c180_11 : CSs := .cons (.ret (.tup (.cons (.bin .add (.idx (.var 1) (.int 0)) (.idx (.var 2) (.int 0))) (.cons (.call 182 (.cons (.idx (.var 1) (.int 1)) (.cons (.idx (.var 2) (.int 1)) .nil))) (.cons (.var 3) (.cons (.bin .add (.idx (.var 1) (.int 3)) (.idx (.var 2) (.int 3))) (.cons (.or (.idx (.var 1) (.int 4)) (.and (.cmp .eq (.idx (.var 1) (.int 1)) (.int 0)) (.idx (.var 2) (.int 4)))) .nil))))))) .nil
abbrev c180_10 : CSs := .cons (.set 3 (.ife (.cmp .gt (.idx (.var 1) (.int 0)) (.int 0)) (.idx (.var 1) (.int 2)) (.call 181 (.cons (.idx (.var 1) (.int 2)) (.cons (.idx (.var 2) (.int 2)) .nil))))) c180_11
abbrev c180_9 : CSs := .cons (.ifs (.cmp .eq (.idx (.var 0) (.int 0)) (.str "choice")) c180_12 .nil) c180_10
abbrev c180_8 : CSs := .cons (.set 2 (.call 180 (.cons (.idx (.var 0) (.int 2)) .nil))) c180_9
abbrev c180_7 : CSs := .cons (.set 1 (.call 180 (.cons (.idx (.var 0) (.int 1)) .nil))) c180_8
abbrev c180_20 : CSs := .cons (.set 4 (.ife (.cmp .isN (.idx (.var 0) (.int 3)) .non) .non (.bin .mul (.var 4) (.idx (.var 0) (.int 3))))) .nil
abbrev c180_21 : CSs := .cons (.ret (.tup (.cons (.int 0) (.cons (.var 4) (.cons (.idx (.var 1) (.int 2)) (.cons (.tup .nil) (.cons (.bl false) .nil))))))) .nil
abbrev c180_19 : CSs := .cons (.ret (.tup (.cons (.bin .mul (.idx (.var 1) (.int 0)) (.idx (.var 0) (.int 2))) (.cons (.var 4) (.cons (.idx (.var 1) (.int 2)) (.cons (.idx (.var 1) (.int 3)) (.cons (.idx (.var 1) (.int 4)) .nil))))))) .nil
abbrev c180_18 : CSs := .cons (.ifs (.cmp .eq (.idx (.var 0) (.int 2)) (.int 0)) c180_21 .nil) c180_19
abbrev c180_17 : CSs := .cons (.ifs (.and (.cmp .ne (.var 4) (.int 0)) (.cmp .notN (.var 4) .non)) c180_20 .nil) c180_18
abbrev c180_16 : CSs := .cons (.set 4 (.idx (.var 1) (.int 1))) c180_17
abbrev c180_15 : CSs := .cons (.set 1 (.call 180 (.cons (.idx (.var 0) (.int 1)) .nil))) c180_16
abbrev c180_4 : CSs := .cons (.ret (.tup (.cons (.int 0) (.cons (.int 0) (.cons (.tup .nil) (.cons (.tup .nil) (.cons (.and (.cmp .eq (.idx (.var 0) (.int 0)) (.str "anchor")) (.cmp .eq (.idx (.var 0) (.int 1)) (.str "text_start"))) .nil))))))) .nil
abbrev c180_3 : CSs := .cons (.ifs (.and (.cmp .eq (.idx (.var 0) (.int 0)) (.str "repeat")) (.cmp .ne (.idx (.var 0) (.int 3)) (.int 0))) c180_15 .nil) c180_4
abbrev c180_2 : CSs := .cons (.ifs (.or (.cmp .eq (.idx (.var 0) (.int 0)) (.str "sequence")) (.cmp .eq (.idx (.var 0) (.int 0)) (.str "choice"))) c180_7 .nil) c180_3
abbrev c180_1 : CSs := .cons (.ifs (.cmp .eq (.idx (.var 0) (.int 0)) (.str "group")) c180_6 .nil) c180_2
abbrev c180 : CSs := .cons (.ifs (.cmp .eq (.idx (.var 0) (.int 0)) (.str "set")) c180_5 .nil) c180_1
def sp180 (n : Nat) : SpD := fun ds M Q _ => ∃ t : Pt, ds = [ptD t] ∧ t.ht < n ∧ t.ht ≤ 12 ∧ t.pl ∧ t.sm ∧ ((facts t).Ok (t.ht + 1) → Q (faD (facts t)) M)
theorem ln180 (n : Nat) : ∀ ds M Q E, sp180 n ds M Q E → ds.length = 1 := by
  rintro _ _ _ _ ⟨_, rfl, _⟩; rfl
theorem z180 : ∀ ds M Q E, sp180 0 ds M Q E → False := by
  rintro _ _ _ _ ⟨_, _, h, _⟩; omega
theorem rd180 {Φ : Nat → SpD} {κ : Nat → D} {n : Nat} (h180 : Φ 180 = sp180 n) (h181 : Φ 181 = sp181) (h182 : Φ 182 = sp182) : RdOk Φ κ c180 7 (sp180 (n + 1)) := by
  rintro ds M Q E hM hd ⟨t, rfl, hh, hh2, hp, hs, hQ⟩
  cases t with
  | set ps =>
    simp only [ptD]
    walk_at "go"
    refine .keep ?_
    exact hQ ⟨hp, by show 1 ≤ 2 ^ _; exact Nat.one_le_two_pow, fun c hc => by rw [List.mem_singleton.mp hc]; exact hp⟩
  | grp m t =>
    have hx : t.ht + 1 < n + 1 := hh
    have hy : t.ht + 1 ≤ 12 := hh2
    simp only [ptD]
    walk_at "go"
    rw [h180]
    exact ⟨t, rfl, by omega, by omega, hp, hs, fun h => .keep (hQ (h.up (by show _ ≤ t.ht + 1 + 1; omega)))⟩
  | seq x y =>
    have hx : max x.ht y.ht + 1 < n + 1 := hh
    have hy : max x.ht y.ht + 1 ≤ 12 := hh2
    simp only [ptD]
    walk_at "go"
    rw [h180]
    refine ⟨x, rfl, by omega, by omega, hp.1, hs.1, fun hx1 => ?_⟩
    walk_at "go"
    rw [h180]
    refine ⟨y, rfl, by omega, by omega, hp.2, hs.2, fun hy1 => ?_⟩
    rw [faD_eq, faD_eq]
    obtain ⟨a, ea⟩ : ∃ a, a = facts x := ⟨_, rfl⟩
    obtain ⟨b, eb⟩ : ∃ b, b = facts y := ⟨_, rfl⟩
    have hq : facts (.seq x y) = a.seq b := by rw [ea, eb]; rfl
    rw [hq] at hQ
    rw [← ea] at hx1 ⊢
    rw [← eb] at hy1 ⊢
    have hn : x.ht + 1 < max x.ht y.ht + 1 + 1 := by omega
    have hm : y.ht + 1 < max x.ht y.ht + 1 + 1 := by omega
    have hsz : a.ne.length + b.ne.length ≤ sizeLine := by
      have := hx1.len; have := hy1.len
      have e1 : 2 ^ (x.ht + 1) ≤ 2 ^ 20 := Nat.pow_le_pow_right (by omega) (by omega)
      have e2 : 2 ^ (y.ht + 1) ≤ 2 ^ 20 := Nat.pow_le_pow_right (by omega) (by omega)
      rw [size_eq]; omega
    have rest : ∀ L : List (Int × Int), (a.seq b).Ok (max x.ht y.ht + 1 + 1) → (a.seq b).be = L → nxt Φ κ c180_11 (fun x _ M => E x M) (endsD M.length Q) [some (.tup [.str "sequence", ptD x, ptD y]), some (.tup [.int a.sh, onD a.lg, csD a.be, .tup (a.ne.map csD), .bl a.an]), some (.tup [.int b.sh, onD b.lg, csD b.be, .tup (b.ne.map csD), .bl b.an]), some (csD L), none, none, none] M := by
      intro L hok hL
      have hQ := hQ hok
      walk_at "go"
      rw [h182]
      refine .inl ⟨a.lg, b.lg, rfl, ?_⟩
      walk_at "go"
      refine ⟨by rw [List.length_map, List.length_map]; exact hsz, ?_⟩
      have fin : ∀ z : Bool, z = (a.seq b).an → Fin M.length Q (.tup [.int ((a.sh : Int) + (b.sh : Int)), onD (sumO a.lg b.lg), csD L, .tup (a.ne.map csD ++ b.ne.map csD), .bl z]) M := by
        intro z hz
        refine .keep ?_
        rw [show (a.sh : Int) + (b.sh : Int) = (((a.seq b).sh : Nat) : Int) from rfl, ← List.map_append, ← hL, hz]
        exact hQ
      cases h1 : a.an with
      | true =>
        walk_at "go"
        exact fin _ (by simp [Fa.seq, h1])
      | false =>
        walk_at "go"
        cases h2 : a.lg with
        | none =>
          rw [on_none]
          walk_at "go"
          have := fin false (by simp [Fa.seq, h1, h2])
          rw [h2] at this
          exact this
        | some x =>
          rw [on_some]
          walk_at "go"
          refine iteI (fun hx => ?_) fun hx => ?_
          · have := fin b.an (by have : x = 0 := by omega
                                 subst this; simp [Fa.seq, h1, h2])
            rw [h2] at this
            exact this
          · have := fin false (by have : x ≠ 0 := by omega
                                  simp [Fa.seq, h1, h2, this])
            rw [h2] at this
            rw [decide_eq_false hx]
            exact this
    walk_at "go"
    refine iteI (fun h => ?_) fun h => ?_
    · have h0 : a.sh ≠ 0 := by omega
      exact rest a.be (hx1.seq' hy1 hn hm h0) (by show (if a.sh = 0 then uni a.be b.be else a.be) = _; rw [if_neg h0])
    · have h0 : a.sh = 0 := by omega
      rw [h181]
      refine ⟨a.be, b.be, rfl, hx1.be, hy1.be, fun L h1 h2 => ?_⟩
      walk_at "rd2"
      exact rest L (hx1.seq hy1 hn hm h1 h2) (by show (if a.sh = 0 then uni a.be b.be else a.be) = L; rw [if_pos h0, uni_eq h1 h2])
  | alt x y =>
    have hx : max x.ht y.ht + 1 < n + 1 := hh
    have hy : max x.ht y.ht + 1 ≤ 12 := hh2
    simp only [ptD]
    walk_at "go"
    rw [h180]
    refine ⟨x, rfl, by omega, by omega, hp.1, hs.1, fun hx1 => ?_⟩
    walk_at "go"
    rw [h180]
    refine ⟨y, rfl, by omega, by omega, hp.2, hs.2, fun hy1 => ?_⟩
    rw [faD_eq, faD_eq]
    obtain ⟨a, ea⟩ : ∃ a, a = facts x := ⟨_, rfl⟩
    obtain ⟨b, eb⟩ : ∃ b, b = facts y := ⟨_, rfl⟩
    have hq : facts (.alt x y) = a.alt b := by rw [ea, eb]; rfl
    rw [hq] at hQ
    rw [← ea] at hx1 ⊢
    rw [← eb] at hy1 ⊢
    have hn : x.ht + 1 < max x.ht y.ht + 1 + 1 := by omega
    have hm : y.ht + 1 < max x.ht y.ht + 1 + 1 := by omega
    have hsz : a.ne.length ≤ sizeLine := by
      have := hx1.len
      have e1 : 2 ^ (x.ht + 1) ≤ 2 ^ 20 := Nat.pow_le_pow_right (by omega) (by omega)
      rw [size_eq]; omega
    have rest : nxt Φ κ c180_13 (fun x _ M => E x M) (endsD M.length Q) [some (.tup [.str "choice", ptD x, ptD y]), some (.tup [.int a.sh, onD a.lg, csD a.be, .tup (a.ne.map csD), .bl a.an]), some (.tup [.int b.sh, onD b.lg, csD b.be, .tup (b.ne.map csD), .bl b.an]), none, some (onD (maxO a.lg b.lg)), none, none] M := by
      walk_at "go"
      refine comp_fmap csD (fun c => if decide (c ∈ b.ne) = true then some (csD c) else none) trivial hsz ?_ ?_
      · intro c hc yes no hy
        try walk_at "rd2"
        rw [in_cs]
        by_cases h : c ∈ b.ne
        · rw [if_pos (by simpa using h)] at hy
          simp only [h, decide_true]
          exact hy
        · rw [if_neg (by simpa using h)] at hy
          simp only [h, decide_false]
          exact hy
      rw [fmap_filter csD fun c => decide (c ∈ b.ne)]
      walk_at "go"
      rw [h181]
      refine ⟨a.be, b.be, rfl, hx1.be, hy1.be, fun L h1 h2 => ?_⟩
      have hQ := hQ (hx1.alt hy1 hn hm h1 h2)
      have fin : ∀ z : Bool, z = (a.alt b).an → Fin M.length Q (.tup [.int (min a.sh b.sh : Nat), onD (maxO a.lg b.lg), csD L, .tup ((a.ne.filter fun c => decide (c ∈ b.ne)).map csD), .bl z]) M := by
        intro z hz
        refine .keep ?_
        rw [hz, show csD L = csD (a.alt b).be by show csD L = csD (uni a.be b.be); rw [uni_eq h1 h2]]
        exact hQ
      walk_at "go"
      rw [minI]
      cases h3 : a.an with
      | true => walk_at "go"; exact fin _ (by simp [Fa.alt, h3])
      | false => walk_at "go"; exact fin _ (by simp [Fa.alt, h3])
    walk_at "go"
    cases h1 : a.lg with
    | none =>
      rw [h1] at rest
      rw [on_none] at rest ⊢
      walk_at "rd2"
      exact rest
    | some u =>
      rw [h1] at rest
      cases h2 : b.lg with
      | none =>
        rw [h2] at rest
        rw [on_none, on_some] at rest ⊢
        walk_at "rd2"
        exact rest
      | some v =>
        rw [h2] at rest
        rw [show maxO (some u) (some v) = some (max u v) from rfl] at rest
        rw [on_some u, on_some v] at rest ⊢
        walk_at "rd2"
        rw [maxI]
        exact rest
  | rep t lo hi g =>
    have hx : t.ht + 1 < n + 1 := hh
    have hy : t.ht + 1 ≤ 12 := hh2
    have hd' : ptD (.rep t lo hi g) = .tup [.str "repeat", ptD t, .int lo, onD hi, .bl g] := rfl
    rw [hd']
    walk_at "go"
    have main : hi ≠ some 0 → nxt Φ κ c180_15 (fun x _ M => E x M) (endsD M.length Q) [some (.tup [.str "repeat", ptD t, .int lo, onD hi, .bl g]), none, none, none, none, none, none] M := by
      intro h0
      walk_at "go"
      rw [h180]
      refine ⟨t, rfl, by omega, by omega, hp, hs.1, fun hok => ?_⟩
      have hQ := hQ ((hok.rep (lo := lo) (hi := hi)).up (by show _ ≤ t.ht + 1 + 1; omega))
      have hq : facts (.rep t lo hi g) = (facts t).rep lo hi := rfl
      rw [hq] at hQ
      obtain ⟨a, ea⟩ : ∃ a, a = facts t := ⟨_, rfl⟩
      rw [← ea] at hok hQ ⊢
      rw [faD_eq]
      walk_at "rd2"
      have tail : ∀ l : Option Nat, l = mulO a.lg hi → nxt Φ κ c180_18 (fun x _ M => E x M) (endsD M.length Q) [some (.tup [.str "repeat", ptD t, .int lo, onD hi, .bl g]), some (.tup [.int a.sh, onD a.lg, csD a.be, .tup (a.ne.map csD), .bl a.an]), none, none, some (onD l), none, none] M := by
        intro l hl
        walk_at "go"
        refine iteI (fun h => ?_) fun h => ?_
        · walk_at "go"
          refine .keep ?_
          have : a.rep lo hi = ⟨0, l, a.be, [], false⟩ := by unfold Fa.rep; rw [if_neg h0, if_pos (by omega), hl]
          rw [this] at hQ
          exact hQ
        · walk_at "go"
          refine ⟨.inr (by have := hs.2.1; omega), ?_⟩
          walk_at "go"
          refine .keep ?_
          have : a.rep lo hi = ⟨lo * a.sh, l, a.be, a.ne, a.an⟩ := by unfold Fa.rep; rw [if_neg h0, if_neg (by omega), hl]
          rw [this] at hQ
          rw [show (a.sh : Int) * (lo : Int) = ((lo * a.sh : Nat) : Int) by rw [Int.natCast_mul, Int.mul_comm]]
          exact hQ
      refine nxt_of ?_
      walk_at "rd2"
      refine nxt_of ?_
      cases hl : a.lg with
      | none =>
        have := tail none (by rw [hl]; rfl)
        rw [hl] at this
        rw [on_none] at this ⊢
        walk_at "rd2"
        exact this
      | some x =>
        have tail := tail
        rw [hl] at tail
        rw [on_some] at tail ⊢
        walk_at "rd2"
        cases x with
        | zero =>
          simp only [Int.natCast_zero, decide_true, Bool.true_eq_false, if_false]
          exact tail (some 0) rfl
        | succ x =>
          rw [if_pos (decide_eq_false (by omega))]
          refine nxt_of ?_
          cases hi with
          | none =>
            have := tail none rfl
            rw [on_none] at this ⊢
            walk_at "rd2"
            exact this
          | some y =>
            have := tail (some (y * (x + 1))) rfl
            rw [on_some, on_some] at this
            rw [on_some]
            walk_at "rd2"
            refine ⟨.inr (by have := hs.2.2 y rfl; omega), ?_⟩
            try walk_at "rd2"
            rw [show ((x + 1 : Nat) : Int) * (y : Int) = ((y * (x + 1) : Nat) : Int) by rw [Int.natCast_mul, Int.mul_comm]]
            exact this
    cases hi with
    | none =>
      have main := main (by simp)
      rw [on_none] at main ⊢
      walk_at "rd2"
      exact main
    | some y =>
      have main := main
      rw [on_some] at main ⊢
      walk_at "rd2"
      refine iteI (fun h => ?_) fun h => ?_
      · exact main (by intro e; cases e; simp at h)
      · have h : y = 0 := by simpa using h
        walk_at "go"
        have : facts (.rep t lo (some y) g) = .nil := by show (facts t).rep lo (some y) = _; unfold Fa.rep; rw [if_pos (by rw [h])]
        rw [this] at hQ
        exact .keep (hQ .nil)
  | empty =>
    simp only [ptD]
    walk_at "go"
    exact .keep (hQ .nil)
  | anchor s =>
    simp only [ptD]
    walk_at "go"
    refine .keep (hQ ⟨setOk_nil, Nat.zero_le _, fun _ h => by cases h⟩)
  | look a p t k =>
    cases k with
    | none => simp only [ptD]; walk_at "go"; exact .keep (hQ .nil)
    | some k => simp only [ptD]; walk_at "go"; exact .keep (hQ .nil)

/-! def 85: _law_sign; slots 0:_law_code 1:_law_signs; calls []; consts []; built-ins ['int'] -/
abbrev c85_4 : CSs := .cons (.ret (.idx (.lst false (.cons (.str "\t") (.cons (.str "\n") .nil))) (.bin .sub (.var 0) (.int 9)))) .nil
abbrev c85_3 : CSs := .cons (.ret (.idx (.var 1) (.bin .sub (.bin .sub (.var 0) (.int 32)) (.blt .int (.cons (.cmp .gt (.var 0) (.int 37)) .nil))))) .nil
abbrev c85_2 : CSs := .cons (.set 1 (.bin .add (.var 1) (.str "abcdefghijklmnopqrstuvwxyz{|}~"))) c85_3
abbrev c85_1 : CSs := .cons (.set 1 (.str " !\"#$&'()*+,-./0123456789:;<=>?@ABCDEFGHIJKLMNOPQRSTUVWXYZ[\\]^_`")) c85_2
abbrev c85 : CSs := .cons (.ifs (.cmp .lt (.var 0) (.int 32)) c85_4 .nil) c85_1
def sp85 : SpD := fun ds M Q _ => ∃ x : Nat, ds = [.int x] ∧ textC x ∧ Q (.str (tx [x])) M
theorem ln85 : ∀ ds M Q E, sp85 ds M Q E → ds.length = 1 := by
  rintro _ _ _ _ ⟨_, rfl, _⟩; rfl
theorem sign_eq : (" !\"#$&'()*+,-./0123456789:;<=>?@ABCDEFGHIJKLMNOPQRSTUVWXYZ[\\]^_`" : Str) ++ ("abcdefghijklmnopqrstuvwxyz{|}~" : Str) = visS := by decide +kernel
theorem sign_l1 : (" !\"#$&'()*+,-./0123456789:;<=>?@ABCDEFGHIJKLMNOPQRSTUVWXYZ[\\]^_`" : Str).length + ("abcdefghijklmnopqrstuvwxyz{|}~" : Str).length ≤ sizeLine := by decide +kernel
theorem rd85 {Φ : Nat → SpD} {κ : Nat → D} : RdOk Φ κ c85 2 (sp85) := by
  rintro ds M Q E hM hd ⟨x, rfl, hx, hQ⟩
  unfold textC at hx
  walk_at "go"
  refine iteI (fun h => ?_) fun h => ?_
  · walk_at "go"
    rcases hx with rfl | rfl | hx
    · walk_at "go"
      exact .keep hQ
    · walk_at "go"
      exact .keep hQ
    · omega
  · walk_at "go"
    refine ⟨sign_l1, ?_⟩
    try walk_at "go"
    rw [sign_eq]
    by_cases h37 : x > 37
    · rw [if_pos (show (37 : Int) < (x : Int) by omega)]
      have e : atI visS.cps.toList ((x : Int) - 32 - 1) = some x := by
        rw [show (x : Int) - 32 - 1 = ((x - 33 : Nat) : Int) by omega]
        refine atI_nat ?_
        rw [vis_at _ (by omega), if_neg (by omega)]
        congr 1
        omega
      rw [e]
      exact .keep hQ
    · rw [if_neg (show ¬ (37 : Int) < (x : Int) by omega)]
      have e : atI visS.cps.toList ((x : Int) - 32 - 0) = some x := by
        rw [show (x : Int) - 32 - 0 = ((x - 32 : Nat) : Int) by omega]
        refine atI_nat ?_
        rw [vis_at _ (by omega), if_pos (by omega)]
        congr 1
        omega
      rw [e]
      exact .keep hQ

/-! def 186: _law_word; slots 0:_law_tree_here 1:_law_code; calls [('_law_sum', 182), ('_law_word', 186), ('_law_sign', 85)]; consts []; built-ins ['len'] -/
abbrev c186_4 : CSs := .cons (.ret (.str "")) .nil
abbrev c186_5 : CSs := .cons (.ret (.call 182 (.cons (.call 186 (.cons (.idx (.var 0) (.int 1)) .nil)) (.cons (.call 186 (.cons (.idx (.var 0) (.int 2)) .nil)) .nil)))) .nil
abbrev c186_8 : CSs := .cons (.ret (.call 85 (.cons (.var 1) .nil))) .nil
abbrev c186_7 : CSs := .cons (.ifs (.or (.cmp .eq (.var 1) (.int 9)) (.or (.cmp .eq (.var 1) (.int 10)) (.and (.cmp .lt (.int 31) (.var 1)) (.and (.cmp .lt (.var 1) (.int 127)) (.cmp .ne (.var 1) (.int 37)))))) c186_8 .nil) .nil
abbrev c186_6 : CSs := .cons (.set 1 (.idx (.idx (.idx (.var 0) (.int 1)) (.int 0)) (.int 0))) c186_7
abbrev c186_3 : CSs := .cons (.ret .non) .nil
abbrev c186_2 : CSs := .cons (.ifs (.and (.cmp .eq (.idx (.var 0) (.int 0)) (.str "set")) (.and (.cmp .eq (.blt .len (.cons (.idx (.var 0) (.int 1)) .nil)) (.int 1)) (.cmp .eq (.idx (.idx (.idx (.var 0) (.int 1)) (.int 0)) (.int 1)) (.bin .add (.idx (.idx (.idx (.var 0) (.int 1)) (.int 0)) (.int 0)) (.int 1))))) c186_6 .nil) c186_3
abbrev c186_1 : CSs := .cons (.ifs (.cmp .eq (.idx (.var 0) (.int 0)) (.str "sequence")) c186_5 .nil) c186_2
abbrev c186 : CSs := .cons (.ifs (.cmp .eq (.idx (.var 0) (.int 0)) (.str "empty")) c186_4 .nil) c186_1
def sp186 (n : Nat) : SpD := fun ds M Q _ => ∃ t : Pt, ds = [ptD t] ∧ t.ht < n ∧ t.ht ≤ 12 ∧ Q (wordD (word t)) M
theorem ln186 (n : Nat) : ∀ ds M Q E, sp186 n ds M Q E → ds.length = 1 := by
  rintro _ _ _ _ ⟨_, rfl, _⟩; rfl
theorem z186 : ∀ ds M Q E, sp186 0 ds M Q E → False := by
  rintro _ _ _ _ ⟨_, _, h, _⟩; omega
theorem word_le {t : Pt} (h : t.ht ≤ 12) {l : List Nat} (e : word t = some l) : l.length ≤ 1000000 := by
  have := word_len e
  have e1 : 2 ^ (t.ht + 1) ≤ 2 ^ 13 := Nat.pow_le_pow_right (by omega) (by omega)
  omega
theorem rd186 {Φ : Nat → SpD} {κ : Nat → D} {n : Nat} (h182 : Φ 182 = sp182) (h186 : Φ 186 = sp186 n) (h85 : Φ 85 = sp85) : RdOk Φ κ c186 2 (sp186 (n + 1)) := by
  rintro ds M Q E hM hd ⟨t, rfl, hh, hh2, hQ⟩
  cases t with
  | set ps =>
    have hd' : ptD (.set ps) = .tup [.str "set", .tup (ps.map pr)] := rfl
    rw [hd']
    walk_at "go"
    have hq : word (.set ps) = oneC ps := rfl
    rw [hq] at hQ
    match ps, hQ with
    | [], hQ => walk_at "go"; exact .keep hQ
    | p :: q :: L, hQ =>
      rw [if_neg (by simp only [List.length_map, List.length_cons]; omega)]
      walk_at "go"
      exact .keep hQ
    | [(a, b)], hQ =>
      walk_at "go"
      rw [pr_eq]
      walk_at "go"
      have hq : oneC [(a, b)] = if b = a + 1 ∧ 0 ≤ a ∧ textC a.toNat then some [a.toNat] else none := rfl
      rw [hq] at hQ
      refine iteI (fun h => ?_) fun h => ?_
      · have no : ¬ (a = 9 ∨ a = 10 ∨ (31 < a ∧ a < 127 ∧ a ≠ 37)) → Q .non M := by
          intro z
          rw [if_neg (by unfold textC; omega)] at hQ
          exact hQ
        have yes : (a = 9 ∨ a = 10 ∨ (31 < a ∧ a < 127 ∧ a ≠ 37)) → Φ 85 [.int a] M (endsD M.length Q).rt E := by
          intro z
          rw [if_pos (by unfold textC; omega)] at hQ
          rw [h85]
          exact ⟨a.toNat, by rw [show ((a.toNat : Nat) : Int) = a by omega], by unfold textC; omega, .keep hQ⟩
        walk_at "go"
        refine iteI (fun h1 => ?_) fun h1 => ?_
        · walk_at "go"; exact yes (by omega)
        walk_at "go"
        refine iteI (fun h2 => ?_) fun h2 => ?_
        · walk_at "go"; exact yes (by omega)
        walk_at "go"
        refine iteI (fun h3 => ?_) fun h3 => ?_
        · walk_at "go"
          refine iteI (fun h4 => ?_) fun h4 => ?_
          · walk_at "go"
            refine iteI (fun h5 => ?_) fun h5 => ?_
            · have h5 : a ≠ 37 := by simpa using h5
              walk_at "go"; exact yes (by omega)
            · have h5 : a = 37 := by simpa using h5
              walk_at "go"; exact .keep (no (by omega))
          · walk_at "go"; exact .keep (no (by omega))
        · walk_at "go"; exact .keep (no (by omega))
      · rw [if_neg fun z => h z.1] at hQ
        walk_at "go"
        exact .keep hQ
  | empty =>
    simp only [ptD]
    walk_at "go"
    exact .keep hQ
  | seq x y =>
    have hx : max x.ht y.ht + 1 < n + 1 := hh
    have hy : max x.ht y.ht + 1 ≤ 12 := hh2
    simp only [ptD]
    walk_at "go"
    rw [h186]
    refine ⟨x, rfl, by omega, by omega, ?_⟩
    walk_at "go"
    refine ⟨y, rfl, by omega, by omega, ?_⟩
    walk_at "go"
    rw [h182]
    exact .inr ⟨_, _, rfl, fun l e => word_le (by omega) e, fun l e => word_le (by omega) e, .keep hQ⟩
  | look a p t k =>
    cases k with
    | none => simp only [ptD]; walk_at "go"; exact .keep hQ
    | some k => simp only [ptD]; walk_at "go"; exact .keep hQ
  | _ => simp only [ptD]; walk_at "go"; exact .keep hQ

/-! def 1173: law; slots 0:_law_script 1:_law_state 2:_law_tree_here 3:_law_facts_here 4:_law_expected 5:_law_found 6:_law_signs 7:_law_k 8:_law_code; calls [('_law_tree', 183), ('_law_digit', 2), ('Facts.__init__', 562), ('_law_facts', 180), ('_law_same', 3), ('_law_word', 186)]; consts []; built-ins ['range'] -/
abbrev c1173_9 : CSs := .cons (.set 2 (.tup (.cons (.str "sequence") (.cons (.idx (.lst false (.cons (.idx (.var 6) (.call 2 (.cons (.var 0) (.cons (.var 1) (.cons (.int 9) .nil))))) (.cons (.tup (.cons (.str "empty") .nil)) .nil))) (.call 2 (.cons (.var 0) (.cons (.var 1) (.cons (.int 2) .nil))))) (.cons (.var 2) .nil))))) .nil
abbrev c1173_8 : CSs := .cons (.fors (.nm 7) (.rng1 (.call 2 (.cons (.var 0) (.cons (.var 1) (.cons (.int 4) .nil))))) c1173_9) .nil
abbrev c1173_7 : CSs := .cons (.set 6 (.comp false (.tup (.cons (.str "set") (.cons (.tup (.cons (.tup (.cons (.var 8) (.cons (.bin .add (.var 8) (.int 1)) .nil))) .nil)) .nil))) (.nm 8) (.seq (.lst false (.cons (.int 37) (.cons (.int 97) (.cons (.int 10) (.cons (.int 126) (.cons (.int 0) (.cons (.int 40) (.cons (.int 127) (.cons (.int 32) (.cons (.int 9) .nil))))))))))) .none [8])) c1173_8
abbrev c1173_6 : CSs := .cons (.ret (.and (.call 3 (.cons (.var 5) (.cons (.var 4) .nil))) (.call 3 (.cons (.fld "Facts" (.var 3) "word") (.cons (.call 186 (.cons (.var 2) .nil)) .nil))))) .nil
abbrev c1173_5 : CSs := .cons (.set 5 (.tup (.cons (.fld "Facts" (.var 3) "shortest") (.cons (.fld "Facts" (.var 3) "longest") (.cons (.fld "Facts" (.var 3) "begins") (.cons (.fld "Facts" (.var 3) "needs") (.cons (.fld "Facts" (.var 3) "anchored") .nil))))))) c1173_6
abbrev c1173_4 : CSs := .cons (.set 4 (.call 180 (.cons (.var 2) .nil))) c1173_5
abbrev c1173_3 : CSs := .cons (.set 3 (.make false 562 "Facts" (.cons (.var 2) .nil))) c1173_4
abbrev c1173_2 : CSs := .cons (.ifs (.cmp .eq (.call 2 (.cons (.var 0) (.cons (.var 1) (.cons (.int 4) .nil)))) (.int 0)) c1173_7 .nil) c1173_3
abbrev c1173_1 : CSs := .cons (.set 2 (.call 183 (.cons (.var 0) (.cons (.var 1) (.cons (.call 2 (.cons (.var 0) (.cons (.var 1) (.cons (.int 4) .nil)))) .nil))))) c1173_2
abbrev c1173 : CSs := .cons (.set 1 (.lst true (.cons (.int 0) (.cons (.int 0) (.cons (.int 0) (.cons (.int 0) .nil)))))) c1173_1
theorem plain_cs {c : List (Int × Int)} (h : setOk c) : Plain 3 (csD c) := by
  refine ⟨by have := h.1; rw [List.length_map]; omega, fun d hd => ?_⟩
  obtain ⟨p, _, rfl⟩ := List.mem_map.mp hd
  refine ⟨by show (2 : Nat) < 2 ^ 62; decide, fun d hd => ?_⟩
  simp only [List.mem_cons, List.not_mem_nil, or_false] at hd
  rcases hd with rfl | rfl <;> trivial
theorem plain_on {n : Nat} (o : Option Nat) : Plain (n + 1) (onD o) := by cases o <;> trivial
theorem plain_fa {n : Nat} {f : Fa} (h : f.Ok n) (hn : n ≤ 20) : Plain 5 (faD f) := by
  refine ⟨by show (5 : Nat) < 2 ^ 62; decide, fun d hd => ?_⟩
  simp only [List.mem_cons, List.not_mem_nil, or_false] at hd
  rcases hd with rfl | rfl | rfl | rfl | rfl
  · trivial
  · exact plain_on _
  · exact plain_mono (n := 3) (m := 4) (plain_cs h.be) (by decide)
  · refine ⟨?_, fun d hd => ?_⟩
    · have := h.len
      have e1 : 2 ^ n ≤ 2 ^ 20 := Nat.pow_le_pow_right (by omega) (by omega)
      rw [List.length_map]; omega
    · obtain ⟨c, hc, rfl⟩ := List.mem_map.mp hd
      exact plain_cs (h.ne c hc)
  · trivial
theorem plain_word {t : Pt} (h : t.ht ≤ 12) : Plain 1 (wordD (word t)) := by
  cases e : word t with
  | none => trivial
  | some l =>
    show (tx l).length ≤ sizeLine
    rw [tx_len, size_eq]
    have := word_le h e
    omega
theorem gen_sm {d g g' : Nat} {t : Pt} (h : Gen d g g' t) : t.sm := r2_sm h.r2
theorem nr_cs (c : List (Int × Int)) : noRef (csD c) = true := noRefs_pr c
theorem nr_on (o : Option Nat) : noRef (onD o) = true := by cases o <;> rfl
def onePt (c : Int) : Pt := .set [(c, c + 1)]
theorem onePt_pl {c : Int} (h : 0 ≤ c ∧ c < 128) : (onePt c).pl := setOk_of (by simp) (by simp [Canon]; omega) (by simp; omega)
theorem rd1173 {Φ : Nat → SpD} {κ : Nat → D} (h183 : Φ 183 = sp183 (4)) (h2 : Φ 2 = sp2w) (h562 : Φ 562 = sp562) (h180 : Φ 180 = sp180 (13)) (h3 : Φ 3 = sp3 (6)) (h186 : Φ 186 = sp186 (13)) : RdOk Φ κ c1173 9 (spLaw 63) := by
  rintro ds M Q E hM hd ⟨ns, hns, rfl, rfl, hQ⟩
  walk_at "go"
  have ha : (0 : Int) ≤ 0 := Int.le_refl 0
  have hb : (0 : Int) ≤ 0 := Int.le_refl 0
  refine dig h2 ha hb (by omega) (by omega) fun dp a b dp0 dp1 ha hb => ?_; walk_at "go"
  rw [h183]
  refine ⟨ns, a, b, 0, 0, dp.toNat, [], by rw [show ((dp.toNat : Nat) : Int) = dp by omega], rfl, ha, hb, by omega, fun t a b g l hG ha hb => ?_⟩
  have rest : ∀ (t : Pt) (a b : Int) (x6 x7 x8 : Option D), t.ht ≤ 6 → t.pl → t.sm → nxt Φ κ c1173_3 (fun x _ M => E x M) (endsD 0 Q) [some (.scr ns), some (.ref 0), some (ptD t), none, none, none, x6, x7, x8] [.lst [.int a, .int b, .int g, .int l]] := by
    intro t a b x6 x7 x8 hh hp hs
    walk_at "go"
    rw [h562]
    refine ⟨[.lst [.int a, .int b, .int g, .int l]], t, rfl, rfl, by omega, hp, hs, fun hok => mkQ_of ?_ ?_⟩
    · intro p hp
      refine noRef_lt ?_
      simp only [List.mem_cons, List.not_mem_nil, or_false] at hp
      rcases hp with rfl | rfl | rfl | rfl | rfl | rfl
      · rfl
      · exact nr_on _
      · exact nr_cs _
      · exact noRefs_map fun c _ => nr_cs c
      · rfl
      · cases word t <;> rfl
    walk_at "go"
    rw [h180]
    refine ⟨t, rfl, by omega, by omega, hp, hs, fun _ => ?_⟩
    walk_at "go"
    rw [h3]
    refine ⟨_, _, rfl, eqv_refl (plain_mono (n := 5) (m := 6) (plain_fa hok (by omega)) (by decide)), ?_⟩
    walk_at "go"
    rw [h186]
    refine ⟨t, rfl, by omega, by omega, ?_⟩
    refine ⟨_, _, rfl, eqv_refl (plain_mono (n := 1) (m := 6) (plain_word (by omega)) (by decide)), ?_⟩
    walk_at "go"
    exact .keep (hQ _)
  have hht := hG.ht
  walk_at "go"
  refine dig h2 ha hb (by omega) (by omega) fun z a b z0 z1 ha hb => ?_; walk_at "go"
  refine iteI (fun h => ?_) fun h => ?_
  · walk_at "go"
    refine comp_map (xs := [37, 97, 10, 126, 0, 40, 127, 32, 9]) D.int (fun c => ptD (onePt c)) trivial (by decide) ?_ ?_
    · intro c hc yes no hy
      try walk_at "rd2"
      exact hy
    walk_at "go"
    refine dig h2 ha hb (by omega) (by omega) fun many a b many0 many1 ha hb => ?_; walk_at "go"
    refine for_rng [2, 7] (fun k js M' => ∃ (t : Pt) (x : Option D) (a b : Int), js = [some (ptD t), x] ∧ M' = [.lst [.int a, .int b, .int g, .int l]] ∧ 0 ≤ a ∧ 0 ≤ b ∧ (t.ht : Int) ≤ 3 + k ∧ t.pl ∧ t.sm) (by omega) ⟨[_, _], rfl, t, _, a, b, rfl, rfl, ha, hb, by omega, hG.pl, gen_sm hG⟩ ?_ ?_
    · rintro k js M' nx hk1 hk2 ⟨t, x, a, b, rfl, rfl, ha, hb, hh, hp, hs⟩ hn
      walk_at "go"
      refine dig h2 ha hb (by omega) (by omega) fun i a b i0 i1 ha hb => ?_; walk_at "go"
      refine atQ_map (l := [37, 97, 10, 126, 0, 40, 127, 32, 9]) (f := fun c => ptD (onePt c)) i0 (by simpa using i1) fun c hc => ?_
      walk_at "go"
      refine dig h2 ha hb (by omega) (by omega) fun j a b j0 j1 ha hb => ?_; walk_at "go"
      have hc2 : 0 ≤ c ∧ c < 128 := by
        simp only [List.mem_cons, List.not_mem_nil, or_false] at hc
        omega
      have sq : ∀ u : Pt, u.ht = 0 → u.pl → u.sm → (((Pt.seq u t).ht : Nat) : Int) ≤ 3 + (k + 1) ∧ (Pt.seq u t).pl ∧ (Pt.seq u t).sm := fun u h1 h2 h3 =>
        ⟨by show ((max u.ht t.ht + 1 : Nat) : Int) ≤ _; omega, ⟨h2, hp⟩, ⟨h3, hs⟩⟩
      refine atQ_mem j0 (by simpa using j1) fun d hd => ?_
      simp only [List.mem_cons, List.not_mem_nil, or_false] at hd
      rcases hd with rfl | rfl
      · walk_at "go"
        exact hn [_, _] _ ⟨.seq (onePt c) t, _, a, b, rfl, rfl, ha, hb, sq (onePt c) rfl (onePt_pl hc2) trivial⟩
      · walk_at "go"
        exact hn [_, _] _ ⟨.seq .empty t, _, a, b, rfl, rfl, ha, hb, sq .empty rfl trivial trivial⟩
    · rintro js M' ⟨t, x, a, b, rfl, rfl, ha, hb, hh, hp, hs⟩
      exact rest t a b _ _ _ (by omega) hp hs
  · exact rest t a b _ _ _ (by omega) hG.pl (gen_sm hG)

def ΦL (d185 : Nat) (d183 : Nat) (d561 : Nat) (d556 : Nat) (d557 : Nat) (d180 : Nat) (d3 : Nat) (d186 : Nat) : Nat → SpD
  | 1 => sp1
  | 2 => sp2w
  | 132 => sp132
  | 184 => sp184
  | 185 => sp185 d185
  | 183 => sp183 d183
  | 0 => sp0
  | 8 => sp8
  | 563 => sp563
  | 559 => sp559
  | 558 => sp558
  | 560 => sp560
  | 561 => sp561 d561
  | 556 => sp556 d556
  | 14 => sp14
  | 13 => sp13
  | 45 => sp45
  | 557 => sp557 d557
  | 562 => sp562
  | 5 => sp5
  | 51 => sp51
  | 181 => sp181
  | 182 => sp182
  | 180 => sp180 d180
  | 3 => sp3 d3
  | 85 => sp85
  | 186 => sp186 d186
  | _ => fun _ _ _ _ => False
def κL : Nat → D
  | 7 => k7
  | 8 => k8
  | 9 => k9
  | _ => .non
def FLL : List (Str × Str) := [(("Facts", "shortest") : Str × Str), (("Facts", "longest") : Str × Str), (("Facts", "begins") : Str × Str), (("Facts", "needs") : Str × Str), (("Facts", "anchored") : Str × Str), (("Facts", "word") : Str × Str)]
abbrev clsL (K : PySem.W.Frag) : Str → Addr := fun c => He.ga K c
def N1 : List Str := ["_law_script", "_law_k", "_law_cell", "_law_mixed"]
def G1 : List (Str × GD) := []
def B1 : List Str := ["len", "int"]
theorem sc1 : FnScope N1 ["_law_script", "_law_k"] (defScope s1) := ⟨rfl, rfl, rfl, by decide +kernel, rfl, by decide +kernel, by decide +kernel⟩
theorem ck1 : chkSs ⟨N1, defScope s1, fun _ => true, G1, B1, [], [], [], [], [], [], []⟩ c1 (defBody s1) = true := by decide +kernel
def N2 : List Str := ["_law_script", "_law_state", "_law_many", "_law_digit_here"]
def G2 : List (Str × GD) := [("_law_row", .fn 1)]
def B2 : List Str := ["int"]
theorem sc2 : FnScope N2 ["_law_script", "_law_state", "_law_many"] (defScope s2) := ⟨rfl, rfl, rfl, by decide +kernel, rfl, by decide +kernel, by decide +kernel⟩
theorem ck2 : chkSs ⟨N2, defScope s2, fun _ => true, G2, B2, [], [], [], [], [], [], []⟩ c2 (defBody s2) = true := by decide +kernel
def N132 : List Str := ["_law_script", "_law_state", "_law_style", "_law_low", "_law_high", "_law_start", "_law_named"]
def G132 : List (Str × GD) := [("_law_digit", .fn 2)]
def B132 : List Str := []
theorem sc132 : FnScope N132 ["_law_script", "_law_state"] (defScope s132) := ⟨rfl, rfl, rfl, by decide +kernel, rfl, by decide +kernel, by decide +kernel⟩
theorem ck132 : chkSs ⟨N132, defScope s132, fun _ => true, G132, B132, [], [], [], [], [], [], []⟩ c132 (defBody s132) = true := by decide +kernel
def N184 : List Str := ["_law_script", "_law_state", "_law_kind", "_law_names"]
def G184 : List (Str × GD) := [("_law_digit", .fn 2), ("_law_codes", .fn 132)]
def B184 : List Str := []
theorem sc184 : FnScope N184 ["_law_script", "_law_state"] (defScope s184) := ⟨rfl, rfl, rfl, by decide +kernel, rfl, by decide +kernel, by decide +kernel⟩
theorem ck184 : chkSs ⟨N184, defScope s184, fun _ => true, G184, B184, [], [], [], [], [], [], []⟩ c184 (defBody s184) = true := by decide +kernel
def N185 : List Str := ["_law_script", "_law_state", "_law_depth", "_law_least", "_law_most", "_law_greedy"]
def G185 : List (Str × GD) := [("_law_digit", .fn 2), ("_law_tree", .fn 183)]
def B185 : List Str := []
theorem sc185 : FnScope N185 ["_law_script", "_law_state", "_law_depth"] (defScope s185) := ⟨rfl, rfl, rfl, by decide +kernel, rfl, by decide +kernel, by decide +kernel⟩
theorem ck185 : chkSs ⟨N185, defScope s185, fun _ => true, G185, B185, [], [], [], [], [], [], []⟩ c185 (defBody s185) = true := by decide +kernel
def N183 : List Str := ["_law_script", "_law_state", "_law_depth", "_law_kind", "_law_ahead", "_law_positive", "_law_first", "_law_number"]
def G183 : List (Str × GD) := [("_law_digit", .fn 2), ("_law_leaf", .fn 184), ("_law_tree", .fn 183), ("_law_repeat", .fn 185)]
def B183 : List Str := []
theorem sc183 : FnScope N183 ["_law_script", "_law_state", "_law_depth"] (defScope s183) := ⟨rfl, rfl, rfl, by decide +kernel, rfl, by decide +kernel, by decide +kernel⟩
theorem ck183 : chkSs ⟨N183, defScope s183, fun _ => true, G183, B183, [], [], [], [], [], [], []⟩ c183 (defBody s183) = true := by decide +kernel
def N0 : List Str := ["pairs", "ranges", "low", "high"]
def G0 : List (Str × GD) := []
def B0 : List Str := ["sorted", "max", "tuple"]
theorem sc0 : FnScope N0 ["pairs"] (defScope s0) := ⟨rfl, rfl, rfl, by decide +kernel, rfl, by decide +kernel, by decide +kernel⟩
theorem ck0 : chkSs ⟨N0, defScope s0, fun _ => true, G0, B0, [], [], [], [], [], [], []⟩ c0 (defBody s0) = true := by decide +kernel
def N8 : List Str := ["a", "b"]
def G8 : List (Str × GD) := [("make_set", .fn 0)]
def B8 : List Str := ["list"]
theorem sc8 : FnScope N8 ["a", "b"] (defScope s8) := ⟨rfl, rfl, rfl, by decide +kernel, rfl, by decide +kernel, by decide +kernel⟩
theorem ck8 : chkSs ⟨N8, defScope s8, fun _ => true, G8, B8, [], [], [], [], [], [], []⟩ c8 (defBody s8) = true := by decide +kernel
def N563 : List Str := ["a", "b"]
def G563 : List (Str × GD) := []
def B563 : List Str := []
theorem sc563 : FnScope N563 ["a", "b"] (defScope s563) := ⟨rfl, rfl, rfl, by decide +kernel, rfl, by decide +kernel, by decide +kernel⟩
theorem ck563 : chkSs ⟨N563, defScope s563, fun _ => true, G563, B563, [], [], [], [], [], [], []⟩ c563 (defBody s563) = true := by decide +kernel
def N559 : List Str := ["a", "b", "begins"]
def G559 : List (Str × GD) := [("union", .fn 8), ("sum_of", .fn 563)]
def B559 : List Str := []
theorem sc559 : FnScope N559 ["a", "b"] (defScope s559) := ⟨rfl, rfl, rfl, by decide +kernel, rfl, by decide +kernel, by decide +kernel⟩
theorem ck559 : chkSs ⟨N559, defScope s559, fun _ => true, G559, B559, [], [], [], [], [], [], []⟩ c559 (defBody s559) = true := by decide +kernel
def N558 : List Str := ["a", "b"]
def G558 : List (Str × GD) := []
def B558 : List Str := ["max"]
theorem sc558 : FnScope N558 ["a", "b"] (defScope s558) := ⟨rfl, rfl, rfl, by decide +kernel, rfl, by decide +kernel, by decide +kernel⟩
theorem ck558 : chkSs ⟨N558, defScope s558, fun _ => true, G558, B558, [], [], [], [], [], [], []⟩ c558 (defBody s558) = true := by decide +kernel
def N560 : List Str := ["a", "b", "needs", "codes"]
def G560 : List (Str × GD) := [("union", .fn 8), ("greater_of", .fn 558)]
def B560 : List Str := ["tuple", "min"]
theorem sc560 : FnScope N560 ["a", "b"] (defScope s560) := ⟨rfl, rfl, rfl, by decide +kernel, rfl, by decide +kernel, by decide +kernel⟩
theorem ck560 : chkSs ⟨N560, defScope s560, fun _ => true, G560, B560, [], [], [], [], [], [], []⟩ c560 (defBody s560) = true := by decide +kernel
def N561 : List Str := ["tree", "shortest", "longest", "begins", "needs", "anchored", "least", "most"]
def G561 : List (Str × GD) := [("facts_of", .fn 556), ("NOTHING", .cst 7)]
def B561 : List Str := []
theorem sc561 : FnScope N561 ["tree"] (defScope s561) := ⟨rfl, rfl, rfl, by decide +kernel, rfl, by decide +kernel, by decide +kernel⟩
theorem ck561 : chkSs ⟨N561, defScope s561, fun _ => true, G561, B561, [], [], [], [], [], [], []⟩ c561 (defBody s561) = true := by decide +kernel
def N556 : List Str := ["tree", "kind"]
def G556 : List (Str × GD) := [("sequence_facts", .fn 559), ("facts_of", .fn 556), ("choice_facts", .fn 560), ("repeat_facts", .fn 561), ("NOTHING", .cst 7)]
def B556 : List Str := []
theorem sc556 : FnScope N556 ["tree"] (defScope s556) := ⟨rfl, rfl, rfl, by decide +kernel, rfl, by decide +kernel, by decide +kernel⟩
theorem ck556 : chkSs ⟨N556, defScope s556, fun _ => true, G556, B556, [], [], [], [], [], [], []⟩ c556 (defBody s556) = true := by decide +kernel
def N14 : List Str := ["a", "low", "high"]
def G14 : List (Str × GD) := []
def B14 : List Str := ["sum"]
theorem sc14 : FnScope N14 ["a"] (defScope s14) := ⟨rfl, rfl, rfl, by decide +kernel, rfl, by decide +kernel, by decide +kernel⟩
theorem ck14 : chkSs ⟨N14, defScope s14, fun _ => true, G14, B14, [], [], [], [], [], [], []⟩ c14 (defBody s14) = true := by decide +kernel
def N13 : List Str := ["a", "code", "low", "high"]
def G13 : List (Str × GD) := []
def B13 : List Str := []
theorem sc13 : FnScope N13 ["a", "code"] (defScope s13) := ⟨rfl, rfl, rfl, by decide +kernel, rfl, by decide +kernel, by decide +kernel⟩
theorem ck13 : chkSs ⟨N13, defScope s13, fun _ => true, G13, B13, [], [], [], [], [], [], []⟩ c13 (defBody s13) = true := by decide +kernel
def N45 : List Str := ["code"]
def G45 : List (Str × GD) := [("VISIBLE", .cst 8)]
def B45 : List Str := []
theorem sc45 : FnScope N45 ["code"] (defScope s45) := ⟨rfl, rfl, rfl, by decide +kernel, rfl, by decide +kernel, by decide +kernel⟩
theorem ck45 : chkSs ⟨N45, defScope s45, fun _ => true, G45, B45, [], [], [], [], [], [], []⟩ c45 (defBody s45) = true := by decide +kernel
def N557 : List Str := ["tree", "first", "second"]
def G557 : List (Str × GD) := [("size", .fn 14), ("contains", .fn 13), ("character", .fn 45), ("word_of", .fn 557), ("TEXT_CODES", .cst 9)]
def B557 : List Str := []
theorem sc557 : FnScope N557 ["tree"] (defScope s557) := ⟨rfl, rfl, rfl, by decide +kernel, rfl, by decide +kernel, by decide +kernel⟩
theorem ck557 : chkSs ⟨N557, defScope s557, fun _ => true, G557, B557, [], [], [], [], [], [], []⟩ c557 (defBody s557) = true := by decide +kernel
def N562 : List Str := ["self", "tree", "shortest", "longest", "begins", "needs", "anchored"]
def G562 : List (Str × GD) := [("facts_of", .fn 556), ("word_of", .fn 557)]
def B562 : List Str := []
theorem sc562 : FnScope N562 ["self", "tree"] (defScope s562) := ⟨rfl, rfl, rfl, by decide +kernel, rfl, by decide +kernel, by decide +kernel⟩
theorem ck562 : chkSs ⟨N562, defScope s562, fun _ => true, G562, B562, FLL, [], [], [], [], [], []⟩ c562 (defBody s562) = true := by decide +kernel
def N5 : List Str := ["_law_bits", "_law_found", "_law_start", "_law_code", "_law_inside"]
def G5 : List (Str × GD) := []
def B5 : List Str := ["range", "tuple"]
theorem sc5 : FnScope N5 ["_law_bits"] (defScope s5) := ⟨rfl, rfl, rfl, by decide +kernel, rfl, by decide +kernel, by decide +kernel⟩
theorem ck5 : chkSs ⟨N5, defScope s5, fun _ => true, G5, B5, [], [], [], [], [], [], []⟩ c5 (defBody s5) = true := by decide +kernel
def N51 : List Str := ["_law_codes_here", "_law_code", "_law_pair"]
def G51 : List (Str × GD) := []
def B51 : List Str := []
theorem sc51 : FnScope N51 ["_law_codes_here", "_law_code"] (defScope s51) := ⟨rfl, rfl, rfl, by decide +kernel, rfl, by decide +kernel, by decide +kernel⟩
theorem ck51 : chkSs ⟨N51, defScope s51, fun _ => true, G51, B51, [], [], [], [], [], [], []⟩ c51 (defBody s51) = true := by decide +kernel
def N181 : List Str := ["_law_a", "_law_b", "_law_code"]
def G181 : List (Str × GD) := [("_law_ranges", .fn 5), ("_law_in", .fn 51)]
def B181 : List Str := ["range"]
theorem sc181 : FnScope N181 ["_law_a", "_law_b"] (defScope s181) := ⟨rfl, rfl, rfl, by decide +kernel, rfl, by decide +kernel, by decide +kernel⟩
theorem ck181 : chkSs ⟨N181, defScope s181, fun _ => true, G181, B181, [], [], [], [], [], [], []⟩ c181 (defBody s181) = true := by decide +kernel
def N182 : List Str := ["_law_a", "_law_b"]
def G182 : List (Str × GD) := []
def B182 : List Str := []
theorem sc182 : FnScope N182 ["_law_a", "_law_b"] (defScope s182) := ⟨rfl, rfl, rfl, by decide +kernel, rfl, by decide +kernel, by decide +kernel⟩
theorem ck182 : chkSs ⟨N182, defScope s182, fun _ => true, G182, B182, [], [], [], [], [], [], []⟩ c182 (defBody s182) = true := by decide +kernel
def N180 : List Str := ["_law_tree_here", "_law_a", "_law_b", "_law_begins", "_law_longest", "_law_needs", "_law_codes_here"]
def G180 : List (Str × GD) := [("_law_facts", .fn 180), ("_law_both", .fn 181), ("_law_sum", .fn 182)]
def B180 : List Str := ["max", "tuple", "min"]
theorem sc180 : FnScope N180 ["_law_tree_here"] (defScope s180) := ⟨rfl, rfl, rfl, by decide +kernel, rfl, by decide +kernel, by decide +kernel⟩
theorem ck180 : chkSs ⟨N180, defScope s180, fun _ => true, G180, B180, [], [], [], [], [], [], []⟩ c180 (defBody s180) = true := by decide +kernel
def N3 : List Str := ["_law_actual", "_law_expected", "_law_k"]
def G3 : List (Str × GD) := [("_law_same", .fn 3)]
def B3 : List Str := ["isinstance", "bool", "int", "str", "tuple", "list", "len", "range"]
theorem sc3 : FnScope N3 ["_law_actual", "_law_expected"] (defScope s3) := ⟨rfl, rfl, rfl, by decide +kernel, rfl, by decide +kernel, by decide +kernel⟩
theorem ck3 : chkSs ⟨N3, defScope s3, fun _ => true, G3, B3, [], [], [], [], [], [], []⟩ c3 (defBody s3) = true := by decide +kernel
def N85 : List Str := ["_law_code", "_law_signs"]
def G85 : List (Str × GD) := []
def B85 : List Str := ["int"]
theorem sc85 : FnScope N85 ["_law_code"] (defScope s85) := ⟨rfl, rfl, rfl, by decide +kernel, rfl, by decide +kernel, by decide +kernel⟩
theorem ck85 : chkSs ⟨N85, defScope s85, fun _ => true, G85, B85, [], [], [], [], [], [], []⟩ c85 (defBody s85) = true := by decide +kernel
def N186 : List Str := ["_law_tree_here", "_law_code"]
def G186 : List (Str × GD) := [("_law_sum", .fn 182), ("_law_word", .fn 186), ("_law_sign", .fn 85)]
def B186 : List Str := ["len"]
theorem sc186 : FnScope N186 ["_law_tree_here"] (defScope s186) := ⟨rfl, rfl, rfl, by decide +kernel, rfl, by decide +kernel, by decide +kernel⟩
theorem ck186 : chkSs ⟨N186, defScope s186, fun _ => true, G186, B186, [], [], [], [], [], [], []⟩ c186 (defBody s186) = true := by decide +kernel
def N1173 : List Str := ["_law_script", "_law_state", "_law_tree_here", "_law_facts_here", "_law_expected", "_law_found", "_law_signs", "_law_k", "_law_code"]
def G1173 : List (Str × GD) := [("_law_tree", .fn 183), ("_law_digit", .fn 2), ("_law_facts", .fn 180), ("_law_same", .fn 3), ("_law_word", .fn 186)]
def B1173 : List Str := ["range"]
theorem sc1173 : FnScope N1173 ["_law_script"] (defScope s1173) := ⟨rfl, rfl, rfl, by decide +kernel, rfl, by decide +kernel, by decide +kernel⟩
theorem ck1173 : chkSs ⟨N1173, defScope s1173, fun _ => true, G1173, B1173, FLL, [("Facts", 562, "Facts")], [], [], [], [], []⟩ c1173 (defBody s1173) = true := by decide +kernel
abbrev FnL (K : PySem.W.Frag) (d : He.DefD) (f : Addr) (fd : FuncData) : Prop := FunD K d.name d.qual d.params d.body d.scope [] [] f fd
abbrev FnD (K : PySem.W.Frag) (d : He.DefD) (dvs : List V) (kws : List (Str × V)) (f : Addr) (fd : FuncData) : Prop := FunD K d.name d.qual d.params d.body d.scope dvs kws f fd
section
variable {P : Pm} {mg : Str → Option Value} {base : Heap}
theorem ok1 {f1 : Addr} {fd1 : FuncData} (F1 : FnL P.K dd1 f1 fd1) (g1 : mg "_law_row" = some (.ref f1)) (b_len : mg "len" = none) (b_int : mg "int" = none) : OkD P.pg P.wl P.K mg base P 1 f1 fd1 ["_law_script", "_law_k"] sp1 := okD (Φ := (ΦL 4 4 13 13 13 13 6 13)) (κ := κL) rfl rfl rfl (Tab.nil (by simp [B1, b_len, b_int])) F1 sc1 ck1 ln1 (rd1)
theorem ok2 {f1 : Addr} {fd1 : FuncData} (F1 : FnL P.K dd1 f1 fd1) (g1 : mg "_law_row" = some (.ref f1)) {f2 : Addr} {fd2 : FuncData} (F2 : FnL P.K dd2 f2 fd2) (g2 : mg "_law_digit" = some (.ref f2)) (b_len : mg "len" = none) (b_int : mg "int" = none) : OkD P.pg P.wl P.K mg base P 2 f2 fd2 ["_law_script", "_law_state", "_law_many"] sp2w := okD (Φ := (ΦL 4 4 13 13 13 13 6 13)) (κ := κL) rfl rfl rfl (Tab.consF (Tab.nil (by simp [B2, b_int])) (by omega) g1 F1.kp (ok1 F1 g1 b_len b_int) (FunD.bindsN F1 fun _ _ _ _ _ _ us hl => match us, hl with | [_, _], _ => rfl)) F2 sc2 ck2 ln2w (rd2w rfl)
theorem ok132 {f1 : Addr} {fd1 : FuncData} (F1 : FnL P.K dd1 f1 fd1) (g1 : mg "_law_row" = some (.ref f1)) {f2 : Addr} {fd2 : FuncData} (F2 : FnL P.K dd2 f2 fd2) (g2 : mg "_law_digit" = some (.ref f2)) {f132 : Addr} {fd132 : FuncData} (F132 : FnL P.K dd132 f132 fd132) (g132 : mg "_law_codes" = some (.ref f132)) (b_len : mg "len" = none) (b_int : mg "int" = none) : OkD P.pg P.wl P.K mg base P 3 f132 fd132 ["_law_script", "_law_state"] sp132 := okD (Φ := (ΦL 4 4 13 13 13 13 6 13)) (κ := κL) rfl rfl rfl (Tab.consF (Tab.nil (by simp [B132])) (by omega) g2 F2.kp (ok2 F1 g1 F2 g2 b_len b_int) (FunD.bindsN F2 fun _ _ _ _ _ _ us hl => match us, hl with | [_, _, _], _ => rfl)) F132 sc132 ck132 ln132 (rd132 rfl)
theorem ok184 {f1 : Addr} {fd1 : FuncData} (F1 : FnL P.K dd1 f1 fd1) (g1 : mg "_law_row" = some (.ref f1)) {f2 : Addr} {fd2 : FuncData} (F2 : FnL P.K dd2 f2 fd2) (g2 : mg "_law_digit" = some (.ref f2)) {f132 : Addr} {fd132 : FuncData} (F132 : FnL P.K dd132 f132 fd132) (g132 : mg "_law_codes" = some (.ref f132)) {f184 : Addr} {fd184 : FuncData} (F184 : FnL P.K dd184 f184 fd184) (g184 : mg "_law_leaf" = some (.ref f184)) (b_len : mg "len" = none) (b_int : mg "int" = none) : OkD P.pg P.wl P.K mg base P 4 f184 fd184 ["_law_script", "_law_state"] sp184 := okD (Φ := (ΦL 4 4 13 13 13 13 6 13)) (κ := κL) rfl rfl rfl (Tab.consF (Tab.consF (Tab.nil (by simp [B184])) (by omega) g132 F132.kp (ok132 F1 g1 F2 g2 F132 g132 b_len b_int) (FunD.bindsN F132 fun _ _ _ _ _ _ us hl => match us, hl with | [_, _], _ => rfl)) (by omega) g2 F2.kp (ok2 F1 g1 F2 g2 b_len b_int) (FunD.bindsN F2 fun _ _ _ _ _ _ us hl => match us, hl with | [_, _, _], _ => rfl)) F184 sc184 ck184 ln184 (rd184 rfl rfl)
theorem ok185 {f1 : Addr} {fd1 : FuncData} (F1 : FnL P.K dd1 f1 fd1) (g1 : mg "_law_row" = some (.ref f1)) {f2 : Addr} {fd2 : FuncData} (F2 : FnL P.K dd2 f2 fd2) (g2 : mg "_law_digit" = some (.ref f2)) {f132 : Addr} {fd132 : FuncData} (F132 : FnL P.K dd132 f132 fd132) (g132 : mg "_law_codes" = some (.ref f132)) {f184 : Addr} {fd184 : FuncData} (F184 : FnL P.K dd184 f184 fd184) (g184 : mg "_law_leaf" = some (.ref f184)) {f183 : Addr} {fd183 : FuncData} (F183 : FnL P.K dd183 f183 fd183) (g183 : mg "_law_tree" = some (.ref f183)) {f185 : Addr} {fd185 : FuncData} (F185 : FnL P.K dd185 f185 fd185) (g185 : mg "_law_repeat" = some (.ref f185)) (b_len : mg "len" = none) (b_int : mg "int" = none) (d : Nat) {k : Nat} (hk : 4 ≤ k) (ih : OkD P.pg P.wl P.K mg base P k f183 fd183 ["_law_script", "_law_state", "_law_depth"] (sp183 d)) : OkD P.pg P.wl P.K mg base P (k + 0 + 1) f185 fd185 ["_law_script", "_law_state", "_law_depth"] (sp185 d) := okD (k := k + 0) (Φ := (ΦL d d 13 13 13 13 6 13)) (κ := κL) rfl rfl rfl (Tab.consF (Tab.consF (Tab.nil (by simp [B185])) (by omega) g183 F183.kp ih (FunD.bindsN F183 fun _ _ _ _ _ _ us hl => match us, hl with | [_, _, _], _ => rfl)) (by omega) g2 F2.kp (ok2 F1 g1 F2 g2 b_len b_int) (FunD.bindsN F2 fun _ _ _ _ _ _ us hl => match us, hl with | [_, _, _], _ => rfl)) F185 sc185 ck185 (ln185 d) (rd185 rfl rfl)
theorem ok183 {f1 : Addr} {fd1 : FuncData} (F1 : FnL P.K dd1 f1 fd1) (g1 : mg "_law_row" = some (.ref f1)) {f2 : Addr} {fd2 : FuncData} (F2 : FnL P.K dd2 f2 fd2) (g2 : mg "_law_digit" = some (.ref f2)) {f132 : Addr} {fd132 : FuncData} (F132 : FnL P.K dd132 f132 fd132) (g132 : mg "_law_codes" = some (.ref f132)) {f184 : Addr} {fd184 : FuncData} (F184 : FnL P.K dd184 f184 fd184) (g184 : mg "_law_leaf" = some (.ref f184)) {f185 : Addr} {fd185 : FuncData} (F185 : FnL P.K dd185 f185 fd185) (g185 : mg "_law_repeat" = some (.ref f185)) {f183 : Addr} {fd183 : FuncData} (F183 : FnL P.K dd183 f183 fd183) (g183 : mg "_law_tree" = some (.ref f183)) (b_len : mg "len" = none) (b_int : mg "int" = none) : ∀ d, OkD P.pg P.wl P.K mg base P (4 + 2 * d) f183 fd183 ["_law_script", "_law_state", "_law_depth"] (sp183 d)
  | 0 => OkD.imp OkD.no z183
  | d + 1 => by
    have ih := ok183 F1 g1 F2 g2 F132 g132 F184 g184 F185 g185 F183 g183 b_len b_int d
    have hk : 4 ≤ 4 + 2 * d := by omega
    exact okD (Φ := (ΦL d d 13 13 13 13 6 13)) (κ := κL) (k := 4 + 2 * d + 1) rfl rfl rfl (Tab.consF (Tab.consF (Tab.consF (Tab.consF (Tab.nil (by simp [B183])) (by omega) g185 F185.kp ((ok185 F1 g1 F2 g2 F132 g132 F184 g184 F183 g183 F185 g185 b_len b_int) d hk ih) (FunD.bindsN F185 fun _ _ _ _ _ _ us hl => match us, hl with | [_, _, _], _ => rfl)) (by omega) g183 F183.kp ih (FunD.bindsN F183 fun _ _ _ _ _ _ us hl => match us, hl with | [_, _, _], _ => rfl)) (by omega) g184 F184.kp (ok184 F1 g1 F2 g2 F132 g132 F184 g184 b_len b_int) (FunD.bindsN F184 fun _ _ _ _ _ _ us hl => match us, hl with | [_, _], _ => rfl)) (by omega) g2 F2.kp (ok2 F1 g1 F2 g2 b_len b_int) (FunD.bindsN F2 fun _ _ _ _ _ _ us hl => match us, hl with | [_, _, _], _ => rfl)) F183 sc183 ck183 (ln183 (d + 1)) (rd183 rfl rfl rfl rfl)
theorem ok0 {f0 : Addr} {fd0 : FuncData} (F0 : FnL P.K dd0 f0 fd0) (g0 : mg "make_set" = some (.ref f0)) (b_sorted : mg "sorted" = none) (b_max : mg "max" = none) (b_tuple : mg "tuple" = none) : OkD P.pg P.wl P.K mg base P 1 f0 fd0 ["pairs"] sp0 := okD (Φ := (ΦL 4 4 13 13 13 13 6 13)) (κ := κL) rfl rfl rfl (Tab.nil (by simp [B0, b_sorted, b_max, b_tuple])) F0 sc0 ck0 ln0 (rd0)
theorem ok8 {f0 : Addr} {fd0 : FuncData} (F0 : FnL P.K dd0 f0 fd0) (g0 : mg "make_set" = some (.ref f0)) {f8 : Addr} {fd8 : FuncData} (F8 : FnL P.K dd8 f8 fd8) (g8 : mg "union" = some (.ref f8)) (b_sorted : mg "sorted" = none) (b_max : mg "max" = none) (b_tuple : mg "tuple" = none) (b_list : mg "list" = none) : OkD P.pg P.wl P.K mg base P 2 f8 fd8 ["a", "b"] sp8 := okD (Φ := (ΦL 4 4 13 13 13 13 6 13)) (κ := κL) rfl rfl rfl (Tab.consF (Tab.nil (by simp [B8, b_list])) (by omega) g0 F0.kp (ok0 F0 g0 b_sorted b_max b_tuple) (FunD.bindsN F0 fun _ _ _ _ _ _ us hl => match us, hl with | [_], _ => rfl)) F8 sc8 ck8 ln8 (rd8 rfl)
theorem ok563 {f563 : Addr} {fd563 : FuncData} (F563 : FnL P.K dd563 f563 fd563) (g563 : mg "sum_of" = some (.ref f563)) : OkD P.pg P.wl P.K mg base P 1 f563 fd563 ["a", "b"] sp563 := okD (Φ := (ΦL 4 4 13 13 13 13 6 13)) (κ := κL) rfl rfl rfl (Tab.nil (by simp [B563])) F563 sc563 ck563 ln563 (rd563)
theorem ok559 {f0 : Addr} {fd0 : FuncData} (F0 : FnL P.K dd0 f0 fd0) (g0 : mg "make_set" = some (.ref f0)) {f8 : Addr} {fd8 : FuncData} (F8 : FnL P.K dd8 f8 fd8) (g8 : mg "union" = some (.ref f8)) {f563 : Addr} {fd563 : FuncData} (F563 : FnL P.K dd563 f563 fd563) (g563 : mg "sum_of" = some (.ref f563)) {f559 : Addr} {fd559 : FuncData} (F559 : FnL P.K dd559 f559 fd559) (g559 : mg "sequence_facts" = some (.ref f559)) (b_sorted : mg "sorted" = none) (b_max : mg "max" = none) (b_tuple : mg "tuple" = none) (b_list : mg "list" = none) : OkD P.pg P.wl P.K mg base P 3 f559 fd559 ["a", "b"] sp559 := okD (Φ := (ΦL 4 4 13 13 13 13 6 13)) (κ := κL) rfl rfl rfl (Tab.consF (Tab.consF (Tab.nil (by simp [B559])) (by omega) g563 F563.kp (ok563 F563 g563) (FunD.bindsN F563 fun _ _ _ _ _ _ us hl => match us, hl with | [_, _], _ => rfl)) (by omega) g8 F8.kp (ok8 F0 g0 F8 g8 b_sorted b_max b_tuple b_list) (FunD.bindsN F8 fun _ _ _ _ _ _ us hl => match us, hl with | [_, _], _ => rfl)) F559 sc559 ck559 ln559 (rd559 rfl rfl)
theorem ok558 {f558 : Addr} {fd558 : FuncData} (F558 : FnL P.K dd558 f558 fd558) (g558 : mg "greater_of" = some (.ref f558)) (b_max : mg "max" = none) : OkD P.pg P.wl P.K mg base P 1 f558 fd558 ["a", "b"] sp558 := okD (Φ := (ΦL 4 4 13 13 13 13 6 13)) (κ := κL) rfl rfl rfl (Tab.nil (by simp [B558, b_max])) F558 sc558 ck558 ln558 (rd558)
theorem ok560 {f0 : Addr} {fd0 : FuncData} (F0 : FnL P.K dd0 f0 fd0) (g0 : mg "make_set" = some (.ref f0)) {f8 : Addr} {fd8 : FuncData} (F8 : FnL P.K dd8 f8 fd8) (g8 : mg "union" = some (.ref f8)) {f558 : Addr} {fd558 : FuncData} (F558 : FnL P.K dd558 f558 fd558) (g558 : mg "greater_of" = some (.ref f558)) {f560 : Addr} {fd560 : FuncData} (F560 : FnL P.K dd560 f560 fd560) (g560 : mg "choice_facts" = some (.ref f560)) (b_sorted : mg "sorted" = none) (b_max : mg "max" = none) (b_tuple : mg "tuple" = none) (b_list : mg "list" = none) (b_min : mg "min" = none) : OkD P.pg P.wl P.K mg base P 3 f560 fd560 ["a", "b"] sp560 := okD (Φ := (ΦL 4 4 13 13 13 13 6 13)) (κ := κL) rfl rfl rfl (Tab.consF (Tab.consF (Tab.nil (by simp [B560, b_tuple, b_min])) (by omega) g558 F558.kp (ok558 F558 g558 b_max) (FunD.bindsN F558 fun _ _ _ _ _ _ us hl => match us, hl with | [_, _], _ => rfl)) (by omega) g8 F8.kp (ok8 F0 g0 F8 g8 b_sorted b_max b_tuple b_list) (FunD.bindsN F8 fun _ _ _ _ _ _ us hl => match us, hl with | [_, _], _ => rfl)) F560 sc560 ck560 ln560 (rd560 rfl rfl)
theorem ok561 {f0 : Addr} {fd0 : FuncData} (F0 : FnL P.K dd0 f0 fd0) (g0 : mg "make_set" = some (.ref f0)) {f8 : Addr} {fd8 : FuncData} (F8 : FnL P.K dd8 f8 fd8) (g8 : mg "union" = some (.ref f8)) {f563 : Addr} {fd563 : FuncData} (F563 : FnL P.K dd563 f563 fd563) (g563 : mg "sum_of" = some (.ref f563)) {f559 : Addr} {fd559 : FuncData} (F559 : FnL P.K dd559 f559 fd559) (g559 : mg "sequence_facts" = some (.ref f559)) {f558 : Addr} {fd558 : FuncData} (F558 : FnL P.K dd558 f558 fd558) (g558 : mg "greater_of" = some (.ref f558)) {f560 : Addr} {fd560 : FuncData} (F560 : FnL P.K dd560 f560 fd560) (g560 : mg "choice_facts" = some (.ref f560)) {f556 : Addr} {fd556 : FuncData} (F556 : FnL P.K dd556 f556 fd556) (g556 : mg "facts_of" = some (.ref f556)) {f561 : Addr} {fd561 : FuncData} (F561 : FnL P.K dd561 f561 fd561) (g561 : mg "repeat_facts" = some (.ref f561)) (hc7 : ∃ u v, mg "NOTHING" = some u ∧ RelV v u ∧ ∀ w, RelD P w (k7) v) (b_sorted : mg "sorted" = none) (b_max : mg "max" = none) (b_tuple : mg "tuple" = none) (b_list : mg "list" = none) (b_min : mg "min" = none) (d : Nat) {k : Nat} (hk : 3 ≤ k) (ih : OkD P.pg P.wl P.K mg base P k f556 fd556 ["tree"] (sp556 d)) : OkD P.pg P.wl P.K mg base P (k + 0 + 1) f561 fd561 ["tree"] (sp561 d) := okD (k := k + 0) (Φ := (ΦL 4 4 d d 13 13 6 13)) (κ := κL) rfl rfl rfl (Tab.consF (Tab.consC (Tab.nil (by simp [B561])) hc7) (by omega) g556 F556.kp ih (FunD.bindsN F556 fun _ _ _ _ _ _ us hl => match us, hl with | [_], _ => rfl)) F561 sc561 ck561 (ln561 d) (rd561 rfl rfl)
theorem ok556 {f0 : Addr} {fd0 : FuncData} (F0 : FnL P.K dd0 f0 fd0) (g0 : mg "make_set" = some (.ref f0)) {f8 : Addr} {fd8 : FuncData} (F8 : FnL P.K dd8 f8 fd8) (g8 : mg "union" = some (.ref f8)) {f563 : Addr} {fd563 : FuncData} (F563 : FnL P.K dd563 f563 fd563) (g563 : mg "sum_of" = some (.ref f563)) {f559 : Addr} {fd559 : FuncData} (F559 : FnL P.K dd559 f559 fd559) (g559 : mg "sequence_facts" = some (.ref f559)) {f558 : Addr} {fd558 : FuncData} (F558 : FnL P.K dd558 f558 fd558) (g558 : mg "greater_of" = some (.ref f558)) {f560 : Addr} {fd560 : FuncData} (F560 : FnL P.K dd560 f560 fd560) (g560 : mg "choice_facts" = some (.ref f560)) {f561 : Addr} {fd561 : FuncData} (F561 : FnL P.K dd561 f561 fd561) (g561 : mg "repeat_facts" = some (.ref f561)) {f556 : Addr} {fd556 : FuncData} (F556 : FnL P.K dd556 f556 fd556) (g556 : mg "facts_of" = some (.ref f556)) (hc7 : ∃ u v, mg "NOTHING" = some u ∧ RelV v u ∧ ∀ w, RelD P w (k7) v) (b_sorted : mg "sorted" = none) (b_max : mg "max" = none) (b_tuple : mg "tuple" = none) (b_list : mg "list" = none) (b_min : mg "min" = none) : ∀ d, OkD P.pg P.wl P.K mg base P (3 + 2 * d) f556 fd556 ["tree"] (sp556 d)
  | 0 => OkD.imp OkD.no z556
  | d + 1 => by
    have ih := ok556 F0 g0 F8 g8 F563 g563 F559 g559 F558 g558 F560 g560 F561 g561 F556 g556 hc7 b_sorted b_max b_tuple b_list b_min d
    have hk : 3 ≤ 3 + 2 * d := by omega
    exact okD (Φ := (ΦL 4 4 d d 13 13 6 13)) (κ := κL) (k := 3 + 2 * d + 1) rfl rfl rfl (Tab.consF (Tab.consF (Tab.consF (Tab.consF (Tab.consC (Tab.nil (by simp [B556])) hc7) (by omega) g561 F561.kp ((ok561 F0 g0 F8 g8 F563 g563 F559 g559 F558 g558 F560 g560 F556 g556 F561 g561 hc7 b_sorted b_max b_tuple b_list b_min) d hk ih) (FunD.bindsN F561 fun _ _ _ _ _ _ us hl => match us, hl with | [_], _ => rfl)) (by omega) g560 F560.kp (ok560 F0 g0 F8 g8 F558 g558 F560 g560 b_sorted b_max b_tuple b_list b_min) (FunD.bindsN F560 fun _ _ _ _ _ _ us hl => match us, hl with | [_, _], _ => rfl)) (by omega) g556 F556.kp ih (FunD.bindsN F556 fun _ _ _ _ _ _ us hl => match us, hl with | [_], _ => rfl)) (by omega) g559 F559.kp (ok559 F0 g0 F8 g8 F563 g563 F559 g559 b_sorted b_max b_tuple b_list) (FunD.bindsN F559 fun _ _ _ _ _ _ us hl => match us, hl with | [_, _], _ => rfl)) F556 sc556 ck556 (ln556 (d + 1)) (rd556 rfl rfl rfl rfl rfl)
theorem ok14 {f14 : Addr} {fd14 : FuncData} (F14 : FnL P.K dd14 f14 fd14) (g14 : mg "size" = some (.ref f14)) (b_sum : mg "sum" = none) : OkD P.pg P.wl P.K mg base P 1 f14 fd14 ["a"] sp14 := okD (Φ := (ΦL 4 4 13 13 13 13 6 13)) (κ := κL) rfl rfl rfl (Tab.nil (by simp [B14, b_sum])) F14 sc14 ck14 ln14 (rd14)
theorem ok13 {f13 : Addr} {fd13 : FuncData} (F13 : FnL P.K dd13 f13 fd13) (g13 : mg "contains" = some (.ref f13)) : OkD P.pg P.wl P.K mg base P 1 f13 fd13 ["a", "code"] sp13 := okD (Φ := (ΦL 4 4 13 13 13 13 6 13)) (κ := κL) rfl rfl rfl (Tab.nil (by simp [B13])) F13 sc13 ck13 ln13 (rd13)
theorem ok45 {f45 : Addr} {fd45 : FuncData} (F45 : FnL P.K dd45 f45 fd45) (g45 : mg "character" = some (.ref f45)) (hc8 : ∃ u v, mg "VISIBLE" = some u ∧ RelV v u ∧ ∀ w, RelD P w (k8) v) : OkD P.pg P.wl P.K mg base P 1 f45 fd45 ["code"] sp45 := okD (Φ := (ΦL 4 4 13 13 13 13 6 13)) (κ := κL) rfl rfl rfl (Tab.consC (Tab.nil (by simp [B45])) hc8) F45 sc45 ck45 ln45 (rd45 rfl)
theorem ok557 {f14 : Addr} {fd14 : FuncData} (F14 : FnL P.K dd14 f14 fd14) (g14 : mg "size" = some (.ref f14)) {f13 : Addr} {fd13 : FuncData} (F13 : FnL P.K dd13 f13 fd13) (g13 : mg "contains" = some (.ref f13)) {f45 : Addr} {fd45 : FuncData} (F45 : FnL P.K dd45 f45 fd45) (g45 : mg "character" = some (.ref f45)) {f557 : Addr} {fd557 : FuncData} (F557 : FnL P.K dd557 f557 fd557) (g557 : mg "word_of" = some (.ref f557)) (hc8 : ∃ u v, mg "VISIBLE" = some u ∧ RelV v u ∧ ∀ w, RelD P w (k8) v) (hc9 : ∃ u v, mg "TEXT_CODES" = some u ∧ RelV v u ∧ ∀ w, RelD P w (k9) v) (b_sum : mg "sum" = none) : ∀ d, OkD P.pg P.wl P.K mg base P (1 + d) f557 fd557 ["tree"] (sp557 d)
  | 0 => OkD.imp OkD.no z557
  | d + 1 => by
    have ih := ok557 F14 g14 F13 g13 F45 g45 F557 g557 hc8 hc9 b_sum d
    have hk : 1 ≤ 1 + d := by omega
    exact okD (Φ := (ΦL 4 4 13 13 d 13 6 13)) (κ := κL) (k := 1 + d) rfl rfl rfl (Tab.consF (Tab.consF (Tab.consF (Tab.consF (Tab.consC (Tab.nil (by simp [B557])) hc9) (by omega) g557 F557.kp ih (FunD.bindsN F557 fun _ _ _ _ _ _ us hl => match us, hl with | [_], _ => rfl)) (by omega) g45 F45.kp (ok45 F45 g45 hc8) (FunD.bindsN F45 fun _ _ _ _ _ _ us hl => match us, hl with | [_], _ => rfl)) (by omega) g13 F13.kp (ok13 F13 g13) (FunD.bindsN F13 fun _ _ _ _ _ _ us hl => match us, hl with | [_, _], _ => rfl)) (by omega) g14 F14.kp (ok14 F14 g14 b_sum) (FunD.bindsN F14 fun _ _ _ _ _ _ us hl => match us, hl with | [_], _ => rfl)) F557 sc557 ck557 (ln557 (d + 1)) (rd557 rfl rfl rfl rfl rfl)
theorem ok562 {f0 : Addr} {fd0 : FuncData} (F0 : FnL P.K dd0 f0 fd0) (g0 : mg "make_set" = some (.ref f0)) {f8 : Addr} {fd8 : FuncData} (F8 : FnL P.K dd8 f8 fd8) (g8 : mg "union" = some (.ref f8)) {f563 : Addr} {fd563 : FuncData} (F563 : FnL P.K dd563 f563 fd563) (g563 : mg "sum_of" = some (.ref f563)) {f559 : Addr} {fd559 : FuncData} (F559 : FnL P.K dd559 f559 fd559) (g559 : mg "sequence_facts" = some (.ref f559)) {f558 : Addr} {fd558 : FuncData} (F558 : FnL P.K dd558 f558 fd558) (g558 : mg "greater_of" = some (.ref f558)) {f560 : Addr} {fd560 : FuncData} (F560 : FnL P.K dd560 f560 fd560) (g560 : mg "choice_facts" = some (.ref f560)) {f561 : Addr} {fd561 : FuncData} (F561 : FnL P.K dd561 f561 fd561) (g561 : mg "repeat_facts" = some (.ref f561)) {f556 : Addr} {fd556 : FuncData} (F556 : FnL P.K dd556 f556 fd556) (g556 : mg "facts_of" = some (.ref f556)) {f14 : Addr} {fd14 : FuncData} (F14 : FnL P.K dd14 f14 fd14) (g14 : mg "size" = some (.ref f14)) {f13 : Addr} {fd13 : FuncData} (F13 : FnL P.K dd13 f13 fd13) (g13 : mg "contains" = some (.ref f13)) {f45 : Addr} {fd45 : FuncData} (F45 : FnL P.K dd45 f45 fd45) (g45 : mg "character" = some (.ref f45)) {f557 : Addr} {fd557 : FuncData} (F557 : FnL P.K dd557 f557 fd557) (g557 : mg "word_of" = some (.ref f557)) {f562 : Addr} {fd562 : FuncData} (F562 : FnL P.K dd562 f562 fd562) (g562 : mg "Facts" = some (.ref (P.cls "Facts"))) (mk562 : L2.Mk P.K (P.cls "Facts") f562) (fl : ∀ q ∈ FLL, Cls P.K (P.cls q.1) ∧ NoAttr P.K (P.cls q.1) q.2) (hc7 : ∃ u v, mg "NOTHING" = some u ∧ RelV v u ∧ ∀ w, RelD P w (k7) v) (hc8 : ∃ u v, mg "VISIBLE" = some u ∧ RelV v u ∧ ∀ w, RelD P w (k8) v) (hc9 : ∃ u v, mg "TEXT_CODES" = some u ∧ RelV v u ∧ ∀ w, RelD P w (k9) v) (b_sorted : mg "sorted" = none) (b_max : mg "max" = none) (b_tuple : mg "tuple" = none) (b_list : mg "list" = none) (b_min : mg "min" = none) (b_sum : mg "sum" = none) : OkD P.pg P.wl P.K mg base P 30 f562 fd562 ["self", "tree"] sp562 := okDC (Φ := (ΦL 4 4 13 13 13 13 6 13)) (κ := κL) rfl rfl rfl (Tab.consF (Tab.consF (Tab.nil (by simp [B562])) (by omega) g557 F557.kp ((ok557 F14 g14 F13 g13 F45 g45 F557 g557 hc8 hc9 b_sum) 13) (FunD.bindsN F557 fun _ _ _ _ _ _ us hl => match us, hl with | [_], _ => rfl)) (by omega) g556 F556.kp ((ok556 F0 g0 F8 g8 F563 g563 F559 g559 F558 g558 F560 g560 F561 g561 F556 g556 hc7 b_sorted b_max b_tuple b_list b_min) 13) (FunD.bindsN F556 fun _ _ _ _ _ _ us hl => match us, hl with | [_], _ => rfl)) F562 sc562 ck562 fl (fun _ h => by cases h) ln562 (rd562 rfl rfl)
theorem ok5 {f5 : Addr} {fd5 : FuncData} (F5 : FnL P.K dd5 f5 fd5) (g5 : mg "_law_ranges" = some (.ref f5)) (b_tuple : mg "tuple" = none) (b_range : mg "range" = none) : OkD P.pg P.wl P.K mg base P 1 f5 fd5 ["_law_bits"] sp5 := okD (Φ := (ΦL 4 4 13 13 13 13 6 13)) (κ := κL) rfl rfl rfl (Tab.nil (by simp [B5, b_range, b_tuple])) F5 sc5 ck5 ln5 (rd5)
theorem ok51 {f51 : Addr} {fd51 : FuncData} (F51 : FnL P.K dd51 f51 fd51) (g51 : mg "_law_in" = some (.ref f51)) : OkD P.pg P.wl P.K mg base P 1 f51 fd51 ["_law_codes_here", "_law_code"] sp51 := okD (Φ := (ΦL 4 4 13 13 13 13 6 13)) (κ := κL) rfl rfl rfl (Tab.nil (by simp [B51])) F51 sc51 ck51 ln51 (rd51)
theorem ok181 {f5 : Addr} {fd5 : FuncData} (F5 : FnL P.K dd5 f5 fd5) (g5 : mg "_law_ranges" = some (.ref f5)) {f51 : Addr} {fd51 : FuncData} (F51 : FnL P.K dd51 f51 fd51) (g51 : mg "_law_in" = some (.ref f51)) {f181 : Addr} {fd181 : FuncData} (F181 : FnL P.K dd181 f181 fd181) (g181 : mg "_law_both" = some (.ref f181)) (b_tuple : mg "tuple" = none) (b_range : mg "range" = none) : OkD P.pg P.wl P.K mg base P 2 f181 fd181 ["_law_a", "_law_b"] sp181 := okD (Φ := (ΦL 4 4 13 13 13 13 6 13)) (κ := κL) rfl rfl rfl (Tab.consF (Tab.consF (Tab.nil (by simp [B181, b_range])) (by omega) g51 F51.kp (ok51 F51 g51) (FunD.bindsN F51 fun _ _ _ _ _ _ us hl => match us, hl with | [_, _], _ => rfl)) (by omega) g5 F5.kp (ok5 F5 g5 b_tuple b_range) (FunD.bindsN F5 fun _ _ _ _ _ _ us hl => match us, hl with | [_], _ => rfl)) F181 sc181 ck181 ln181 (rd181 rfl rfl)
theorem ok182 {f182 : Addr} {fd182 : FuncData} (F182 : FnL P.K dd182 f182 fd182) (g182 : mg "_law_sum" = some (.ref f182)) : OkD P.pg P.wl P.K mg base P 1 f182 fd182 ["_law_a", "_law_b"] sp182 := okD (Φ := (ΦL 4 4 13 13 13 13 6 13)) (κ := κL) rfl rfl rfl (Tab.nil (by simp [B182])) F182 sc182 ck182 ln182 (rd182)
theorem ok180 {f5 : Addr} {fd5 : FuncData} (F5 : FnL P.K dd5 f5 fd5) (g5 : mg "_law_ranges" = some (.ref f5)) {f51 : Addr} {fd51 : FuncData} (F51 : FnL P.K dd51 f51 fd51) (g51 : mg "_law_in" = some (.ref f51)) {f181 : Addr} {fd181 : FuncData} (F181 : FnL P.K dd181 f181 fd181) (g181 : mg "_law_both" = some (.ref f181)) {f182 : Addr} {fd182 : FuncData} (F182 : FnL P.K dd182 f182 fd182) (g182 : mg "_law_sum" = some (.ref f182)) {f180 : Addr} {fd180 : FuncData} (F180 : FnL P.K dd180 f180 fd180) (g180 : mg "_law_facts" = some (.ref f180)) (b_max : mg "max" = none) (b_tuple : mg "tuple" = none) (b_min : mg "min" = none) (b_range : mg "range" = none) : ∀ d, OkD P.pg P.wl P.K mg base P (2 + d) f180 fd180 ["_law_tree_here"] (sp180 d)
  | 0 => OkD.imp OkD.no z180
  | d + 1 => by
    have ih := ok180 F5 g5 F51 g51 F181 g181 F182 g182 F180 g180 b_max b_tuple b_min b_range d
    have hk : 2 ≤ 2 + d := by omega
    exact okD (Φ := (ΦL 4 4 13 13 13 d 6 13)) (κ := κL) (k := 2 + d) rfl rfl rfl (Tab.consF (Tab.consF (Tab.consF (Tab.nil (by simp [B180, b_max, b_tuple, b_min])) (by omega) g182 F182.kp (ok182 F182 g182) (FunD.bindsN F182 fun _ _ _ _ _ _ us hl => match us, hl with | [_, _], _ => rfl)) (by omega) g181 F181.kp (ok181 F5 g5 F51 g51 F181 g181 b_tuple b_range) (FunD.bindsN F181 fun _ _ _ _ _ _ us hl => match us, hl with | [_, _], _ => rfl)) (by omega) g180 F180.kp ih (FunD.bindsN F180 fun _ _ _ _ _ _ us hl => match us, hl with | [_], _ => rfl)) F180 sc180 ck180 (ln180 (d + 1)) (rd180 rfl rfl rfl)
theorem ok3 {f3 : Addr} {fd3 : FuncData} (F3 : FnL P.K dd3 f3 fd3) (g3 : mg "_law_same" = some (.ref f3)) (b_len : mg "len" = none) (b_int : mg "int" = none) (b_tuple : mg "tuple" = none) (b_list : mg "list" = none) (b_range : mg "range" = none) (b_isinstance : mg "isinstance" = none) (b_bool : mg "bool" = none) (b_str : mg "str" = none) : ∀ d, OkD P.pg P.wl P.K mg base P (0 + d) f3 fd3 ["_law_actual", "_law_expected"] (sp3 d)
  | 0 => OkD.imp OkD.no z3
  | d + 1 => by
    have ih := ok3 F3 g3 b_len b_int b_tuple b_list b_range b_isinstance b_bool b_str d
    have hk : 0 ≤ 0 + d := by omega
    exact okD (Φ := (ΦL 4 4 13 13 13 13 d 13)) (κ := κL) (k := 0 + d) rfl rfl rfl (Tab.consF (Tab.nil (by simp [B3, b_isinstance, b_bool, b_int, b_str, b_tuple, b_list, b_len, b_range])) (by omega) g3 F3.kp ih (FunD.bindsN F3 fun _ _ _ _ _ _ us hl => match us, hl with | [_, _], _ => rfl)) F3 sc3 ck3 (ln3 (d + 1)) (rd3 rfl)
theorem ok85 {f85 : Addr} {fd85 : FuncData} (F85 : FnL P.K dd85 f85 fd85) (g85 : mg "_law_sign" = some (.ref f85)) (b_int : mg "int" = none) : OkD P.pg P.wl P.K mg base P 1 f85 fd85 ["_law_code"] sp85 := okD (Φ := (ΦL 4 4 13 13 13 13 6 13)) (κ := κL) rfl rfl rfl (Tab.nil (by simp [B85, b_int])) F85 sc85 ck85 ln85 (rd85)
theorem ok186 {f182 : Addr} {fd182 : FuncData} (F182 : FnL P.K dd182 f182 fd182) (g182 : mg "_law_sum" = some (.ref f182)) {f85 : Addr} {fd85 : FuncData} (F85 : FnL P.K dd85 f85 fd85) (g85 : mg "_law_sign" = some (.ref f85)) {f186 : Addr} {fd186 : FuncData} (F186 : FnL P.K dd186 f186 fd186) (g186 : mg "_law_word" = some (.ref f186)) (b_len : mg "len" = none) (b_int : mg "int" = none) : ∀ d, OkD P.pg P.wl P.K mg base P (1 + d) f186 fd186 ["_law_tree_here"] (sp186 d)
  | 0 => OkD.imp OkD.no z186
  | d + 1 => by
    have ih := ok186 F182 g182 F85 g85 F186 g186 b_len b_int d
    have hk : 1 ≤ 1 + d := by omega
    exact okD (Φ := (ΦL 4 4 13 13 13 13 6 d)) (κ := κL) (k := 1 + d) rfl rfl rfl (Tab.consF (Tab.consF (Tab.consF (Tab.nil (by simp [B186, b_len])) (by omega) g85 F85.kp (ok85 F85 g85 b_int) (FunD.bindsN F85 fun _ _ _ _ _ _ us hl => match us, hl with | [_], _ => rfl)) (by omega) g186 F186.kp ih (FunD.bindsN F186 fun _ _ _ _ _ _ us hl => match us, hl with | [_], _ => rfl)) (by omega) g182 F182.kp (ok182 F182 g182) (FunD.bindsN F182 fun _ _ _ _ _ _ us hl => match us, hl with | [_, _], _ => rfl)) F186 sc186 ck186 (ln186 (d + 1)) (rd186 rfl rfl rfl)
theorem ok1173 {f1 : Addr} {fd1 : FuncData} (F1 : FnL P.K dd1 f1 fd1) (g1 : mg "_law_row" = some (.ref f1)) {f2 : Addr} {fd2 : FuncData} (F2 : FnL P.K dd2 f2 fd2) (g2 : mg "_law_digit" = some (.ref f2)) {f132 : Addr} {fd132 : FuncData} (F132 : FnL P.K dd132 f132 fd132) (g132 : mg "_law_codes" = some (.ref f132)) {f184 : Addr} {fd184 : FuncData} (F184 : FnL P.K dd184 f184 fd184) (g184 : mg "_law_leaf" = some (.ref f184)) {f185 : Addr} {fd185 : FuncData} (F185 : FnL P.K dd185 f185 fd185) (g185 : mg "_law_repeat" = some (.ref f185)) {f183 : Addr} {fd183 : FuncData} (F183 : FnL P.K dd183 f183 fd183) (g183 : mg "_law_tree" = some (.ref f183)) {f0 : Addr} {fd0 : FuncData} (F0 : FnL P.K dd0 f0 fd0) (g0 : mg "make_set" = some (.ref f0)) {f8 : Addr} {fd8 : FuncData} (F8 : FnL P.K dd8 f8 fd8) (g8 : mg "union" = some (.ref f8)) {f563 : Addr} {fd563 : FuncData} (F563 : FnL P.K dd563 f563 fd563) (g563 : mg "sum_of" = some (.ref f563)) {f559 : Addr} {fd559 : FuncData} (F559 : FnL P.K dd559 f559 fd559) (g559 : mg "sequence_facts" = some (.ref f559)) {f558 : Addr} {fd558 : FuncData} (F558 : FnL P.K dd558 f558 fd558) (g558 : mg "greater_of" = some (.ref f558)) {f560 : Addr} {fd560 : FuncData} (F560 : FnL P.K dd560 f560 fd560) (g560 : mg "choice_facts" = some (.ref f560)) {f561 : Addr} {fd561 : FuncData} (F561 : FnL P.K dd561 f561 fd561) (g561 : mg "repeat_facts" = some (.ref f561)) {f556 : Addr} {fd556 : FuncData} (F556 : FnL P.K dd556 f556 fd556) (g556 : mg "facts_of" = some (.ref f556)) {f14 : Addr} {fd14 : FuncData} (F14 : FnL P.K dd14 f14 fd14) (g14 : mg "size" = some (.ref f14)) {f13 : Addr} {fd13 : FuncData} (F13 : FnL P.K dd13 f13 fd13) (g13 : mg "contains" = some (.ref f13)) {f45 : Addr} {fd45 : FuncData} (F45 : FnL P.K dd45 f45 fd45) (g45 : mg "character" = some (.ref f45)) {f557 : Addr} {fd557 : FuncData} (F557 : FnL P.K dd557 f557 fd557) (g557 : mg "word_of" = some (.ref f557)) {f562 : Addr} {fd562 : FuncData} (F562 : FnL P.K dd562 f562 fd562) (g562 : mg "Facts" = some (.ref (P.cls "Facts"))) (mk562 : L2.Mk P.K (P.cls "Facts") f562) {f5 : Addr} {fd5 : FuncData} (F5 : FnL P.K dd5 f5 fd5) (g5 : mg "_law_ranges" = some (.ref f5)) {f51 : Addr} {fd51 : FuncData} (F51 : FnL P.K dd51 f51 fd51) (g51 : mg "_law_in" = some (.ref f51)) {f181 : Addr} {fd181 : FuncData} (F181 : FnL P.K dd181 f181 fd181) (g181 : mg "_law_both" = some (.ref f181)) {f182 : Addr} {fd182 : FuncData} (F182 : FnL P.K dd182 f182 fd182) (g182 : mg "_law_sum" = some (.ref f182)) {f180 : Addr} {fd180 : FuncData} (F180 : FnL P.K dd180 f180 fd180) (g180 : mg "_law_facts" = some (.ref f180)) {f3 : Addr} {fd3 : FuncData} (F3 : FnL P.K dd3 f3 fd3) (g3 : mg "_law_same" = some (.ref f3)) {f85 : Addr} {fd85 : FuncData} (F85 : FnL P.K dd85 f85 fd85) (g85 : mg "_law_sign" = some (.ref f85)) {f186 : Addr} {fd186 : FuncData} (F186 : FnL P.K dd186 f186 fd186) (g186 : mg "_law_word" = some (.ref f186)) {f1173 : Addr} {fd1173 : FuncData} (F1173 : FnL P.K dd1173 f1173 fd1173) (g1173 : mg "law" = some (.ref f1173)) (fl : ∀ q ∈ FLL, Cls P.K (P.cls q.1) ∧ NoAttr P.K (P.cls q.1) q.2) (hc7 : ∃ u v, mg "NOTHING" = some u ∧ RelV v u ∧ ∀ w, RelD P w (k7) v) (hc8 : ∃ u v, mg "VISIBLE" = some u ∧ RelV v u ∧ ∀ w, RelD P w (k8) v) (hc9 : ∃ u v, mg "TEXT_CODES" = some u ∧ RelV v u ∧ ∀ w, RelD P w (k9) v) (b_len : mg "len" = none) (b_int : mg "int" = none) (b_sorted : mg "sorted" = none) (b_max : mg "max" = none) (b_tuple : mg "tuple" = none) (b_list : mg "list" = none) (b_min : mg "min" = none) (b_sum : mg "sum" = none) (b_range : mg "range" = none) (b_isinstance : mg "isinstance" = none) (b_bool : mg "bool" = none) (b_str : mg "str" = none) : OkD P.pg P.wl P.K mg base P 32 f1173 fd1173 ["_law_script"] (spLaw 63) := okDC (Φ := (ΦL 4 4 13 13 13 13 6 13)) (κ := κL) rfl rfl rfl (Tab.consF (Tab.consF (Tab.consF (Tab.consF (Tab.consF (Tab.nil (by simp [B1173, b_range])) (by omega) g186 F186.kp ((ok186 F182 g182 F85 g85 F186 g186 b_len b_int) 13) (FunD.bindsN F186 fun _ _ _ _ _ _ us hl => match us, hl with | [_], _ => rfl)) (by omega) g3 F3.kp ((ok3 F3 g3 b_len b_int b_tuple b_list b_range b_isinstance b_bool b_str) 6) (FunD.bindsN F3 fun _ _ _ _ _ _ us hl => match us, hl with | [_, _], _ => rfl)) (by omega) g180 F180.kp ((ok180 F5 g5 F51 g51 F181 g181 F182 g182 F180 g180 b_max b_tuple b_min b_range) 13) (FunD.bindsN F180 fun _ _ _ _ _ _ us hl => match us, hl with | [_], _ => rfl)) (by omega) g2 F2.kp (ok2 F1 g1 F2 g2 b_len b_int) (FunD.bindsN F2 fun _ _ _ _ _ _ us hl => match us, hl with | [_, _, _], _ => rfl)) (by omega) g183 F183.kp ((ok183 F1 g1 F2 g2 F132 g132 F184 g184 F185 g185 F183 g183 b_len b_int) 4) (FunD.bindsN F183 fun _ _ _ _ _ _ us hl => match us, hl with | [_, _, _], _ => rfl)) F1173 sc1173 ck1173 fl (by intro q hq; simp only [List.mem_cons, List.not_mem_nil, or_false] at hq; rcases hq with rfl; exact ⟨_, _, _, _, by omega, g562, mk562, (ok562 F0 g0 F8 g8 F563 g563 F559 g559 F558 g558 F560 g560 F561 g561 F556 g556 F14 g14 F13 g13 F45 g45 F557 g557 F562 g562 mk562 fl hc7 hc8 hc9 b_sorted b_max b_tuple b_list b_min b_sum), (FunD.bindsN F562 fun _ _ _ _ _ _ us hl => match us, hl with | [_, _], _ => rfl)⟩) lnLaw (rd1173 rfl rfl rfl rfl rfl rfl)
end
theorem factsL {Pg : Program} {w : World} {K : PySem.W.Frag} {h : Heap} {mg : Str → Option Value} {f : Addr} (X : K.In h) (G : h.Ns mainGlobals mg) (hfa : mg ("law" : Str) = some (.ref f)) (c0 : SaysC faL fnL csL K) :
    ∃ fd : FuncData, (∀ (s : Shared) (v : Value), BindsTo s fd ⟨[v], []⟩ [("_law_script", v)]) ∧ ∀ base : Heap, OkD Pg w K mg base ⟨Pg, w, K, clsL K, []⟩ 32 f fd ["_law_script"] (spLaw 63) := by
  obtain ⟨c, cc⟩ := c0.two
  obtain ⟨fd1, F1⟩ := c.def_ 0 (d := dd1) rfl
  obtain ⟨fd2, F2⟩ := c.def_ 1 (d := dd2) rfl
  obtain ⟨fd132, F132⟩ := c.def_ 2 (d := dd132) rfl
  obtain ⟨fd184, F184⟩ := c.def_ 3 (d := dd184) rfl
  obtain ⟨fd185, F185⟩ := c.def_ 4 (d := dd185) rfl
  obtain ⟨fd183, F183⟩ := c.def_ 5 (d := dd183) rfl
  obtain ⟨fd0, F0⟩ := c.def_ 6 (d := dd0) rfl
  obtain ⟨fd8, F8⟩ := c.def_ 7 (d := dd8) rfl
  obtain ⟨fd563, F563⟩ := c.def_ 8 (d := dd563) rfl
  obtain ⟨fd559, F559⟩ := c.def_ 9 (d := dd559) rfl
  obtain ⟨fd558, F558⟩ := c.def_ 10 (d := dd558) rfl
  obtain ⟨fd560, F560⟩ := c.def_ 11 (d := dd560) rfl
  obtain ⟨fd561, F561⟩ := c.def_ 12 (d := dd561) rfl
  obtain ⟨fd556, F556⟩ := c.def_ 13 (d := dd556) rfl
  obtain ⟨fd14, F14⟩ := c.def_ 14 (d := dd14) rfl
  obtain ⟨fd13, F13⟩ := c.def_ 15 (d := dd13) rfl
  obtain ⟨fd45, F45⟩ := c.def_ 16 (d := dd45) rfl
  obtain ⟨fd557, F557⟩ := c.def_ 17 (d := dd557) rfl
  obtain ⟨fd562, F562⟩ := c.def_ 18 (d := dd562) rfl
  obtain ⟨fd5, F5⟩ := c.def_ 19 (d := dd5) rfl
  obtain ⟨fd51, F51⟩ := c.def_ 20 (d := dd51) rfl
  obtain ⟨fd181, F181⟩ := c.def_ 21 (d := dd181) rfl
  obtain ⟨fd182, F182⟩ := c.def_ 22 (d := dd182) rfl
  obtain ⟨fd180, F180⟩ := c.def_ 23 (d := dd180) rfl
  obtain ⟨fd3, F3⟩ := c.def_ 24 (d := dd3) rfl
  obtain ⟨fd85, F85⟩ := c.def_ 25 (d := dd85) rfl
  obtain ⟨fd186, F186⟩ := c.def_ 26 (d := dd186) rfl
  obtain ⟨fd1173, F1173⟩ := c.def_ 27 (d := dd1173) rfl
  cases hfa.symm.trans (He.glo_ok X G (c.fact 26 (f := .glo "law") rfl))
  have b := FunD.bindsA (ps := ["_law_script"]) F1173 fun _ _ _ _ _ _ us hl => match us, hl with | [_], _ => rfl
  exact ⟨fd1173, fun s v => b s [v] rfl, fun base => ok1173 (P := ⟨Pg, w, K, clsL K, []⟩) F1 (He.glo_ok X G (c.fact 0 (f := .glo "_law_row") rfl)) F2 (He.glo_ok X G (c.fact 1 (f := .glo "_law_digit") rfl)) F132 (He.glo_ok X G (c.fact 2 (f := .glo "_law_codes") rfl)) F184 (He.glo_ok X G (c.fact 3 (f := .glo "_law_leaf") rfl)) F185 (He.glo_ok X G (c.fact 4 (f := .glo "_law_repeat") rfl)) F183 (He.glo_ok X G (c.fact 5 (f := .glo "_law_tree") rfl)) F0 (He.glo_ok X G (c.fact 6 (f := .glo "make_set") rfl)) F8 (He.glo_ok X G (c.fact 7 (f := .glo "union") rfl)) F563 (He.glo_ok X G (c.fact 8 (f := .glo "sum_of") rfl)) F559 (He.glo_ok X G (c.fact 9 (f := .glo "sequence_facts") rfl)) F558 (He.glo_ok X G (c.fact 10 (f := .glo "greater_of") rfl)) F560 (He.glo_ok X G (c.fact 11 (f := .glo "choice_facts") rfl)) F561 (He.glo_ok X G (c.fact 12 (f := .glo "repeat_facts") rfl)) F556 (He.glo_ok X G (c.fact 13 (f := .glo "facts_of") rfl)) F14 (He.glo_ok X G (c.fact 14 (f := .glo "size") rfl)) F13 (He.glo_ok X G (c.fact 15 (f := .glo "contains") rfl)) F45 (He.glo_ok X G (c.fact 16 (f := .glo "character") rfl)) F557 (He.glo_ok X G (c.fact 17 (f := .glo "word_of") rfl)) F562 (He.glo_ok X G (c.fact 27 (f := .glo "Facts") rfl)) (He.mkr_ok (c.fact 35 (f := .mkr "Facts") rfl)) F5 (He.glo_ok X G (c.fact 18 (f := .glo "_law_ranges") rfl)) F51 (He.glo_ok X G (c.fact 19 (f := .glo "_law_in") rfl)) F181 (He.glo_ok X G (c.fact 20 (f := .glo "_law_both") rfl)) F182 (He.glo_ok X G (c.fact 21 (f := .glo "_law_sum") rfl)) F180 (He.glo_ok X G (c.fact 22 (f := .glo "_law_facts") rfl)) F3 (He.glo_ok X G (c.fact 23 (f := .glo "_law_same") rfl)) F85 (He.glo_ok X G (c.fact 24 (f := .glo "_law_sign") rfl)) F186 (He.glo_ok X G (c.fact 25 (f := .glo "_law_word") rfl)) F1173 (He.glo_ok X G (c.fact 26 (f := .glo "law") rfl)) (by intro q hq; simp only [FLL, List.mem_cons, List.not_mem_nil, or_false] at hq; rcases hq with rfl | rfl | rfl | rfl | rfl | rfl <;> first | exact ⟨(He.cls_ok (c.fact 28 (f := .cls "Facts") rfl)), (He.noat_ok (c.fact 29 (f := .noat "Facts" "shortest") rfl))⟩ | exact ⟨(He.cls_ok (c.fact 28 (f := .cls "Facts") rfl)), (He.noat_ok (c.fact 30 (f := .noat "Facts" "longest") rfl))⟩ | exact ⟨(He.cls_ok (c.fact 28 (f := .cls "Facts") rfl)), (He.noat_ok (c.fact 31 (f := .noat "Facts" "begins") rfl))⟩ | exact ⟨(He.cls_ok (c.fact 28 (f := .cls "Facts") rfl)), (He.noat_ok (c.fact 32 (f := .noat "Facts" "needs") rfl))⟩ | exact ⟨(He.cls_ok (c.fact 28 (f := .cls "Facts") rfl)), (He.noat_ok (c.fact 33 (f := .noat "Facts" "anchored") rfl))⟩ | exact ⟨(He.cls_ok (c.fact 28 (f := .cls "Facts") rfl)), (He.noat_ok (c.fact 34 (f := .noat "Facts" "word") rfl))⟩) (hcC (P := ⟨Pg, w, K, clsL K, []⟩) X G (cc ("NOTHING", k7) (by simp [csL]))) (hcStr (He.str_ok X G (c.fact 48 (f := .str "VISIBLE" " !\"#$&'()*+,-./0123456789:;<=>?@ABCDEFGHIJKLMNOPQRSTUVWXYZ[\\]^_`abcdefghijklmnopqrstuvwxyz{|}~") rfl))) (hcC (P := ⟨Pg, w, K, clsL K, []⟩) X G (cc ("TEXT_CODES", k9) (by simp [csL]))) (He.free_ok X G (c.fact 36 (f := .free "len") rfl)) (He.free_ok X G (c.fact 37 (f := .free "int") rfl)) (He.free_ok X G (c.fact 38 (f := .free "sorted") rfl)) (He.free_ok X G (c.fact 39 (f := .free "max") rfl)) (He.free_ok X G (c.fact 40 (f := .free "tuple") rfl)) (He.free_ok X G (c.fact 41 (f := .free "list") rfl)) (He.free_ok X G (c.fact 42 (f := .free "min") rfl)) (He.free_ok X G (c.fact 43 (f := .free "sum") rfl)) (He.free_ok X G (c.fact 44 (f := .free "range") rfl)) (He.free_ok X G (c.fact 45 (f := .free "isinstance") rfl)) (He.free_ok X G (c.fact 46 (f := .free "bool") rfl)) (He.free_ok X G (c.fact 47 (f := .free "str") rfl))⟩
end DL
open PySem PySem.W PySem.Calls PyProof.Rows
theorem PySem.Challenge.cw_firstway_k30_facts_by_the_table_holds : PySem.Challenge.rw_firstway_k30_facts_by_the_table.Holds := by
  w_on; o_law
  refine HandSHeadRun.head_any (r := DL.rowL) (q := view DL.rowL.prog [34]) (H := DL.hkL) (ob := DL.obL) (M := 4000) (loose := [("TEXT_CODES" : PySem.Str), ("VISIBLE" : PySem.Str), ("character" : PySem.Str), ("NOTHING" : PySem.Str), ("make_set" : PySem.Str), ("union" : PySem.Str), ("contains" : PySem.Str), ("size" : PySem.Str), ("sum_of" : PySem.Str), ("greater_of" : PySem.Str), ("repeat_facts" : PySem.Str), ("sequence_facts" : PySem.Str), ("choice_facts" : PySem.Str), ("facts_of" : PySem.Str), ("word_of" : PySem.Str), ("Facts" : PySem.Str), ("_law_row" : PySem.Str), ("_law_digit" : PySem.Str), ("_law_same" : PySem.Str), ("_law_codes" : PySem.Str), ("_law_leaf" : PySem.Str), ("_law_repeat" : PySem.Str), ("_law_tree" : PySem.Str), ("_law_sign" : PySem.Str), ("_law_in" : PySem.Str), ("_law_ranges" : PySem.Str), ("_law_both" : PySem.Str), ("_law_sum" : PySem.Str), ("_law_facts" : PySem.Str), ("_law_word" : PySem.Str)]) (d := HandSHeadRun.topDef DL.rowL.prog 34) (kwd := []) DL.obL_eq
    (by kernel_rfl) (fun s => by kernel_rfl) DL.runL (by kernel_rfl) (by kernel_rfl) (by kernel_rfl) (by rfl) (by first | assumption | decide +kernel) (by decide +kernel) ⟨rfl, rfl, rfl, rfl, rfl, by decide +kernel⟩ ?hw ?hc
  case hw => w_witness2
  case hc =>
    refine DL.walk_ofX (l := PySem.Challenge.rw_firstway_k30_facts_by_the_table) (n := 63) (k := 32) (x := "_law_script") rfl (by decide) (by kernel_rfl) ⟨rfl, by decide, by decide⟩ ?F
    intro w mg fa h Y G hmg0
    obtain ⟨K, KX, c⟩ := Y
    have hmg : mg ("law" : PySem.Str) = some (.ref fa) := hmg0
    obtain ⟨fd, hb, hF⟩ := DL.factsL (Pg := (PySem.Challenge.rw_firstway_k30_facts_by_the_table).prog) (w := w) KX G hmg c
    exact ⟨⟨(PySem.Challenge.rw_firstway_k30_facts_by_the_table).prog, w, K, DL.clsL K, []⟩, fd, rfl, KX, hb, fun base _ _ => hF base⟩

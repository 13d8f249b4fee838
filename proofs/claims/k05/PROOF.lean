import PyProof.Rows.All
import Wide.All
import OpenK.AllK
import Wide.FinOn
import PySem.Challenge.RW_fromsize_k05_signs_and_rounds
import HandS.Conv
import HandS.Deep
import HandS.Dict
import HandS.EndBits
import HandS.EndTab
import HandS.ExcInit
import HandS.ExcIs
import HandS.ExcOwn
import HandS.ExcValue
import HandS.ForExc
import HandS.ForMost
import HandS.IsInst
import HandS.Iter
import HandS.Lambda
import HandS.NamedTupSort
import HandS.NoneIn
import HandS.RaiseMore
import HandS.SetFor
import HandS.Small
import HandS.Star
import HandS.Strs
import HandS.Style
import HandS.Text
import HandS.TupAny
import HandS.TupLe
import HandS.TupSets
import HandS.Wide
import HandS.WordsExc
import HandS.Zip
import KE.DatumOrd
import KE.GoesEnum
import KE.GoesMore
import KE.KNest
import KE.OsSort
import PyProof.ReprRoads
import PyProof.Rows.SortShellAny
import PyProof.StrOps2
section
set_option Elab.async false
set_option linter.all false
set_option maxRecDepth 100000
set_option autoImplicit false
/-! TLT: tuples whose object is known to have no dict -/
open PySem PySem.Spec PyProof.Rows L2
namespace TL
def SqD (K : PySem.W.Frag) (H : Hp) (a : Addr) (xs : List V) : Prop :=
  (∃ o, H a = some (.frz o (.tup xs)) ∧ o.dict = none) ∨ ∃ (o : Obj) (its : Array Value) (n : Nat), K.lookup a = some o ∧ o.cls = .type "tuple" ∧ o.dict = none ∧ o.data = .seq its n ∧ its.size ≤ sizeLine ∧ Vals xs its.toList
theorem SqD.sq {K : PySem.W.Frag} {H : Hp} {a : Addr} {xs : List V} (h : SqD K H a xs) : SqT K H a xs := by
  rcases h with ⟨o, h, _⟩ | ⟨o, its, n, h1, h2, _, h3, h4, h5⟩
  · exact .inl (.inr ⟨o, h⟩)
  · exact .inr ⟨o, its, n, h1, h2, h3, h4, h5⟩
theorem sameSqD {K : PySem.W.Frag} {F F' : Hp} {a : Addr} {xs : List V} (e : Same F F') (h : SqD K F a xs) : SqD K F' a xs := by
  rcases h with ⟨o, h, d⟩ | h
  · exact .inl ⟨o, e _ _ h, d⟩
  · exact .inr h
def tupObj (its : List Value) : Obj := { cls := .type "tuple", data := .seq its.toArray }
section
variable {X : Cx} {pins : List (Addr × Obj)} {σ : L2.St} {H : Hp} {s : Shared}
theorem SqD.obj {a : Addr} {xs : List V} (I : Inv X pins σ H s) (h : SqD X.K H a xs) : ∃ ob, s.heap.get? a = some ob ∧ ob.cls = .type "tuple" ∧ ob.dict = none := by
  rcases h with ⟨o, h, d⟩ | ⟨o, its, n, h1, h2, h3, _⟩
  · obtain ⟨e, z, its, r, ob, e2, c, _⟩ := I.hok a _ h
    rw [e] at e2
    cases e2
    exact ⟨o, e, c, d⟩
  · exact ⟨o, I.kIn a o h1, h2, h3⟩
theorem frz_tup {P : Program} {w : World} {H : Hp} {h : Heap} {xs : List V} {its : List Value} (z : xs.length ≤ sizeLine) (r : Vals xs its) : ObjOk P w (upd H h.objs.size (.frz (tupObj its) (.tup xs))) (h.push (tupObj its)) h.objs.size (.frz (tupObj its) (.tup xs)) :=
  ⟨Heap.get?_push_size _ rfl, z, its, r, IsTup.new _ _⟩
end
section
variable {X : Cx} {es : List Expr} {t : TA} {pos : Pos}
def tTupF (t : TA) : TE := fun σ H Q => t σ H fun xs H1 => xs.length ≤ sizeLine ∧ ∀ p o, H1 p = none → o.dict = none → Q (.ref p) (upd H1 p (.frz o (.tup xs)))
theorem pe_tupF {x1 : Nat} (h : PA X es t) : PE X (.Tuple es x1 pos) (tTupF t) := by
  refine ⟨fun pins s σ H Q I hq => ?_⟩
  refine wpAny_Tuple_spliced (thn (h.run pos pins s σ H _ I hq) fun us s1 ⟨xs, H1, I1, r, z, q⟩ => ⟨by rw [← r.length]; exact z, ?_⟩)
  have hf : H1 s1.heap.objs.size = none := I1.hok.fresh (Nat.le_refl _)
  exact ⟨.ref s1.heap.objs.size, upd H1 s1.heap.objs.size (.frz (tupObj us) (.tup xs)), I1.laid (t' := s1.toks) (fun b u e => Heap.get?_push_of_some _ e) (Nat.le_refl _) (frz_tup z r), rfl, q _ _ hf rfl⟩
theorem call_tuple_ofF : CallR X (.type "tuple") (fun xs H Q => ∃ p ys, xs = [.ref p] ∧ ((SqL X.K H p ys ∧ ∀ l o, H l = none → o.dict = none → Q (.ref l) (upd H l (.frz o (.tup ys)))) ∨ (SqT X.K H p ys ∧ Q (.ref p) H))) := by
  intro pins s σ H xs us Q I r h
  obtain ⟨p, ys, rfl, h⟩ := h
  obtain ⟨u, rfl, rx⟩ := vals1 r
  cases rx
  rcases h with ⟨hq, q⟩ | ⟨hq, q⟩
  · obtain ⟨its, r', pl, hz⟩ := I.list hq
    have hlen := r'.length
    refine call_tuple_list pl.isList (fun h' kp => ?_) (by simp only [List.size_toArray] <;> omega)
    have I1 : Inv X pins σ H { s with heap := h' } := I.kept (t' := s.toks) kp
    have I2 : Inv X pins σ (upd H h'.objs.size (.frz (tupObj its) (.tup ys))) { s with heap := h'.push (tupObj its) } :=
      I1.laid (t' := s.toks) (fun b o e => Heap.get?_push_of_some _ e) (Nat.le_refl _) (frz_tup hz r')
    exact ⟨.ref h'.objs.size, _, I2, rfl, q _ _ (I1.hok.fresh (Nat.le_refl _)) rfl⟩
  · obtain ⟨its, r', pl, hz⟩ := I.tuple hq
    exact call_tuple_same pl ⟨.ref p, H, I, rfl, q⟩
def rSlF (K : PySem.W.Frag) : V → Option Int → Option Int → Hp → VK → Prop := fun x lo hi H Q => ∃ a xs, x = .ref a ∧ SqT K H a xs ∧
  ((HT.sIx xs.length 0 lo = 0 ∧ HT.sIx xs.length xs.length hi = xs.length) → Q (.ref a) H) ∧ (¬ (HT.sIx xs.length 0 lo = 0 ∧ HT.sIx xs.length xs.length hi = xs.length) → ∀ p o, H p = none → o.dict = none → Q (.ref p) (upd H p (.frz o (.tup (cutV xs lo hi)))))
theorem sl_tupF : SlR X (rSlF X.K) := by
  intro pins s σ H x v vl vu lo hi sl Q I rx hs pl pu h
  obtain ⟨a, xs, rfl, hx, q1, q2⟩ := h
  by_cases hw : HT.sIx xs.length 0 lo = 0 ∧ HT.sIx xs.length xs.length hi = xs.length
  · exact sl_tupA pins s σ H _ v vl vu lo hi sl Q I rx hs pl pu ⟨a, xs, rfl, hx, fun _ => q1 hw, fun z => absurd hw z⟩
  · cases rx
    obtain ⟨its, r, ht, hz⟩ := I.tuple hx
    have hlen : its.toArray.size = xs.length := by rw [List.size_toArray]; exact r.length.symm
    refine ⟨"tuple", _, PyProof.Rows.slot_tuple_getitem.lookup, ht.typeIs, ?_⟩
    refine HT.getItem_tuple_cut ht hs pl pu (by rw [hlen]; exact hw) ?_ (by rw [hlen]; exact hz)
    rw [hlen]
    exact ⟨.ref s.heap.objs.size, _, I.laid (t' := s.toks) (fun b ob q => Heap.get?_push_of_some _ q) (Nat.le_refl _) (frz_tup (Nat.le_trans (cutV_length xs lo hi) hz) ((r.drop (HT.sIx xs.length 0 lo)).take (HT.sIx xs.length xs.length hi - HT.sIx xs.length 0 lo))), rfl, q2 hw _ _ (I.hok.fresh (Nat.le_refl _)) rfl⟩
def rCatTF (K : PySem.W.Frag) : R2 := fun x y H Q => ∃ a b xs ys, x = .ref a ∧ y = .ref b ∧ SqT K H a xs ∧ SqT K H b ys ∧ xs ≠ [] ∧ xs.length + ys.length ≤ sizeLine ∧
  (ys = [] → Q (.ref a) H) ∧ (ys ≠ [] → ∀ p o, H p = none → o.dict = none → Q (.ref p) (upd H p (.frz o (.tup (xs ++ ys)))))
theorem op_catTF : OpR X (binaryOp .Add) (rCatTF X.K) := by
  intro pins s σ H x y v u Q I rx ry h
  obtain ⟨a, b, xs, ys, rfl, rfl, ha, hb, hx, hz, q1, q2⟩ := h
  cases rx
  cases ry
  obtain ⟨its, r1, p1, _⟩ := I.tuple ha
  obtain ⟨its2, r2, p2, _⟩ := I.tuple hb
  refine HT.cat_tup p1 p2 (fun z => hx (r1.nil_iff.mp z)) (fun z => ⟨.ref a, H, I, rfl, q1 (r2.nil_iff.mp z)⟩) (fun z => ?_) (by rw [← r1.length, ← r2.length]; exact hz)
  exact ⟨.ref s.heap.objs.size, _, I.laid (t' := s.toks) (fun b ob q => Heap.get?_push_of_some _ q) (Nat.le_refl _) (frz_tup (by rw [List.length_append]; exact hz) (r1.append r2)), rfl, q2 (fun w => z (r2.nil_iff.mpr w)) _ _ (I.hok.fresh (Nat.le_refl _)) rfl⟩
def tTupRgF (te : L2.St → Hp → (Int → Int → Hp → Prop) → Prop) : TE := fun σ H Q => te σ H fun a b H1 => RgOk a b ∧ ∀ q o, H1 q = none → o.dict = none → Q (.ref q) (upd H1 q (.frz o (.tup (rgV a b))))
theorem pe_tupRgF {e : Expr} {te : L2.St → Hp → (Int → Int → Hp → Prop) → Prop} {p pos : Pos} (hc : X.calm = true) (hg : Gl X "tuple") (hm : X.mg "tuple" = none) (he : PRg X e te) (na : starEach [e] X.env = (false, eval e X.env) :: starEach [] X.env := by rfl) : PE X (.Call (.Name "tuple" p) [e] [] pos) (tTupRgF te) := by
  refine ⟨fun pins s σ H Q I h => ?_⟩
  refine Call_ (ld_blt I hg hm PyProof.Rows.boot_tuple (PyProof.Rows.callWith_type1 (args_cons (thn (he pins s σ H _ I h) fun x s1 ⟨r, a, b, t, u, v, H1, ex, hr, I1, ok, q⟩ => args_nil ?_) na) na))
  subst ex
  obtain ⟨b1, b2, b3, b4, b5⟩ := ok
  refine call_tuple_range (n := (b - a).toNat) (I1.ok.hd hc) hr (small_one b1 b2 b3 b4) (rangeSize_nat a b) b5 fun h' tk acc hk hi => ?_
  have I2 : Inv X pins σ H1 { s1 with heap := h', toks := tk } := I1.kept hk
  have hz : (rgV a b).length ≤ sizeLine := by rw [rgV_length, sizeLine_eq]; omega
  have e := frz_tup (P := X.prog) (w := X.w) (H := H1) (h := h') hz (vals_rg hi)
  unfold tupObj at e
  rw [Array.toArray_toList] at e
  exact ⟨.ref h'.objs.size, _, I2.laid (t' := tk) (fun c o e => Heap.get?_push_of_some _ e) (Nat.le_refl _) e, rfl, q _ _ (I2.hok.fresh (Nat.le_refl _)) rfl⟩
/-- t.m(e, ..), t such a tuple -/
def tBMT (K : PySem.W.Frag) (r : V → List V → Hp → VK → Prop) (to : TE) (t : TA) : TE := fun σ H Q => to σ H fun x H1 => (∃ a xs, x = .ref a ∧ SqD K H1 a xs) ∧ t σ H1 fun xs H2 => r x xs H2 Q
theorem pe_bmT {o e : Expr} {to : TE} {name : Str} {apos cpos : Pos} {id : String} {r : V → List V → Hp → VK → Prop} (slot : PySem.Slot "tuple" name id) (hty : typeOf (.builtin id) = pure (.type "method_descriptor")) (hm : MtR X id r) (ho : PE X o to) (ha : PA X (e :: es) t)
    (hbase : attributeBase o name X.env (eval o X.env) = eval o X.env := by rfl)
    (hfew : ((backTo cpos (starEach (e :: es) X.env)).all (fun x => !x.1) && (backToKw cpos (keywordEach [] X.env)).all (fun x => x.1.isSome)
      && decide ((e :: es).length + ([] : List Keyword).length + (if ([] : List Keyword).isEmpty then 0 else 1) < 30)) = true := by rfl)
    (hline : (apos.endLine == cpos.line) = true := by rfl) (hs : starEach (e :: es) X.env = (false, eval e X.env) :: starEach es X.env := by rfl) (hplain : (backTo cpos (starEach es X.env)).any (·.1) = false := by rfl) :
    PE X (.Call (.Attribute o name apos) (e :: es) [] cpos) (tBMT X.K r to t) := by
  refine ⟨fun pins s σ H Q I h => ?_⟩
  refine wpAny_Call_method_late hbase hfew hline rfl (thn (ho.run pins s σ H _ I h) fun v s1 ⟨x, H1, I1, r1, ty, q1⟩ => ?_)
  obtain ⟨a, ys, rfl, hd⟩ := ty
  cases r1
  obtain ⟨ob, h1, h2, h3⟩ := hd.obj I1
  refine ⟨"tuple", id, PySem.F.plainAttrs_tuple, slot, hty, ⟨ob, h1, h2⟩, fun b e => by cases e; exact ⟨ob, h1, h3⟩, ?_⟩
  have hA := ha.run cpos pins s1 σ H1 _ I1 q1
  rw [hs] at hA ⊢
  refine Calls.callWith_builtin (by show (false || (backTo cpos (starEach es X.env)).any (·.1)) = false; rw [hplain] <;> rfl) (Calls.evalArgs_plain ?_)
  exact thn hA fun us s2 ⟨vs, H2, I2, r2, q2⟩ => hm pins s2 σ H2 (.ref a) vs (.ref a) us Q I2 rfl r2 q2
end
end TL

end
section
set_option Elab.async false
set_option linter.all false
set_option maxRecDepth 100000
set_option autoImplicit false
/-! TL1: tree values, how they lie in the abstract heap, the state of a small interpreter -/
open PySem PySem.Spec PyProof.Rows L2
namespace TL

inductive T where
  | non | bl (b : Bool) | int (i : Int) | str (x : Str)
  | lst (xs : List T) | tup (xs : List T) | wtp (xs : List T)
  | dic (kvs : List (T × T))
  | obj (c : Nat) (fs : List (Str × T))
  | exo (c : Nat) (fs : List (Str × T))
  | fn (a : Addr)
  | nib
  deriving Inhabited

/-- what is fixed through a run: the written part, where the drawing list lies, the classes' places -/
structure Ga where
  K : PySem.W.Frag
  nb : Addr
  ca : Nat → Addr
  tb : List (Addr × Str)

/-- at a: an exception of the class at C with the dict at d, in nobody's air -/
def EXV (C d a : Addr) : HO := .ext fun h => ∃ (oe : Obj) (vs : Array Value), h.get? a = some oe ∧ Zc (.ref C) (some d) oe ∧ oe.data = .fields vs
def keyT : Key → T
  | .inl i => .int i
  | .inr x => .str x

mutual
inductive Rep (g : Ga) (F : Hp) : V → T → Prop
  | non : Rep g F .non .non
  | bl (b : Bool) : Rep g F (.bl b) (.bl b)
  | int (i : Int) : Rep g F (.int i) (.int i)
  | str (x : Str) : Rep g F (.str x) (.str x)
  | nib : Rep g F (.ref g.nb) .nib
  | lst {a : Addr} {vs : List V} {ts : List T} : F a = some (.lst vs) → RepAll g F vs ts → Rep g F (.ref a) (.lst ts)
  | tup {a : Addr} {vs : List V} {ts : List T} : SqD g.K F a vs → RepAll g F vs ts → Rep g F (.ref a) (.tup ts)
  | wtp {a : Addr} {vs : List V} {ts : List T} : SqT g.K F a vs → RepAll g F vs ts → Rep g F (.ref a) (.wtp ts)
  | dic {a : Addr} {kvs : List (Key × V)} {ts : List (T × T)} : F a = some (.dK kvs) → RepKV g F kvs ts → Rep g F (.ref a) (.dic ts)
  | obj {a dx : Addr} {c : Nat} {fs : List (Str × V)} {ts : List (Str × T)} : F a = some (.ins (g.ca c) dx fs) → RepF g F fs ts → Rep g F (.ref a) (.obj c ts)
  | exo {a d : Addr} {c : Nat} {fs : List (Str × V)} {ts : List (Str × T)} : F a = some (EXV (g.ca c) d a) → F d = some (.xd fs) → RepF g F fs ts → Rep g F (.ref a) (.exo c ts)
  | fn (a : Addr) : Rep g F (.ref a) (.fn a)
inductive RepAll (g : Ga) (F : Hp) : List V → List T → Prop
  | nil : RepAll g F [] []
  | cons {v : V} {t : T} {vs : List V} {ts : List T} : Rep g F v t → RepAll g F vs ts → RepAll g F (v :: vs) (t :: ts)
inductive RepKV (g : Ga) (F : Hp) : List (Key × V) → List (T × T) → Prop
  | nil : RepKV g F [] []
  | cons {k : Key} {v : V} {t : T} {vs : List (Key × V)} {ts : List (T × T)} : Rep g F v t → RepKV g F vs ts → RepKV g F ((k, v) :: vs) ((keyT k, t) :: ts)
inductive RepF (g : Ga) (F : Hp) : List (Str × V) → List (Str × T) → Prop
  | nil : RepF g F [] []
  | cons {k : Str} {v : V} {t : T} {vs : List (Str × V)} {ts : List (Str × T)} : Rep g F v t → RepF g F vs ts → RepF g F ((k, v) :: vs) ((k, t) :: ts)
end

section
variable {g : Ga} {F F' H H' : Hp}
theorem sameSqT {K : PySem.W.Frag} {a : Addr} {xs : List V} (e : Same F F') (h : SqT K F a xs) : SqT K F' a xs := by
  rcases h with (h | ⟨o, h⟩) | h
  · exact .inl (.inl (e _ _ h))
  · exact .inl (.inr ⟨o, e _ _ h⟩)
  · exact .inr h
theorem Rep.mono (s : Same F F') {v : V} {t : T} (h : Rep g F v t) : Rep g F' v t :=
  Rep.rec (motive_1 := fun v t _ => Rep g F' v t) (motive_2 := fun vs ts _ => RepAll g F' vs ts) (motive_3 := fun vs ts _ => RepKV g F' vs ts) (motive_4 := fun vs ts _ => RepF g F' vs ts)
    .non .bl .int .str .nib (fun e _ r => .lst (s _ _ e) r) (fun e _ r => .tup (sameSqD s e) r) (fun e _ r => .wtp (sameSqT s e) r) (fun e _ r => .dic (s _ _ e) r) (fun e _ r => .obj (s _ _ e) r) (fun e e2 _ r => .exo (s _ _ e) (s _ _ e2) r) .fn
    .nil (fun _ _ a b => .cons a b) .nil (fun _ _ a b => .cons a b) .nil (fun _ _ a b => .cons a b) h
theorem RepAll.mono (s : Same F F') : ∀ {vs : List V} {ts : List T}, RepAll g F vs ts → RepAll g F' vs ts
  | _, _, .nil => .nil
  | _, _, .cons a b => .cons (a.mono s) (RepAll.mono s b)
theorem RepKV.mono (s : Same F F') : ∀ {vs : List (Key × V)} {ts : List (T × T)}, RepKV g F vs ts → RepKV g F' vs ts
  | _, _, .nil => .nil
  | _, _, .cons a b => .cons (a.mono s) (RepKV.mono s b)
theorem RepF.mono (s : Same F F') : ∀ {vs : List (Str × V)} {ts : List (Str × T)}, RepF g F vs ts → RepF g F' vs ts
  | _, _, .nil => .nil
  | _, _, .cons a b => .cons (a.mono s) (RepF.mono s b)
theorem RepAll.length : ∀ {vs : List V} {ts : List T}, RepAll g F vs ts → vs.length = ts.length
  | _, _, .nil => rfl
  | _, _, .cons _ b => by simp [RepAll.length b]
theorem RepAll.append : ∀ {vs ws : List V} {ts us : List T}, RepAll g F vs ts → RepAll g F ws us → RepAll g F (vs ++ ws) (ts ++ us)
  | _, _, _, _, .nil, q => q
  | _, _, _, _, .cons a b, q => .cons a (RepAll.append b q)
theorem RepAll.get : ∀ {vs : List V} {ts : List T} {i : Nat} {t : T}, RepAll g F vs ts → ts[i]? = some t → ∃ v, vs[i]? = some v ∧ Rep g F v t
  | _, _, _, _, .nil, e => by simp at e
  | _, _, 0, _, .cons a _, e => by simp at e; subst e; exact ⟨_, rfl, a⟩
  | _, _, i + 1, _, .cons _ b, e => by
    obtain ⟨v, h1, h2⟩ := RepAll.get (i := i) b (by simpa using e)
    exact ⟨v, by simpa using h1, h2⟩
theorem RepAll.getV : ∀ {vs : List V} {ts : List T} {i : Nat} {v : V}, RepAll g F vs ts → vs[i]? = some v → ∃ t, ts[i]? = some t ∧ Rep g F v t
  | _, _, _, _, .nil, e => by simp at e
  | _, _, 0, _, .cons a _, e => by simp at e; subst e; exact ⟨_, rfl, a⟩
  | _, _, i + 1, _, .cons _ b, e => by
    obtain ⟨v, h1, h2⟩ := RepAll.getV (i := i) b (by simpa using e)
    exact ⟨v, by simpa using h1, h2⟩
theorem RepAll.set {v : V} {t : T} (r : Rep g F v t) : ∀ {vs : List V} {ts : List T} (i : Nat), RepAll g F vs ts → RepAll g F (vs.set i v) (ts.set i t)
  | _, _, _, .nil => .nil
  | _, _, 0, .cons _ b => .cons r b
  | _, _, i + 1, .cons a b => .cons a (RepAll.set r i b)
theorem RepAll.take : ∀ {vs : List V} {ts : List T} (n : Nat), RepAll g F vs ts → RepAll g F (vs.take n) (ts.take n)
  | _, _, 0, _ => .nil
  | _, _, _ + 1, .nil => .nil
  | _, _, n + 1, .cons a b => .cons a (RepAll.take n b)
theorem RepAll.drop : ∀ {vs : List V} {ts : List T} (n : Nat), RepAll g F vs ts → RepAll g F (vs.drop n) (ts.drop n)
  | _, _, 0, h => h
  | _, _, _ + 1, .nil => .nil
  | _, _, n + 1, .cons _ b => RepAll.drop n b
theorem RepAll.erase : ∀ {vs : List V} {ts : List T} (n : Nat), RepAll g F vs ts → RepAll g F (vs.eraseIdx n) (ts.eraseIdx n)
  | _, _, _, .nil => .nil
  | _, _, 0, .cons _ b => b
  | _, _, n + 1, .cons a b => .cons a (RepAll.erase n b)
theorem RepAll.reverse : ∀ {vs : List V} {ts : List T}, RepAll g F vs ts → RepAll g F vs.reverse ts.reverse
  | _, _, .nil => .nil
  | _, _, .cons a b => by
    rw [List.reverse_cons, List.reverse_cons]
    exact (RepAll.reverse b).append (.cons a .nil)
theorem RepAll.ints : ∀ {vs : List V} {ns : List Int}, RepAll g F vs (ns.map T.int) → vs = ns.map V.int
  | [], [], _ => rfl
  | _ :: _, n :: ns, h => by
    cases h with
    | cons a b =>
      cases a
      rw [List.map_cons, RepAll.ints b]
  | [], _ :: _, h => by cases h
  | _ :: _, [], h => by cases h
theorem RepAll.of_ints : ∀ (ns : List Int), RepAll g F (ns.map V.int) (ns.map T.int)
  | [] => .nil
  | n :: ns => .cons (.int n) (RepAll.of_ints ns)
theorem RepAll.bools : ∀ {vs : List V} {ns : List Bool}, RepAll g F vs (ns.map T.bl) → vs = ns.map V.bl
  | [], [], _ => rfl
  | _ :: _, n :: ns, h => by
    cases h with
    | cons a b =>
      cases a
      rw [List.map_cons, RepAll.bools b]
  | [], _ :: _, h => by cases h
  | _ :: _, [], h => by cases h
end

/-! ### the state -/
inductive Slot where
  | no | fu | sh (t : T) | ow (t : T)
  deriving Inhabited
structure Nib where
  cells : List Int
  turn : Int
  rest : Int
structure PS0 where
  sl : List Slot
  nb : Nib
structure Ex where
  cls : Nat
  fs : List (Str × T)
/-- the heap and the frozen part at the entry of a def -/
structure Bs where
  H : Hp
  F : Hp
  fv : V

/-- an object whose parts stand in F -/
inductive Mk (g : Ga) (F : Hp) : HO → T → Prop
  | lst {vs : List V} {ts : List T} : RepAll g F vs ts → Mk g F (.lst vs) (.lst ts)
  | dic {kvs : List (Key × V)} {ts : List (T × T)} : RepKV g F kvs ts → Mk g F (.dK kvs) (.dic ts)
  | obj {dx : Addr} {c : Nat} {fs : List (Str × V)} {ts : List (Str × T)} : RepF g F fs ts → Mk g F (.ins (g.ca c) dx fs) (.obj c ts)
theorem Mk.mono {g : Ga} {F F' : Hp} (s : Same F F') {o : HO} {t : T} (h : Mk g F o t) : Mk g F' o t := by
  cases h with
  | lst h => exact .lst (h.mono s)
  | dic h => exact .dic (h.mono s)
  | obj h => exact .obj (h.mono s)
theorem Mk.rep {g : Ga} {F : Hp} {a : Addr} {o : HO} {t : T} (h : Mk g F o t) (e : F a = some o) : Rep g F (.ref a) t := by
  cases h with
  | lst h => exact .lst e h
  | dic h => exact .dic e h
  | obj h => exact .obj e h

def SlotRel (g : Ga) (F H : Hp) (H0 : Bs) : Slot → Option V → Prop
  | .no, _ => True
  | .fu, o => o = some H0.fv
  | .sh t, o => ∃ v, o = some v ∧ Rep g F v t
  | .ow t, o => ∃ a, o = some (.ref a) ∧ (∃ u, H a = some u ∧ Mk g F u t) ∧ F a = none ∧ Fr0 H0.H a ∧ a ≠ g.nb

def NibRel (g : Ga) (F H : Hp) (n : Nib) : Prop := ∃ c, H g.nb = some (.lst [.ref c, .int n.turn, .int n.rest]) ∧ F c = some (.lst (n.cells.map V.int))

/-- no table -/
def NT (o : HO) : Prop := ∀ ps, o ≠ .tbl ps
theorem Mk.noT {g : Ga} {F : Hp} {o : HO} {t : T} (h : Mk g F o t) (ps : Array Value) : o ≠ .tbl ps := by
  cases h <;> exact fun z => nomatch z
theorem Mk.noC {g : Ga} {F : Hp} {o : HO} {t : T} (h : Mk g F o t) (c : Addr) (q : Str) : o ≠ LamX.CodeO c q := by
  cases h <;> exact fun z => by unfold LamX.CodeO at z; cases z
theorem tabs_chg {T : List (Addr × Str)} {H : Hp} {a : Addr} {u u' : HO} (t : LamX.Tabs T H) (hu : H a = some u) (n1 : ∀ ps, u ≠ .tbl ps) (n2 : ∀ c q, u ≠ LamX.CodeO c q) : LamX.Tabs T (upd H a u') := fun p hp => by
  obtain ⟨ps, h1, h2, h3⟩ := t p hp
  refine ⟨ps, by rw [upd_ne (fun z => n1 ps (Option.some.inj (hu.symm.trans (by rw [← z]; exact h1))))]; exact h1, h2, fun pos cv hc => ?_⟩
  obtain ⟨c, e1, e2⟩ := h3 pos cv hc
  exact ⟨c, e1, by rw [upd_ne (fun z => n2 c _ (Option.some.inj (hu.symm.trans (by rw [← z]; exact e2))))]; exact e2⟩
theorem nt_upd {F : Hp} {a : Addr} {u : HO} (h : ∀ a o, F a = some o → NT o) (n : NT u) : ∀ b o, upd F a u b = some o → NT o := fun b o q => by
  by_cases hb : b = a
  · subst hb; rw [upd_same] at q; cases q; exact n
  · rw [upd_ne hb] at q; exact h b o q
/-- the list of cells stays where it is -/
def CelS (g : Ga) (H H' : Hp) : Prop := ∀ c x y, H g.nb = some (.lst [.ref c, x, y]) → ∃ x' y', H' g.nb = some (.lst [.ref c, x', y'])
theorem CelS.refl {g : Ga} (H : Hp) : CelS g H H := fun _ x y h => ⟨x, y, h⟩
theorem CelS.trans {g : Ga} {H H' H2 : Hp} (a : CelS g H H') (b : CelS g H' H2) : CelS g H H2 := fun c x y h => by
  obtain ⟨x', y', h'⟩ := a c x y h
  exact b c x' y' h'
theorem CelS.st {g : Ga} {H H' H2 : Hp} (a : CelS g H H') (s : Same H' H2) : CelS g H H2 := fun c x y h => by
  obtain ⟨x', y', h'⟩ := a c x y h
  exact ⟨x', y', s _ _ h'⟩
theorem CelS.upd {g : Ga} {H H' : Hp} {a : Addr} {u : HO} (e : CelS g H H') (n : a ≠ g.nb) : CelS g H (upd H' a u) := fun c x y h => by
  obtain ⟨x', y', h'⟩ := e c x y h
  exact ⟨x', y', by rw [upd_ne (Ne.symm n)]; exact h'⟩
structure AbsE (g : Ga) (H0 : Bs) (F H : Hp) : Prop where
  bs : Same H0.F F
  nt : ∀ a o, F a = some o → NT o
  tabs : LamX.Tabs g.tb H
  cel : CelS g H0.H H
theorem AbsE.st {g : Ga} {H0 : Bs} {F H H' : Hp} (e : AbsE g H0 F H) (s : Same H H') : AbsE g H0 F H' := ⟨e.bs, e.nt, e.tabs.ext s, e.cel.st s⟩
theorem AbsE.gr {g : Ga} {H0 : Bs} {F F' H : Hp} (e : AbsE g H0 F H) (s : Same F F') (nt : ∀ a o, F' a = some o → NT o) : AbsE g H0 F' H := ⟨e.bs.trans s, nt, e.tabs, e.cel⟩
structure Abs (g : Ga) (H0 : Bs) (F : Hp) (S : PS0) (ρ : List (Option V)) (H : Hp) : Prop where
  fh : Same F H
  fn : F g.nb = none
  nib : NibRel g F H S.nb
  keep : ∀ a o, H0.H a = some o → NT o → a ≠ g.nb → H a = some o
  fre : ∀ a o, H0.H a = some o → NT o → H0.F a = none → F a = none
  ext : AbsE g H0 F H
  len : S.sl.length = ρ.length
  sl : ∀ (i : Nat) (s : Slot) (o : Option V), S.sl[i]? = some s → ρ[i]? = some o → SlotRel g F H H0 s o
  ds : ∀ (i j : Nat) (t u : T) (a : Addr), S.sl[i]? = some (.ow t) → S.sl[j]? = some (.ow u) → ρ[i]? = some (some (.ref a)) → ρ[j]? = some (some (.ref a)) → i = j

def PS0.push (S : PS0) (x : Slot) : PS0 := { S with sl := S.sl ++ [x] }
def PS0.put (S : PS0) (i : Nat) (x : Slot) : PS0 := { S with sl := S.sl.set i x }

section
variable {g : Ga} {H0 : Bs} {F F' H H' : Hp} {S : PS0} {ρ : List (Option V)} {x y : Slot} {v : V} {o : Option V} {t : T} {a p : Addr}
theorem getE_snoc_lt {α : Type} {l : List α} {z : α} {i : Nat} (h : i < l.length) : (l ++ [z])[i]? = l[i]? := List.getElem?_append_left h
theorem getE_snoc_last {α : Type} {l : List α} {z : α} : (l ++ [z])[l.length]? = some z := by simp
theorem getE_snoc {α : Type} {l : List α} {z w : α} {i : Nat} (h : (l ++ [z])[i]? = some w) : (i < l.length ∧ l[i]? = some w) ∨ (i = l.length ∧ z = w) := by
  by_cases hi : i < l.length
  · rw [getE_snoc_lt hi] at h; exact .inl ⟨hi, h⟩
  · have hl : i < (l ++ [z]).length := (List.getElem?_eq_some_iff.mp h).1
    have e : i = l.length := by simp at hl; omega
    subst e
    rw [getE_snoc_last] at h
    exact .inr ⟨rfl, Option.some.inj h⟩

theorem Abs.pop (A : Abs g H0 F (S.push x) (ρ ++ [o]) H) : Abs g H0 F S ρ H := by
  have hl : S.sl.length = ρ.length := by have := A.len; simp [PS0.push] at this; exact this
  refine ⟨A.fh, A.fn, A.nib, A.keep, A.fre, A.ext, hl, fun i s q h1 h2 => ?_, fun i j t u a h1 h2 h3 h4 => ?_⟩
  · have i1 : i < S.sl.length := (List.getElem?_eq_some_iff.mp h1).1
    exact A.sl i s q (by show (S.sl ++ [x])[i]? = _; rw [getE_snoc_lt i1]; exact h1) (by rw [getE_snoc_lt (hl ▸ i1)]; exact h2)
  · have i1 : i < S.sl.length := (List.getElem?_eq_some_iff.mp h1).1
    have j1 : j < S.sl.length := (List.getElem?_eq_some_iff.mp h2).1
    exact A.ds i j t u a (by show (S.sl ++ [x])[i]? = _; rw [getE_snoc_lt i1]; exact h1) (by show (S.sl ++ [x])[j]? = _; rw [getE_snoc_lt j1]; exact h2)
      (by rw [getE_snoc_lt (hl ▸ i1)]; exact h3) (by rw [getE_snoc_lt (hl ▸ j1)]; exact h4)
theorem Abs.lenP (A : Abs g H0 F (S.push x) (ρ ++ [o]) H) : S.sl.length = ρ.length := A.pop.len
theorem Abs.top (A : Abs g H0 F (S.push x) (ρ ++ [o]) H) : SlotRel g F H H0 x o :=
  A.sl S.sl.length x o (by show (S.sl ++ [x])[_]? = _; exact getE_snoc_last) (by rw [A.lenP]; exact getE_snoc_last)
theorem Abs.topSh (A : Abs g H0 F (S.push (.sh t)) (ρ ++ [some v]) H) : Rep g F v t := by
  obtain ⟨w, e, r⟩ := A.top
  cases e
  exact r
/-- a slot more, no owned one -/
theorem Abs.pushSh (A : Abs g H0 F S ρ H) (r : Rep g F v t) : Abs g H0 F (S.push (.sh t)) (ρ ++ [some v]) H := by
  refine ⟨A.fh, A.fn, A.nib, A.keep, A.fre, A.ext, by simp [PS0.push, A.len], fun i s q h1 h2 => ?_, fun i j t u a h1 h2 h3 h4 => ?_⟩
  · rcases getE_snoc h1 with ⟨l1, e1⟩ | ⟨l1, e1⟩
    · rw [getE_snoc_lt (A.len ▸ l1)] at h2
      exact A.sl i s q e1 h2
    · subst e1
      subst l1
      rw [A.len, getE_snoc_last] at h2
      cases h2
      exact ⟨v, rfl, r⟩
  · rcases getE_snoc h1 with ⟨l1, e1⟩ | ⟨l1, e1⟩
    · rcases getE_snoc h2 with ⟨l2, e2⟩ | ⟨l2, e2⟩
      · rw [getE_snoc_lt (A.len ▸ l1)] at h3
        rw [getE_snoc_lt (A.len ▸ l2)] at h4
        exact A.ds i j t u a e1 e2 h3 h4
      · cases e2
    · cases e1
theorem Abs.pushNo (A : Abs g H0 F S ρ H) (o : Option V) : Abs g H0 F (S.push .no) (ρ ++ [o]) H := by
  refine ⟨A.fh, A.fn, A.nib, A.keep, A.fre, A.ext, by simp [PS0.push, A.len], fun i s q h1 h2 => ?_, fun i j t u a h1 h2 h3 h4 => ?_⟩
  · rcases getE_snoc h1 with ⟨l1, e1⟩ | ⟨l1, e1⟩
    · rw [getE_snoc_lt (A.len ▸ l1)] at h2
      exact A.sl i s q e1 h2
    · subst e1
      trivial
  · rcases getE_snoc h1 with ⟨l1, e1⟩ | ⟨l1, e1⟩
    · rcases getE_snoc h2 with ⟨l2, e2⟩ | ⟨l2, e2⟩
      · rw [getE_snoc_lt (A.len ▸ l1)] at h3
        rw [getE_snoc_lt (A.len ▸ l2)] at h4
        exact A.ds i j t u a e1 e2 h3 h4
      · cases e2
    · cases e1
/-- the frozen part grows (by what stands in H, none of it owned) -/
theorem Abs.grow (A : Abs g H0 F S ρ H) (s : Same F F') (s' : Same F' H) (n : F' g.nb = none) (nt : ∀ a o, F' a = some o → NT o) (fr : ∀ a, F a = none → F' a ≠ none → Fr0 H0.H a) (no : ∀ (i : Nat) (t : T) (a : Addr), S.sl[i]? = some (.ow t) → ρ[i]? = some (some (.ref a)) → F' a = none) : Abs g H0 F' S ρ H := by
  obtain ⟨c, n1, n2⟩ := A.nib
  refine ⟨s', n, ⟨c, n1, s _ _ n2⟩, A.keep, fun a o q1 q0 q2 => ?_, A.ext.gr s nt, A.len, fun i s1 q h1 h2 => ?_, A.ds⟩
  · cases q : F' a with
    | none => rfl
    | some u => obtain ⟨ps, e⟩ := fr a (A.fre a o q1 q0 q2) (by rw [q]; simp) o q1; exact absurd e (q0 ps)
  have h := A.sl i s1 q h1 h2
  cases s1 with
  | no => trivial
  | fu => exact h
  | sh t => obtain ⟨v, e, r⟩ := h; exact ⟨v, e, r.mono s⟩
  | ow t =>
    obtain ⟨a, e, ⟨u, hu, mk⟩, f, h0, nn⟩ := h
    subst e
    exact ⟨a, rfl, ⟨u, hu, mk.mono s⟩, no i t a h1 h2, h0, nn⟩
/-- a slot's own object is frozen -/
theorem Abs.freeze {i : Nat} (A : Abs g H0 F S ρ H) (h : S.sl[i]? = some (.ow t)) : ∃ F', Same F F' ∧ Abs g H0 F' (S.put i (.sh t)) ρ H := by
  have hi : i < S.sl.length := (List.getElem?_eq_some_iff.mp h).1
  have hr : i < ρ.length := A.len ▸ hi
  have e0 : ρ[i]? = some ρ[i] := List.getElem?_eq_getElem hr
  obtain ⟨a, e, ⟨u, hu, mk⟩, f, h0, nn⟩ := A.sl i _ _ h e0
  rw [e] at e0
  have s : Same F (upd F a u) := fun b w q => by
    rw [upd_ne (show b ≠ a from fun z => by subst z; rw [f] at q; cases q)]; exact q
  have s' : Same (upd F a u) H := fun b w q => by
    by_cases hb : b = a
    · subst hb; rw [upd_same] at q; cases q; exact hu
    · rw [upd_ne hb] at q; exact A.fh b w q
  obtain ⟨c, n1, n2⟩ := A.nib
  refine ⟨upd F a u, s, s', by rw [upd_ne (Ne.symm nn)]; exact A.fn, ⟨c, n1, s _ _ n2⟩, A.keep, fun b w q1 q0 q2 => by rw [upd_ne (show b ≠ a from fun z => by subst z; obtain ⟨ps, e⟩ := h0 w q1; exact q0 ps e)]; exact A.fre b w q1 q0 q2, A.ext.gr s (nt_upd A.ext.nt mk.noT), by simp [PS0.put, A.len], fun j s1 q h1 h2 => ?_, fun j k t1 t2 b h1 h2 h3 h4 => ?_⟩
  · by_cases hj : i = j
    · subst hj
      rw [show (S.put i (.sh t)).sl = S.sl.set i (.sh t) from rfl, List.getElem?_set_self hi] at h1
      cases h1
      rw [e0] at h2
      cases h2
      exact ⟨_, rfl, (mk.mono s).rep upd_same⟩
    · rw [show (S.put i (.sh t)).sl = S.sl.set i (.sh t) from rfl, List.getElem?_set_ne hj] at h1
      have hh := A.sl j s1 q h1 h2
      cases s1 with
      | no => trivial
      | fu => exact hh
      | sh t => obtain ⟨v, e, r⟩ := hh; exact ⟨v, e, r.mono s⟩
      | ow t1 =>
        obtain ⟨b, e', ⟨u', hu', mk'⟩, f', h0', nn'⟩ := hh
        subst e'
        refine ⟨b, rfl, ⟨u', hu', mk'.mono s⟩, ?_, h0', nn'⟩
        rw [upd_ne (fun z => hj (A.ds i j _ _ b h h1 (by subst z; exact e0) h2))]
        exact f'
  · have ne : ∀ (j : Nat) (t1 : T), (S.put i (.sh t)).sl[j]? = some (.ow t1) → S.sl[j]? = some (.ow t1) := fun j t1 h1 => by
      by_cases hj : i = j
      · subst hj
        rw [show (S.put i (.sh t)).sl = S.sl.set i (.sh t) from rfl, List.getElem?_set_self hi] at h1
        cases h1
      · rwa [show (S.put i (.sh t)).sl = S.sl.set i (.sh t) from rfl, List.getElem?_set_ne hj] at h1
    exact A.ds j k t1 t2 b (ne _ _ h1) (ne _ _ h2) h3 h4
theorem put_push_top : (S.push x).put S.sl.length y = S.push y := by
  simp [PS0.put, PS0.push]
theorem Abs.freezeTop (A : Abs g H0 F (S.push (.ow t)) (ρ ++ [o]) H) : ∃ F', Same F F' ∧ Abs g H0 F' (S.push (.sh t)) (ρ ++ [o]) H := by
  obtain ⟨F', s, A'⟩ := A.freeze (i := S.sl.length) (t := t) (by show (S.sl ++ [_])[_]? = _; exact getE_snoc_last)
  rw [put_push_top] at A'
  exact ⟨F', s, A'⟩
/-- whatever the top is, as a shared value -/
def Slot.tree : Slot → Option T
  | .no => none
  | .fu => none
  | .sh t => some t
  | .ow t => some t
theorem Abs.shTop (A : Abs g H0 F (S.push x) (ρ ++ [o]) H) (e : x.tree = some t) : ∃ F', Same F F' ∧ Abs g H0 F' (S.push (.sh t)) (ρ ++ [o]) H := by
  cases x with
  | no => cases e
  | fu => cases e
  | sh t' => cases e; exact ⟨F, Same.refl F, A⟩
  | ow t' => cases e; exact A.freezeTop
theorem Abs.fr0 (A : Abs g H0 F S ρ H) (np : Fr0 H p) : Fr0 H0.H p := fun w q => by
  have hz : p ≠ g.nb := fun hz => by
    obtain ⟨c, n1, _⟩ := A.nib
    subst hz
    obtain ⟨ps, e⟩ := np _ n1
    cases e
  refine Classical.byContradiction fun z => ?_
  have n : NT w := fun ps e => z ⟨ps, e⟩
  exact z (np w (A.keep p w q n hz))
theorem Abs.fresh (A : Abs g H0 F S ρ H) (np : H p = none) : Fr0 H0.H p := by
  exact A.fr0 (fr0_none np)
/-- a new object of one's own -/
theorem Abs.newOw (A : Abs g H0 F S ρ H) {u : HO} (m : Mk g F u t) (np : H p = none) : Abs g H0 F (S.push (.ow t)) (ρ ++ [some (.ref p)]) (upd H p u) := by
  have st : Same H (upd H p u) := fun b w q => by rw [upd_ne (ne_of_none q np)]; exact q
  obtain ⟨c, n1, n2⟩ := A.nib
  have fp : F p = none := Same.free A.fh np
  refine ⟨A.fh.trans st, A.fn, ⟨c, st _ _ n1, n2⟩, fun a w q n0 n => st _ _ (A.keep a w q n0 n), A.fre, A.ext.st st, by simp [PS0.push, A.len], fun i s q h1 h2 => ?_, fun i j t1 t2 b h1 h2 h3 h4 => ?_⟩
  · rcases getE_snoc h1 with ⟨l1, e1⟩ | ⟨l1, e1⟩
    · rw [getE_snoc_lt (A.len ▸ l1)] at h2
      have h := A.sl i s q e1 h2
      cases s with
      | no => trivial
      | fu => exact h
      | sh t => exact h
      | ow t1 =>
        obtain ⟨a, e, ⟨w, hw, mk⟩, r⟩ := h
        exact ⟨a, e, ⟨w, st _ _ hw, mk⟩, r⟩
    · subst e1
      subst l1
      rw [A.len, getE_snoc_last] at h2
      cases h2
      refine ⟨p, rfl, ⟨u, upd_same, m⟩, fp, ?_, fun z => ?_⟩
      · exact A.fresh np
      · subst z; rw [n1] at np; cases np
  · have lt : ∀ (i : Nat) (t1 : T), S.sl[i]? = some (.ow t1) → (ρ ++ [some (V.ref p)])[i]? = some (some (.ref p)) → False := fun i t1 h1 h3 => by
      have l1 : i < S.sl.length := (List.getElem?_eq_some_iff.mp h1).1
      rw [getE_snoc_lt (A.len ▸ l1)] at h3
      obtain ⟨a, e, ⟨w, hw, _⟩, _⟩ := A.sl i _ _ h1 h3
      cases e
      rw [np] at hw; cases hw
    rcases getE_snoc h1 with ⟨l1, e1⟩ | ⟨l1, e1⟩
    · rcases getE_snoc h2 with ⟨l2, e2⟩ | ⟨l2, e2⟩
      · rw [getE_snoc_lt (A.len ▸ l1)] at h3
        rw [getE_snoc_lt (A.len ▸ l2)] at h4
        exact A.ds i j t1 t2 b e1 e2 h3 h4
      · subst l2
        rw [A.len, getE_snoc_last] at h4
        cases h4
        exact (lt i t1 e1 h3).elim
    · subst l1
      rw [A.len, getE_snoc_last] at h3
      cases h3
      rcases getE_snoc h2 with ⟨l2, e2⟩ | ⟨l2, e2⟩
      · exact (lt j t2 e2 h4).elim
      · exact l2.symm
theorem Abs.newT (A : Abs g H0 F S ρ H) {u : HO} {t : T} (m : ∀ F', Same F F' → F' p = some u → Rep g F' (.ref p) t) (nu : NT u) (np : H p = none) : ∃ F', Same F F' ∧ Abs g H0 F' (S.push (.sh t)) (ρ ++ [some (.ref p)]) (upd H p u) := by
  have st : Same H (upd H p u) := fun b w q => by rw [upd_ne (ne_of_none q np)]; exact q
  have fp : F p = none := Same.free A.fh np
  obtain ⟨c, n1, n2⟩ := A.nib
  have npn : p ≠ g.nb := fun z => by subst z; rw [n1] at np; cases np
  have sF : Same F (upd F p u) := fun b w q => by rw [upd_ne (ne_of_none q fp)]; exact q
  refine ⟨upd F p u, sF, ?_⟩
  have A1 : Abs g H0 F S ρ (upd H p u) := by
    refine ⟨A.fh.trans st, A.fn, ⟨c, st _ _ n1, n2⟩, fun a w q n0 n => st _ _ (A.keep a w q n0 n), A.fre, A.ext.st st, A.len, fun i s q h1 h2 => ?_, A.ds⟩
    have h := A.sl i s q h1 h2
    cases s with
    | no => trivial
    | fu => exact h
    | sh t => exact h
    | ow t1 =>
      obtain ⟨a, e, ⟨w, hw, mk⟩, r⟩ := h
      exact ⟨a, e, ⟨w, st _ _ hw, mk⟩, r⟩
  have A2 : Abs g H0 (upd F p u) S ρ (upd H p u) := by
    refine A1.grow sF (fun b w q => ?_) (by rw [upd_ne (Ne.symm npn)]; exact A.fn) (nt_upd A.ext.nt nu) (fun a q1 q2 => ?_) fun i t a h1 h2 => ?_
    · by_cases hb : b = p
      · subst hb; rw [upd_same] at q ⊢; exact q
      · rw [upd_ne hb] at q ⊢; exact A.fh b w q
    · by_cases hb : a = p
      · subst hb; exact A.fresh np
      · rw [upd_ne hb] at q2; exact absurd q1 q2
    · obtain ⟨a', e, ⟨w, hw, _⟩, f, _⟩ := A.sl i _ _ h1 h2
      cases e
      rw [upd_ne (ne_of_none hw np)]
      exact f
  exact A2.pushSh (m _ sF upd_same)
theorem Abs.newTup (A : Abs g H0 F S ρ H) {vs : List V} {ts : List T} {o : Obj} (m : RepAll g F vs ts) (np : H p = none) (hd : o.dict = none) : ∃ F', Same F F' ∧ Abs g H0 F' (S.push (.sh (.tup ts))) (ρ ++ [some (.ref p)]) (upd H p (.frz o (.tup vs))) :=
  A.newT (fun F' s e => .tup (.inl ⟨o, e, hd⟩) (m.mono s)) (fun _ z => nomatch z) np
theorem Abs.newWtp (A : Abs g H0 F S ρ H) {vs : List V} {ts : List T} (m : RepAll g F vs ts) (np : H p = none) : ∃ F', Same F F' ∧ Abs g H0 F' (S.push (.sh (.wtp ts))) (ρ ++ [some (.ref p)]) (upd H p (.tup vs)) :=
  A.newT (fun F' s e => .wtp (.inl (.inl e)) (m.mono s)) (fun _ z => nomatch z) np
/-- the top goes to a slot -/
theorem Abs.assign {σ τ : List (Option V)} {i : Nat} (A : Abs g H0 F (S.push x) (σ ++ τ ++ [some v]) H) (hi : i < σ.length) : Abs g H0 F (S.put i x) (σ.set i (some v) ++ τ) H := by
  have A0 := A.pop
  have hl := A0.len
  have hlen : i < S.sl.length := by rw [hl]; simp; omega
  have e : (σ.set i (some v) ++ τ) = (σ ++ τ).set i (some v) := by rw [List.set_append_left _ _ hi]
  rw [e]
  have hi2 : i < (σ ++ τ).length := by simp; omega
  refine ⟨A.fh, A.fn, A.nib, A.keep, A.fre, A.ext, by simp [PS0.put, hl], fun j s q h1 h2 => ?_, fun j k t1 t2 b h1 h2 h3 h4 => ?_⟩
  · by_cases hj : i = j
    · subst hj
      rw [show (S.put i x).sl = S.sl.set i x from rfl, List.getElem?_set_self hlen] at h1
      rw [List.getElem?_set_self hi2] at h2
      cases h1
      cases h2
      exact A.top
    · rw [show (S.put i x).sl = S.sl.set i x from rfl, List.getElem?_set_ne hj] at h1
      rw [List.getElem?_set_ne hj] at h2
      exact A0.sl j s q h1 h2
  · -- old places: i stands for the top
    have back : ∀ (j : Nat) (t1 : T), (S.put i x).sl[j]? = some (.ow t1) → ((σ ++ τ).set i (some v))[j]? = some (some (.ref b)) →
        ∃ j', (S.push x).sl[j']? = some (.ow t1) ∧ (σ ++ τ ++ [some v])[j']? = some (some (.ref b)) ∧ (j = if j' = S.sl.length then i else j') := fun j t1 h1 h3 => by
      by_cases hj : i = j
      · subst hj
        rw [show (S.put i x).sl = S.sl.set i x from rfl, List.getElem?_set_self hlen] at h1
        rw [List.getElem?_set_self hi2] at h3
        cases h1
        refine ⟨S.sl.length, by show (S.sl ++ [_])[_]? = _; exact getE_snoc_last, ?_, by simp⟩
        rw [hl, getE_snoc_last]
        exact h3
      · rw [show (S.put i x).sl = S.sl.set i x from rfl, List.getElem?_set_ne hj] at h1
        rw [List.getElem?_set_ne hj] at h3
        have l1 : j < S.sl.length := (List.getElem?_eq_some_iff.mp h1).1
        refine ⟨j, by show (S.sl ++ [_])[_]? = _; rw [getE_snoc_lt l1]; exact h1, by rw [getE_snoc_lt (hl ▸ l1)]; exact h3, ?_⟩
        rw [if_neg (by omega)]
    obtain ⟨j', p1, p2, p3⟩ := back j t1 h1 h3
    obtain ⟨k', q1, q2, q3⟩ := back k t2 h2 h4
    have := A.ds j' k' t1 t2 b p1 q1 p2 q2
    rw [p3, q3, this]
/-- an own object is changed -/
theorem Abs.change {i : Nat} {t' : T} (A : Abs g H0 F S ρ H) (h : S.sl[i]? = some (.ow t)) (h2 : ρ[i]? = some (some (.ref a))) {u' : HO} (m : Mk g F u' t') : Abs g H0 F (S.put i (.ow t')) ρ (upd H a u') := by
  have hi : i < S.sl.length := (List.getElem?_eq_some_iff.mp h).1
  obtain ⟨a', e, ⟨u, hu, mk⟩, f, h0, nn⟩ := A.sl i _ _ h h2
  cases e
  obtain ⟨c, n1, n2⟩ := A.nib
  refine ⟨fun b w q => ?_, A.fn, ⟨c, ?_, n2⟩, fun b w q n0 n => ?_, fun b w q n0 n => ?_, ⟨A.ext.bs, A.ext.nt, tabs_chg A.ext.tabs hu mk.noT mk.noC, A.ext.cel.upd nn⟩, by simp [PS0.put, A.len], fun j s q h1 h3 => ?_, fun j k t1 t2 b h1 h3 h4 h5 => ?_⟩
  · rw [upd_ne (show b ≠ a from fun z => by subst z; rw [f] at q; cases q)]; exact A.fh b w q
  · rw [upd_ne (Ne.symm nn)]; exact n1
  · rw [upd_ne (show b ≠ a from fun z => by subst z; obtain ⟨ps, e⟩ := h0 w q; exact n0 ps e)]; exact A.keep b w q n0 n
  · exact A.fre b w q n0 n
  · by_cases hj : i = j
    · subst hj
      rw [show (S.put i (.ow t')).sl = S.sl.set i (.ow t') from rfl, List.getElem?_set_self hi] at h1
      cases h1
      rw [h2] at h3
      cases h3
      exact ⟨a, rfl, ⟨u', upd_same, m⟩, f, h0, nn⟩
    · rw [show (S.put i (.ow t')).sl = S.sl.set i (.ow t') from rfl, List.getElem?_set_ne hj] at h1
      have hh := A.sl j s q h1 h3
      cases s with
      | no => trivial
      | fu => exact hh
      | sh t => exact hh
      | ow t1 =>
        obtain ⟨b, e', ⟨u2, hu2, mk2⟩, r⟩ := hh
        subst e'
        exact ⟨b, rfl, ⟨u2, by rw [upd_ne (show b ≠ a from fun z => hj (A.ds i j _ _ b h h1 (by subst z; exact h2) h3))]; exact hu2, mk2⟩, r⟩
  · have ne : ∀ (j : Nat) (t1 : T), (S.put i (.ow t')).sl[j]? = some (.ow t1) → ∃ t0, S.sl[j]? = some (.ow t0) := fun j t1 h1 => by
      by_cases hj : i = j
      · subst hj; exact ⟨_, h⟩
      · rw [show (S.put i (.ow t')).sl = S.sl.set i (.ow t') from rfl, List.getElem?_set_ne hj] at h1
        exact ⟨_, h1⟩
    obtain ⟨t3, h1'⟩ := ne _ _ h1
    obtain ⟨t4, h3'⟩ := ne _ _ h3
    exact A.ds j k t3 t4 b h1' h3' h4 h5
end
end TL

end
section
set_option Elab.async false
set_option linter.all false
set_option maxRecDepth 100000
set_option autoImplicit false
/-! TL2: readings by semantic functions; names, constants, operators, tests -/
open PySem PySem.Spec PyProof.Rows L2
namespace TL

structure Sta where
  lo : List Slot
  gh : List Slot
  nb : Nib
inductive R (α : Type) where
  | ok (a : α) (S : Sta) | exc (e : Ex) (S : Sta) | stuck
def R.bind {α β : Type} (r : R α) (k : α → Sta → R β) : R β := match r with
  | .ok a S => k a S
  | .exc e S => .exc e S
  | .stuck => .stuck
@[simp] theorem R.bind_ok {α β : Type} (a : α) (S : Sta) (k : α → Sta → R β) : (R.ok a S).bind k = k a S := rfl
@[simp] theorem R.bind_stuck {α β : Type} (k : α → Sta → R β) : (R.stuck : R α).bind k = R.stuck := rfl
def Sta.z (S : Sta) : PS0 := ⟨S.lo ++ S.gh, S.nb⟩
def Sta.push (S : Sta) (x : Slot) : Sta := { S with gh := S.gh ++ [x] }
def Sta.put (S : Sta) (i : Nat) (x : Slot) : Sta := { S with lo := S.lo.set i x }
theorem Sta.z_push (S : Sta) (x : Slot) : (S.push x).z = S.z.push x := by simp [Sta.z, Sta.push, PS0.push]
theorem Sta.z_put {S : Sta} {i : Nat} {x : Slot} (h : i < S.lo.length) : (S.put i x).z = S.z.put i x := by simp [Sta.z, Sta.put, PS0.put, List.set_append_left _ _ h]

/-- what is fixed through a def's run -/
structure Cfg where
  g : Ga
  B : Bs
  E : List (Option V) → XK
structure AbsX (c : Cfg) (F : Hp) (S : Sta) (σ τ : List (Option V)) (H : Hp) : Prop where
  a : Abs c.g c.B F S.z (σ ++ τ) H
  l : S.lo.length = σ.length
/-- an error in the air: its dict is new since B -/
def ExRel (g : Ga) (B F H : Hp) (e : Ex) (cls : Value) (d : Option Addr) : Prop := cls = .ref (g.ca e.cls) ∧ ∃ a fs, d = some a ∧ Fr0 B a ∧ H a = some (.xd fs) ∧ RepF g F fs e.fs

section
variable {c : Cfg} {F F' F1 H : Hp} {S S' : Sta} {σ τ : List (Option V)} {x : Slot} {v : V} {o : Option V} {t : T}
theorem AbsX.gl (A : AbsX c F S σ τ H) : S.gh.length = τ.length := by
  have h1 := A.a.len
  have h2 := A.l
  simp [Sta.z] at h1
  omega
theorem AbsX.pop (A : AbsX c F (S.push x) σ (τ ++ [o]) H) : AbsX c F S σ τ H := by
  refine ⟨?_, A.l⟩
  have h := A.a
  rw [Sta.z_push, ← List.append_assoc] at h
  exact h.pop
theorem AbsX.mk' (h : Abs c.g c.B F (S.z.push x) (σ ++ τ ++ [o]) H) (l : S.lo.length = σ.length) : AbsX c F (S.push x) σ (τ ++ [o]) H :=
  ⟨by rw [Sta.z_push, ← List.append_assoc]; exact h, l⟩
theorem AbsX.as (A : AbsX c F (S.push x) σ (τ ++ [o]) H) : Abs c.g c.B F (S.z.push x) (σ ++ τ ++ [o]) H := by
  have h := A.a
  rw [Sta.z_push, ← List.append_assoc] at h
  exact h
theorem AbsX.pushSh (A : AbsX c F S σ τ H) (r : Rep c.g F v t) : AbsX c F (S.push (.sh t)) σ (τ ++ [some v]) H := .mk' (A.a.pushSh r) A.l
theorem AbsX.topSh (A : AbsX c F (S.push (.sh t)) σ (τ ++ [some v]) H) : Rep c.g F v t := A.as.topSh
theorem AbsX.shTop (A : AbsX c F (S.push x) σ (τ ++ [o]) H) (e : x.tree = some t) : ∃ F', Same F F' ∧ AbsX c F' (S.push (.sh t)) σ (τ ++ [o]) H := by
  obtain ⟨F', s, A'⟩ := A.as.shTop e
  exact ⟨F', s, .mk' A' A.l⟩
theorem AbsX.newOw {u : HO} {p : Addr} (A : AbsX c F S σ τ H) (m : Mk c.g F u t) (np : H p = none) : AbsX c F (S.push (.ow t)) σ (τ ++ [some (.ref p)]) (upd H p u) := .mk' (A.a.newOw m np) A.l
theorem AbsX.newTup {vs : List V} {ts : List T} {p : Addr} {o : Obj} (A : AbsX c F S σ τ H) (m : RepAll c.g F vs ts) (np : H p = none) (hd : o.dict = none) : ∃ F', Same F F' ∧ AbsX c F' (S.push (.sh (.tup ts))) σ (τ ++ [some (.ref p)]) (upd H p (.frz o (.tup vs))) := by
  obtain ⟨F', s, A'⟩ := A.a.newTup m np hd
  exact ⟨F', s, .mk' A' A.l⟩
theorem AbsX.newWtp {vs : List V} {ts : List T} {p : Addr} (A : AbsX c F S σ τ H) (m : RepAll c.g F vs ts) (np : H p = none) : ∃ F', Same F F' ∧ AbsX c F' (S.push (.sh (.wtp ts))) σ (τ ++ [some (.ref p)]) (upd H p (.tup vs)) := by
  obtain ⟨F', s, A'⟩ := A.a.newWtp m np
  exact ⟨F', s, .mk' A' A.l⟩
theorem AbsX.slot {i : Nat} {s : Slot} (A : AbsX c F S σ τ H) (h : S.lo[i]? = some s) : ∃ o, σ[i]? = some o ∧ SlotRel c.g F H c.B s o := by
  have hi : i < S.lo.length := (List.getElem?_eq_some_iff.mp h).1
  have hi2 : i < σ.length := A.l ▸ hi
  refine ⟨σ[i], List.getElem?_eq_getElem hi2, ?_⟩
  refine A.a.sl i s _ (by show (S.lo ++ S.gh)[i]? = _; rw [List.getElem?_append_left hi]; exact h) ?_
  rw [List.getElem?_append_left hi2]
  exact List.getElem?_eq_getElem hi2
theorem AbsX.assign {i : Nat} (A : AbsX c F (S.push x) σ (τ ++ [some v]) H) (hi : i < σ.length) : AbsX c F (S.put i x) (σ.set i (some v)) τ H := by
  have l : S.lo.length = σ.length := A.l
  refine ⟨?_, by simp [Sta.put, l]⟩
  rw [Sta.z_put (l ▸ hi)]
  exact A.as.assign hi
theorem AbsX.freeze {i : Nat} (A : AbsX c F S σ τ H) (h : S.lo[i]? = some (.ow t)) : ∃ F', Same F F' ∧ AbsX c F' (S.put i (.sh t)) σ τ H := by
  have hi : i < S.lo.length := (List.getElem?_eq_some_iff.mp h).1
  obtain ⟨F', s, A'⟩ := A.a.freeze (i := i) (t := t) (by show (S.lo ++ S.gh)[i]? = _; rw [List.getElem?_append_left hi]; exact h)
  exact ⟨F', s, by rw [Sta.z_put hi]; exact A', by simp [Sta.put, A.l]⟩
theorem AbsX.change {i : Nat} {a : Addr} {t' : T} {u' : HO} (A : AbsX c F S σ τ H) (h : S.lo[i]? = some (.ow t)) (h2 : σ[i]? = some (some (.ref a))) (m : Mk c.g F u' t') : AbsX c F (S.put i (.ow t')) σ τ (upd H a u') := by
  have hi : i < S.lo.length := (List.getElem?_eq_some_iff.mp h).1
  refine ⟨?_, by simp [Sta.put, A.l]⟩
  rw [Sta.z_put hi]
  refine A.a.change (i := i) (t := t) (by show (S.lo ++ S.gh)[i]? = _; rw [List.getElem?_append_left hi]; exact h) ?_ m
  rw [List.getElem?_append_left (A.l ▸ hi)]
  exact h2
end

/-! ### operands -/
inductive Opd where
  | val (t : T) | pl (i : Nat)
def Opd.get (S : Sta) : Opd → Option T
  | .val t => some t
  | .pl i => (S.lo[i]?).bind Slot.tree
def OpdRel (g : Ga) (F : Hp) (σ : List (Option V)) : Opd → V → Prop
  | .val t, v => Rep g F v t
  | .pl i, v => σ[i]? = some (some v)
/-- read now: it stands in F, or its top stands in H alone -/
def PRep (g : Ga) (F H : Hp) (v : V) (t : T) : Prop := Rep g F v t ∨ ∃ a u, v = .ref a ∧ H a = some u ∧ Mk g F u t
inductive OpdAll (g : Ga) (F : Hp) (σ : List (Option V)) : List Opd → List V → Prop
  | nil : OpdAll g F σ [] []
  | cons {o : Opd} {v : V} {os : List Opd} {vs : List V} : OpdRel g F σ o v → OpdAll g F σ os vs → OpdAll g F σ (o :: os) (v :: vs)
inductive PRepAll (g : Ga) (F H : Hp) : List V → List T → Prop
  | nil : PRepAll g F H [] []
  | cons {v : V} {t : T} {vs : List V} {ts : List T} : PRep g F H v t → PRepAll g F H vs ts → PRepAll g F H (v :: vs) (t :: ts)
def gets (S : Sta) : List Opd → Option (List T)
  | [] => some []
  | o :: os => (o.get S).bind fun t => (gets S os).map (t :: ·)
section
variable {c : Cfg} {F F' F1 H : Hp} {S S' : Sta} {σ τ : List (Option V)} {o : Opd} {v : V} {t : T}
theorem OpdRel.mono (s : Same F F') (h : OpdRel c.g F σ o v) : OpdRel c.g F' σ o v := by
  cases o with
  | val t => exact Rep.mono s h
  | pl i => exact h
theorem OpdAll.mono (s : Same F F') : ∀ {os : List Opd} {vs : List V}, OpdAll c.g F σ os vs → OpdAll c.g F' σ os vs
  | _, _, .nil => .nil
  | _, _, .cons a b => .cons (a.mono s) (OpdAll.mono s b)
theorem AbsX.opd (A : AbsX c F S σ τ H) (h : OpdRel c.g F σ o v) (e : o.get S = some t) : PRep c.g F H v t := by
  cases o with
  | val t' => cases e; exact .inl h
  | pl i =>
    have h : σ[i]? = some (some v) := h
    cases q : S.lo[i]? with
    | none => simp [Opd.get, q] at e
    | some s =>
      simp [Opd.get, q] at e
      obtain ⟨w, hw, r⟩ := A.slot q
      rw [h] at hw
      cases hw
      cases s with
      | no => cases e
      | fu => cases e
      | sh t' =>
        cases e
        obtain ⟨_, e1, r⟩ := r
        cases e1
        exact .inl r
      | ow t' =>
        cases e
        obtain ⟨a, e1, ⟨u, hu, m⟩, _⟩ := r
        cases e1
        exact .inr ⟨a, u, rfl, hu, m⟩
theorem AbsX.opds (A : AbsX c F S σ τ H) : ∀ {os : List Opd} {vs : List V} {ts : List T}, OpdAll c.g F σ os vs → gets S os = some ts → PRepAll c.g F H vs ts
  | _, _, _, .nil, e => by cases e; exact .nil
  | o :: os, _, _, .cons a b, e => by
    cases q : o.get S with
    | none => simp [gets, q] at e
    | some t =>
      cases q2 : gets S os with
      | none => simp [gets, q, q2] at e
      | some ts =>
        simp [gets, q, q2] at e
        subst e
        exact .cons (A.opd a q) (A.opds b q2)
end

/-! ### readings -/
inductive Flow where
  | nx | rt (x : Slot) | bk | ct
def rOut {α : Type} (c : Cfg) (F : Hp) (σ τ : List (Option V)) (P : α → Sta → Hp → Hp → Prop) : R α → Prop
  | .ok a S => ∀ H' F', Same F F' → P a S F' H'
  | .exc e S => ∀ cls d H' F', Same F F' → AbsX c F' S σ τ H' → ExRel c.g c.B.H F' H' e cls d → c.E σ cls d H'
  | .stuck => False
theorem rOut.mono {α : Type} {c : Cfg} {F F1 : Hp} {σ τ : List (Option V)} {P : α → Sta → Hp → Hp → Prop} (s : Same F F1) : ∀ {r : R α}, rOut c F σ τ P r → rOut c F1 σ τ P r
  | .ok _ _, h => fun H' F' s' => h H' F' (s.trans s')
  | .exc _ _, h => fun cls d H' F' s' => h cls d H' F' (s.trans s')
  | .stuck, h => h
theorem rOut.bind {α β : Type} {c : Cfg} {F : Hp} {σ τ : List (Option V)} {P1 : α → Sta → Hp → Hp → Prop} {P2 : β → Sta → Hp → Hp → Prop} {r : R α} {k : α → Sta → R β} (h : rOut c F σ τ P2 (r.bind k))
    (K : ∀ a S F' H', Same F F' → rOut c F' σ τ P2 (k a S) → P1 a S F' H') : rOut c F σ τ P1 r := by
  cases r with
  | ok a S =>
    intro H' F' s
    exact K a S F' H' s (rOut.mono s h)
  | exc e S => exact h
  | stuck => exact h

abbrev EF := Sta → R Slot
abbrev OF := Sta → R Opd
abbrev TF := Sta → R Bool
abbrev AF := Sta → R (List Opd)
abbrev SF := Sta → R Flow
def eP (c : Cfg) (σ τ : List (Option V)) (Q : VK) : Slot → Sta → Hp → Hp → Prop := fun x S F' H' => ∀ v, AbsX c F' (S.push x) σ (τ ++ [some v]) H' → Q v H'
def oP (c : Cfg) (σ τ : List (Option V)) (Q : VK) : Opd → Sta → Hp → Hp → Prop := fun o S F' H' => ∀ v, AbsX c F' S σ τ H' → OpdRel c.g F' σ o v → Q v H'
def tP (c : Cfg) (σ τ : List (Option V)) (Q : Bool → Hp → Prop) : Bool → Sta → Hp → Hp → Prop := fun b S F' H' => AbsX c F' S σ τ H' → Q b H'
def aP (c : Cfg) (σ τ : List (Option V)) (Q : List V → Hp → Prop) : List Opd → Sta → Hp → Hp → Prop := fun os S F' H' => ∀ vs, AbsX c F' S σ τ H' → OpdAll c.g F' σ os vs → Q vs H'
def rdE (c : Cfg) (f : EF) : TE := fun σ H Q => ∃ τ F S, AbsX c F S σ τ H ∧ rOut c F σ τ (eP c σ τ Q) (f S)
def rdO (c : Cfg) (f : OF) : TE := fun σ H Q => ∃ τ F S, AbsX c F S σ τ H ∧ rOut c F σ τ (oP c σ τ Q) (f S)
def rdT (c : Cfg) (f : TF) : TT := fun σ H Q => ∃ τ F S, AbsX c F S σ τ H ∧ rOut c F σ τ (tP c σ τ Q) (f S)
def rdA (c : Cfg) (f : AF) : TA := fun σ H Q => ∃ τ F S, AbsX c F S σ τ H ∧ rOut c F σ τ (aP c σ τ Q) (f S)

theorem PE.imp {X : Cx} {e : Expr} {t t' : TE} (h : PE X e t) (w : ∀ σ H Q, t' σ H Q → t σ H Q) : PE X e t' := ⟨fun pins s σ H Q I q => h.run pins s σ H Q I (w σ H Q q)⟩
theorem PT.imp {X : Cx} {e : Expr} {t t' : TT} (h : PT X e t) (w : ∀ σ H Q, t' σ H Q → t σ H Q) : PT X e t' := ⟨fun pins s σ H Q I q => h.run pins s σ H Q I (w σ H Q q)⟩
theorem PW.imp {X : Cx} {e : Expr} {t t' : TT} (h : PW X e t) (w : ∀ σ H Q, t' σ H Q → t σ H Q) : PW X e t' := ⟨fun wh pins s σ H Q I q => h.run wh pins s σ H Q I (w σ H Q q)⟩
theorem PA.imp {X : Cx} {e : List Expr} {t t' : TA} (h : PA X e t) (w : ∀ σ H Q, t' σ H Q → t σ H Q) : PA X e t' := ⟨fun p pins s σ H Q I q => h.run p pins s σ H Q I (w σ H Q q)⟩
theorem ps_imp {X : Cx} {e : Stmt} {t t' : TS} (h : PS X e t) (w : ∀ D σ H, t' D σ H → t D σ H) : PS X e t' := ⟨fun pins s σ H D I q => h.run pins s σ H D I (w D σ H q)⟩

end TL

end
section
set_option Elab.async false
set_option linter.all false
set_option maxRecDepth 100000
set_option autoImplicit false
/-! TL3: expressions -/
open PySem PySem.Spec PyProof.Rows L2
namespace TL
def sz : Nat := 16777216
theorem sz_eq : sz = sizeLine := sizeLine_eq.symm

/-! ### names, constants -/
def var (i : Nat) : OF := fun S => match S.lo[i]? with
  | some (.sh t) => .ok (.val t) S
  | some (.ow _) => .ok (.pl i) S
  | _ => .stuck
def varE (i : Nat) : EF := fun S => match S.lo[i]? with
  | some (.sh t) => .ok (.sh t) S
  | some (.ow t) => .ok (.sh t) (S.put i (.sh t))
  | _ => .stuck
/-- handed out for good: the slot is left without it -/
def varR (i : Nat) : EF := fun S => match S.lo[i]? with
  | some (.sh t) => .ok (.sh t) S
  | some (.ow t) => .ok (.ow t) (S.put i .no)
  | _ => .stuck
def con (t : T) : EF := fun S => .ok (.sh t) S
def opE (f : EF) : OF := fun S => (f S).bind fun x S1 => match x.tree with
  | some t => .ok (.val t) S1
  | none => .stuck
section
variable {X : Cx} {c : Cfg} {e a b : Expr} {es : List Expr} {pos : Pos}
theorem do_var {i : Nat} {x : Str} (h : PE X (.Name x pos) (tVar i)) : PE X (.Name x pos) (rdO c (var i)) := by
  refine PE.imp h fun σ H Q q => ?_
  obtain ⟨τ, F, S, A, q⟩ := q
  unfold var at q
  split at q
  · rename_i t e
    obtain ⟨o, h1, w, h2, r⟩ := A.slot e
    subst h2
    exact ⟨w, h1, q H F (Same.refl F) w A r⟩
  · rename_i t e
    obtain ⟨o, h1, w, h2, r⟩ := A.slot e
    subst h2
    exact ⟨_, h1, q H F (Same.refl F) _ A h1⟩
  · exact q.elim
theorem de_var {i : Nat} {x : Str} (h : PE X (.Name x pos) (tVar i)) : PE X (.Name x pos) (rdE c (varE i)) := by
  refine PE.imp h fun σ H Q q => ?_
  obtain ⟨τ, F, S, A, q⟩ := q
  unfold varE at q
  split at q
  · rename_i t e
    obtain ⟨o, h1, w, h2, r⟩ := A.slot e
    subst h2
    exact ⟨w, h1, q H F (Same.refl F) w (A.pushSh r)⟩
  · rename_i t e
    obtain ⟨F', s, A'⟩ := A.freeze e
    have hi : i < S.lo.length := (List.getElem?_eq_some_iff.mp e).1
    obtain ⟨o, h1, w, h2, r⟩ := A'.slot (i := i) (s := .sh t) (by show (S.lo.set i _)[i]? = _; rw [List.getElem?_set_self hi])
    subst h2
    exact ⟨w, h1, q H F' s w (A'.pushSh r)⟩
  · exact q.elim
theorem Abs.release {g : Ga} {H0 : Bs} {F H : Hp} {S : PS0} {ρ : List (Option V)} {t : T} {i : Nat} (A : Abs g H0 F S ρ H) (h : S.sl[i]? = some (.ow t)) : ∃ o, ρ[i]? = some o ∧ Abs g H0 F ((S.put i .no).push (.ow t)) (ρ ++ [o]) H := by
  have hi : i < S.sl.length := (List.getElem?_eq_some_iff.mp h).1
  have hr : i < ρ.length := A.len ▸ hi
  have e0 : ρ[i]? = some ρ[i] := List.getElem?_eq_getElem hr
  refine ⟨ρ[i], e0, A.fh, A.fn, A.nib, A.keep, A.fre, A.ext, by simp [PS0.put, PS0.push, A.len], fun j s q h1 h2 => ?_, fun j k t1 t2 b h1 h2 h3 h4 => ?_⟩
  · rcases getE_snoc h1 with ⟨l1, e1⟩ | ⟨l1, e1⟩
    · have l2 : j < ρ.length := by simp [PS0.put] at l1; rw [← A.len]; exact l1
      rw [getE_snoc_lt l2] at h2
      by_cases hj : i = j
      · subst hj
        rw [show (S.put i .no).sl = S.sl.set i .no from rfl, List.getElem?_set_self hi] at e1
        cases e1
        trivial
      · rw [show (S.put i .no).sl = S.sl.set i .no from rfl, List.getElem?_set_ne hj] at e1
        exact A.sl j s q e1 h2
    · subst e1
      subst l1
      rw [show (S.put i Slot.no).sl.length = ρ.length by simp [PS0.put, A.len], getE_snoc_last] at h2
      cases h2
      exact A.sl i _ _ h e0
  · have back : ∀ (j : Nat) (t1 : T), ((S.put i .no).push (.ow t)).sl[j]? = some (.ow t1) → (ρ ++ [ρ[i]])[j]? = some (some (.ref b)) →
        ∃ (j' : Nat) (t' : T), S.sl[j']? = some (.ow t') ∧ ρ[j']? = some (some (.ref b)) ∧ (j = if j' = i then S.sl.length else j') := fun j t1 h1 h3 => by
      rcases getE_snoc h1 with ⟨l1, e1⟩ | ⟨l1, e1⟩
      · have l2 : j < ρ.length := by simp [PS0.put] at l1; rw [← A.len]; exact l1
        rw [getE_snoc_lt l2] at h3
        by_cases hj : i = j
        · subst hj
          rw [show (S.put i .no).sl = S.sl.set i .no from rfl, List.getElem?_set_self hi] at e1
          cases e1
        · rw [show (S.put i .no).sl = S.sl.set i .no from rfl, List.getElem?_set_ne hj] at e1
          exact ⟨j, t1, e1, h3, by rw [if_neg (Ne.symm hj)]⟩
      · subst l1
        rw [show (S.put i Slot.no).sl.length = ρ.length by simp [PS0.put, A.len], getE_snoc_last] at h3
        exact ⟨i, t, h, e0.trans h3, by simp [PS0.put]⟩
    obtain ⟨j', _, p1, p2, p3⟩ := back j t1 h1 h3
    obtain ⟨k', _, q1, q2, q3⟩ := back k t2 h2 h4
    have := A.ds j' k' _ _ b p1 q1 p2 q2
    rw [p3, q3, this]
theorem de_varR {i : Nat} {x : Str} (h : PE X (.Name x pos) (tVar i)) : PE X (.Name x pos) (rdE c (varR i)) := by
  refine PE.imp h fun σ H Q q => ?_
  obtain ⟨τ, F, S, A, q⟩ := q
  unfold varR at q
  split at q
  · rename_i t e
    obtain ⟨o, h1, w, h2, r⟩ := A.slot e
    subst h2
    exact ⟨w, h1, q H F (Same.refl F) w (A.pushSh r)⟩
  · rename_i t e
    obtain ⟨o, h1, w, h2, r⟩ := A.slot e
    subst h2
    have hi : i < S.lo.length := (List.getElem?_eq_some_iff.mp e).1
    obtain ⟨o, h3, A'⟩ := A.a.release (i := i) (t := t) (by show (S.lo ++ S.gh)[i]? = _; rw [List.getElem?_append_left hi]; exact e)
    rw [List.getElem?_append_left (A.l ▸ hi), h1] at h3
    cases h3
    exact ⟨_, h1, q H F (Same.refl F) _ (.mk' (by rw [Sta.z_put hi]; exact A') (by simp [Sta.put, A.l]))⟩
  · exact q.elim
theorem de_con {v : V} {t : T} (h : PE X e (tC v)) (r : ∀ F, Rep c.g F v t) : PE X e (rdE c (con t)) := by
  refine PE.imp h fun σ H Q q => ?_
  obtain ⟨τ, F, S, A, q⟩ := q
  exact q H F (Same.refl F) v (A.pushSh (r F))
theorem do_of {f : EF} (h : PE X e (rdE c f)) : PE X e (rdO c (opE f)) := by
  refine PE.imp h fun σ H Q q => ?_
  obtain ⟨τ, F, S, A, q⟩ := q
  refine ⟨τ, F, S, A, rOut.bind q fun x S1 F1 H1 s1 q1 v A1 => ?_⟩
  split at q1
  · rename_i t e
    obtain ⟨F2, s2, A2⟩ := A1.shTop e
    exact q1 H1 F2 s2 v A2.pop A2.topSh
  · exact q1.elim

/-! ### argument lists -/
def nilA : AF := fun S => .ok [] S
def consA (f : OF) (r : AF) : AF := fun S => (f S).bind fun o S1 => (r S1).bind fun os S2 => .ok (o :: os) S2
theorem da_nil : PA X [] (rdA c nilA) := by
  refine PA.imp pa_nil fun σ H Q q => ?_
  obtain ⟨τ, F, S, A, q⟩ := q
  exact q H F (Same.refl F) [] A .nil
theorem da_cons {f : OF} {r : AF} (h : PE X e (rdO c f)) (hr : PA X es (rdA c r)) (hs : starEach (e :: es) X.env = (false, eval e X.env) :: starEach es X.env := by rfl) : PA X (e :: es) (rdA c (consA f r)) := by
  refine PA.imp (pa_cons h hr hs) fun σ H Q q => ?_
  obtain ⟨τ, F, S, A, q⟩ := q
  refine ⟨τ, F, S, A, rOut.bind q fun o S1 F1 H1 s1 q1 v A1 r1 => ⟨τ, F1, S1, A1, rOut.bind q1 fun os S2 F2 H2 s2 q2 vs A2 r2 => ?_⟩⟩
  exact q2 H2 F2 (Same.refl F2) (v :: vs) A2 (.cons (r1.mono s2) r2)

/-! ### operators -/
def Op2 (c : Cfg) (r : R2) (p : T → T → Option Slot) : Prop := ∀ (F : Hp) (S : Sta) (σ τ : List (Option V)) (H : Hp) (x y : V) (t u : T) (z : Slot) (Q : VK), AbsX c F S σ τ H → PRep c.g F H x t → PRep c.g F H y u → p t u = some z →
  (∀ v H' F', Same F F' → AbsX c F' (S.push z) σ (τ ++ [some v]) H' → Q v H') → r x y H Q
def Op1 (c : Cfg) (r : V → Hp → VK → Prop) (p : T → Option Slot) : Prop := ∀ (F : Hp) (S : Sta) (σ τ : List (Option V)) (H : Hp) (x : V) (t : T) (z : Slot) (Q : VK), AbsX c F S σ τ H → PRep c.g F H x t → p t = some z →
  (∀ v H' F', Same F F' → AbsX c F' (S.push z) σ (τ ++ [some v]) H' → Q v H') → r x H Q
def OpN (c : Cfg) (r : List V → Hp → VK → Prop) (p : List T → Option Slot) : Prop := ∀ (F : Hp) (S : Sta) (σ τ : List (Option V)) (H : Hp) (xs : List V) (ts : List T) (z : Slot) (Q : VK), AbsX c F S σ τ H → PRepAll c.g F H xs ts → p ts = some z →
  (∀ v H' F', Same F F' → AbsX c F' (S.push z) σ (τ ++ [some v]) H' → Q v H') → r xs H Q
def res (z : Option Slot) (S : Sta) : R Slot := match z with
  | some z => .ok z S
  | none => .stuck
def op2 (p : T → T → Option Slot) (a b : OF) : EF := fun S => (a S).bind fun o S1 => (b S1).bind fun o' S2 => match o.get S2, o'.get S2 with
  | some t, some u => res (p t u) S2
  | _, _ => .stuck
def op1 (p : T → Option Slot) (a : OF) : EF := fun S => (a S).bind fun o S1 => match o.get S1 with
  | some t => res (p t) S1
  | _ => .stuck
def opN (p : List T → Option Slot) (a : AF) : EF := fun S => (a S).bind fun os S1 => match gets S1 os with
  | some ts => res (p ts) S1
  | _ => .stuck
theorem op2_out {r : R2} {p : T → T → Option Slot} {fa fb : OF} (hp : Op2 c r p) {σ : List (Option V)} {H : Hp} {Q : VK} (h : rdE c (op2 p fa fb) σ H Q) : tOp r (rdO c fa) (rdO c fb) σ H Q := by
  obtain ⟨τ, F, S, A, q⟩ := h
  refine ⟨τ, F, S, A, rOut.bind q fun o S1 F1 H1 s1 q1 v A1 r1 => ⟨τ, F1, S1, A1, rOut.bind q1 fun o2 S2 F2 H2 s2 q2 w A2 r2 => ?_⟩⟩
  cases e1 : o.get S2 with
  | none => simp only [e1] at q2; exact q2.elim
  | some t =>
    cases e2 : o2.get S2 with
    | none => simp only [e1, e2] at q2; exact q2.elim
    | some u =>
      simp only [e1, e2] at q2
      unfold res at q2
      split at q2
      · rename_i z hz
        exact hp F2 S2 σ τ H2 v w t u z Q A2 (A2.opd (r1.mono s2) e1) (A2.opd r2 e2) hz fun v' H' F' s' A' => q2 H' F' s' v' A'
      · exact q2.elim
theorem op1_out {r : V → Hp → VK → Prop} {p : T → Option Slot} {fa : OF} (hp : Op1 c r p) {σ : List (Option V)} {H : Hp} {Q : VK} (h : rdE c (op1 p fa) σ H Q) : rdO c fa σ H fun x H1 => r x H1 Q := by
  obtain ⟨τ, F, S, A, q⟩ := h
  refine ⟨τ, F, S, A, rOut.bind q fun o S1 F1 H1 s1 q1 v A1 r1 => ?_⟩
  cases e1 : o.get S1 with
  | none => simp only [e1] at q1; exact q1.elim
  | some t =>
    simp only [e1] at q1
    unfold res at q1
    split at q1
    · rename_i z hz
      exact hp F1 S1 σ τ H1 v t z Q A1 (A1.opd r1 e1) hz fun v' H' F' s' A' => q1 H' F' s' v' A'
    · exact q1.elim
theorem opN_out {r : List V → Hp → VK → Prop} {p : List T → Option Slot} {fa : AF} (hp : OpN c r p) {σ : List (Option V)} {H : Hp} {Q : VK} (h : rdE c (opN p fa) σ H Q) : rdA c fa σ H fun x H1 => r x H1 Q := by
  obtain ⟨τ, F, S, A, q⟩ := h
  refine ⟨τ, F, S, A, rOut.bind q fun o S1 F1 H1 s1 q1 v A1 r1 => ?_⟩
  cases e1 : gets S1 o with
  | none => simp only [e1] at q1; exact q1.elim
  | some t =>
    simp only [e1] at q1
    unfold res at q1
    split at q1
    · rename_i z hz
      exact hp F1 S1 σ τ H1 v t z Q A1 (A1.opds r1 e1) hz fun v' H' F' s' A' => q1 H' F' s' v' A'
    · exact q1.elim
theorem de_bin {op : Operator} {r : R2} {p : T → T → Option Slot} {fa fb : OF} (ho : OpR X (binaryOp op) r) (hp : Op2 c r p) (ha : PE X a (rdO c fa)) (hb : PE X b (rdO c fb)) : PE X (.BinOp a op b pos) (rdE c (op2 p fa fb)) :=
  PE.imp (pe_op ho ha hb) fun _ _ _ q => op2_out hp q
theorem de_un {op : UnaryOp} {r : V → Hp → VK → Prop} {p : T → Option Slot} {fa : OF} (ho : UnR X (unaryOp op) r) (hp : Op1 c r p) (ha : PE X a (rdO c fa)) : PE X (.UnaryOp op a pos) (rdE c (op1 p fa)) :=
  PE.imp (pe_un ho ha) fun _ _ _ q => op1_out hp q
theorem de_cmp {op : CmpOp} {r : R2} {p : T → T → Option Slot} {fa fb : OF} (ho : OpR X (compareOp op) r) (hp : Op2 c r p) (ha : PE X a (rdO c fa)) (hb : PE X b (rdO c fb)) (hm : behindInMarks op b = false) : PE X (.Compare a [op] [b] pos) (rdE c (op2 p fa fb)) :=
  PE.imp (pe_cmpR ho ha hb hm) fun _ _ _ q => op2_out hp q
/-- a value as a test -/
def tst (f : EF) : TF := fun S => (f S).bind fun x S1 => match x with
  | .sh (.bl b) => .ok b S1
  | _ => .stuck
theorem tst_out {f : EF} {σ : List (Option V)} {H : Hp} {Q : Bool → Hp → Prop} (h : rdT c (tst f) σ H Q) : rdE c f σ H fun x H1 => ∃ k, x = .bl k ∧ Q k H1 := by
  obtain ⟨τ, F, S, A, q⟩ := h
  refine ⟨τ, F, S, A, rOut.bind q fun x S1 F1 H1 s1 q1 v A1 => ?_⟩
  split at q1
  · have r := A1.topSh
    cases r
    exact ⟨_, rfl, q1 H1 F1 (Same.refl F1) A1.pop⟩
  · exact q1.elim
theorem dt_cmp {op : CmpOp} {r : R2} {p : T → T → Option Slot} {fa fb : OF} (ho : OpR X (compareOp op) r) (hp : Op2 c r p) (ha : PE X a (rdO c fa)) (hb : PE X b (rdO c fb)) (hm : behindInMarks op b = false) : PT X (.Compare a [op] [b] pos) (rdT c (tst (op2 p fa fb))) :=
  PT.imp (pt_cmpR ho ha hb hm) fun _ _ _ q => op2_out hp (tst_out q)
theorem dt_val {f : EF} (h : PE X e (rdE c f)) (he : ∀ whole, isTrue e X.env whole = (do let v ← whole; standAt e.pos; holding [v] (truthy v)) := by intro _; rfl) : PT X e (rdT c (tst f)) :=
  PT.imp (pt_val h he) fun _ _ _ q => tst_out q
/-- a op b op' c -/
def chn (p p' : T → T → Option Slot) (fa fb fc : OF) : EF := fun S => (fa S).bind fun o S1 => (fb S1).bind fun o' S2 => match o.get S2, o'.get S2 with
  | some t, some u => match p t u with
    | some (.sh (.bl true)) => (fc S2).bind fun o'' S3 => match o'.get S3, o''.get S3 with
      | some u, some w => res (p' u w) S3
      | _, _ => .stuck
    | some (.sh (.bl false)) => .ok (.sh (.bl false)) S2
    | _ => .stuck
  | _, _ => .stuck
theorem chn_out {r r' : R2} {p p' : T → T → Option Slot} {fa fb fc : OF} (hp : Op2 c r p) (hp' : Op2 c r' p') {σ : List (Option V)} {H : Hp} {Q : VK} (h : rdE c (chn p p' fa fb fc) σ H Q) : tChain r r' (rdO c fa) (rdO c fb) (rdO c fc) σ H Q := by
  obtain ⟨τ, F, S, A, q⟩ := h
  refine ⟨τ, F, S, A, rOut.bind q fun o S1 F1 H1 s1 q1 v A1 r1 => ⟨τ, F1, S1, A1, rOut.bind q1 fun o2 S2 F2 H2 s2 q2 w A2 r2 => ?_⟩⟩
  cases e1 : o.get S2 with
  | none => simp only [e1] at q2; exact q2.elim
  | some t =>
    cases e2 : o2.get S2 with
    | none => simp only [e1, e2] at q2; exact q2.elim
    | some u =>
      simp only [e1, e2] at q2
      split at q2
      · rename_i hz
        refine hp F2 S2 σ τ H2 v w t u _ _ A2 (A2.opd (r1.mono s2) e1) (A2.opd r2 e2) hz fun v' H' F' s' A' => ?_
        have rr := A'.topSh
        cases rr
        refine ⟨true, rfl, ?_⟩
        rw [if_pos rfl]
        refine ⟨τ, F', S2, A'.pop, rOut.bind (q2.mono s') fun o3 S3 F3 H3 s3 q3 y A3 r3 => ?_⟩
        cases e3 : o2.get S3 with
        | none => simp only [e3] at q3; exact q3.elim
        | some u' =>
          cases e4 : o3.get S3 with
          | none => simp only [e3, e4] at q3; exact q3.elim
          | some w' =>
            simp only [e3, e4] at q3
            unfold res at q3
            split at q3
            · rename_i z hz
              exact hp' F3 S3 σ τ H3 w y u' w' z Q A3 (A3.opd ((r2.mono s').mono s3) e3) (A3.opd r3 e4) hz fun v' H' F' s' A' => q3 H' F' s' v' A'
            · exact q3.elim
      · rename_i hz
        refine hp F2 S2 σ τ H2 v w t u _ _ A2 (A2.opd (r1.mono s2) e1) (A2.opd r2 e2) hz fun v' H' F' s' A' => ?_
        have rr := A'.topSh
        cases rr
        exact ⟨false, rfl, by rw [if_neg Bool.false_ne_true]; exact q2 H' F' s' _ A'⟩
      · exact q2.elim
variable {b' : Expr}
theorem de_chn {op op' : CmpOp} {r r' : R2} {p p' : T → T → Option Slot} {fa fb fc : OF} {d : Expr} (ho : OpR X (compareOp op) r) (ho' : OpR X (compareOp op') r') (hp : Op2 c r p) (hp' : Op2 c r' p') (ha : PE X a (rdO c fa)) (hb : PE X b (rdO c fb)) (hc : PE X d (rdO c fc))
    (hm : lastMarks [op, op'] [b, d] = false := by with_unfolding_all rfl) : PE X (.Compare a [op, op'] [b, d] pos) (rdE c (chn p p' fa fb fc)) :=
  PE.imp (pe_chain ho ho' ha hb hc hm) fun _ _ _ q => chn_out hp hp' q
theorem dt_chn {op op' : CmpOp} {r r' : R2} {p p' : T → T → Option Slot} {fa fb fc : OF} {d : Expr} (ho : OpR X (compareOp op) r) (ho' : OpR X (compareOp op') r') (hp : Op2 c r p) (hp' : Op2 c r' p') (ha : PE X a (rdO c fa)) (hb : PE X b (rdO c fb)) (hc : PE X d (rdO c fc))
    (hm : lastMarks [op, op'] [b, d] = false := by with_unfolding_all rfl) : PT X (.Compare a [op, op'] [b, d] pos) (rdT c (tst (chn p p' fa fb fc))) :=
  PT.imp (pt_chain ho ho' ha hb hc hm) fun _ _ _ q => chn_out hp hp' (tst_out q)

/-! ### and, or, not, if -/
def andT (a b : TF) : TF := fun S => (a S).bind fun k S1 => if k = true then b S1 else .ok false S1
def orT (a b : TF) : TF := fun S => (a S).bind fun k S1 => if k = true then .ok true S1 else b S1
def notT (a : TF) : TF := fun S => (a S).bind fun k S1 => .ok (!k) S1
def bV (a : TF) : EF := fun S => (a S).bind fun k S1 => .ok (.sh (.bl k)) S1
def andE (a b : EF) : EF := fun S => (a S).bind fun x S1 => match x with
  | .sh (.bl true) => b S1
  | .sh (.bl false) => .ok (.sh (.bl false)) S1
  | _ => .stuck
def orE (a b : EF) : EF := fun S => (a S).bind fun x S1 => match x with
  | .sh (.bl false) => b S1
  | .sh (.bl true) => .ok (.sh (.bl true)) S1
  | _ => .stuck
def notE (a : EF) : EF := fun S => (a S).bind fun x S1 => match x with
  | .sh (.bl k) => .ok (.sh (.bl (!k))) S1
  | _ => .stuck
def ite3 (t : TF) (a b : EF) : EF := fun S => (t S).bind fun k S1 => if k = true then a S1 else b S1
variable {rest : List Expr}
theorem dw_and1 {fa : TF} (ha : PT X a (rdT c fa)) : PW X (.BoolOp .And [a] pos) (rdT c fa) := pw_and1 ha
theorem dw_or1 {fa : TF} (ha : PT X a (rdT c fa)) : PW X (.BoolOp .Or [a] pos) (rdT c fa) := pw_or1 ha
theorem dw_and {fa fb : TF} (ha : PT X a (rdT c fa)) (hb : PW X (.BoolOp .And (b :: rest) pos) (rdT c fb)) : PW X (.BoolOp .And (a :: b :: rest) pos) (rdT c (andT fa fb)) := by
  refine PW.imp (pw_and ha hb) fun σ H Q q => ?_
  obtain ⟨τ, F, S, A, q⟩ := q
  refine ⟨τ, F, S, A, rOut.bind q fun k S1 F1 H1 s1 q1 A1 => ?_⟩
  cases k with
  | true => exact ⟨τ, F1, S1, A1, q1⟩
  | false => exact q1 H1 F1 (Same.refl F1) A1
theorem dw_or {fa fb : TF} (ha : PT X a (rdT c fa)) (hb : PW X (.BoolOp .Or (b :: rest) pos) (rdT c fb)) : PW X (.BoolOp .Or (a :: b :: rest) pos) (rdT c (orT fa fb)) := by
  refine PW.imp (pw_or ha hb) fun σ H Q q => ?_
  obtain ⟨τ, F, S, A, q⟩ := q
  refine ⟨τ, F, S, A, rOut.bind q fun k S1 F1 H1 s1 q1 A1 => ?_⟩
  cases k with
  | false => exact ⟨τ, F1, S1, A1, q1⟩
  | true => exact q1 H1 F1 (Same.refl F1) A1
theorem dt_not {fa : TF} (ha : PT X a (rdT c fa)) : PT X (.UnaryOp .Not a pos) (rdT c (notT fa)) := by
  refine PT.imp (pt_not ha) fun σ H Q q => ?_
  obtain ⟨τ, F, S, A, q⟩ := q
  exact ⟨τ, F, S, A, rOut.bind q fun k S1 F1 H1 s1 q1 A1 => q1 H1 F1 (Same.refl F1) A1⟩
theorem de_one {op : BoolOp} {fa : EF} (ha : PE X a (rdE c fa)) : PE X (.BoolOp op [a] pos) (rdE c fa) := pe_one ha
theorem de_and {fa fb : EF} (ha : PE X a (rdE c fa)) (hb : PE X (.BoolOp .And (b :: rest) pos) (rdE c fb)) : PE X (.BoolOp .And (a :: b :: rest) pos) (rdE c (andE fa fb)) := by
  refine PE.imp (pe_and ha hb) fun σ H Q q => ?_
  obtain ⟨τ, F, S, A, q⟩ := q
  refine ⟨τ, F, S, A, rOut.bind q fun x S1 F1 H1 s1 q1 v A1 => ?_⟩
  split at q1
  · have r := A1.topSh
    cases r
    exact ⟨true, rfl, by rw [if_pos rfl]; exact ⟨τ, F1, S1, A1.pop, q1⟩⟩
  · have r := A1.topSh
    cases r
    exact ⟨false, rfl, by rw [if_neg Bool.false_ne_true]; exact q1 H1 F1 (Same.refl F1) _ A1⟩
  · exact q1.elim
theorem de_or {fa fb : EF} (ha : PE X a (rdE c fa)) (hb : PE X (.BoolOp .Or (b :: rest) pos) (rdE c fb)) : PE X (.BoolOp .Or (a :: b :: rest) pos) (rdE c (orE fa fb)) := by
  refine PE.imp (pe_or ha hb) fun σ H Q q => ?_
  obtain ⟨τ, F, S, A, q⟩ := q
  refine ⟨τ, F, S, A, rOut.bind q fun x S1 F1 H1 s1 q1 v A1 => ?_⟩
  split at q1
  · have r := A1.topSh
    cases r
    exact ⟨false, rfl, by rw [if_neg Bool.false_ne_true]; exact ⟨τ, F1, S1, A1.pop, q1⟩⟩
  · have r := A1.topSh
    cases r
    exact ⟨true, rfl, by rw [if_pos rfl]; exact q1 H1 F1 (Same.refl F1) _ A1⟩
  · exact q1.elim
theorem de_not {fa : EF} (ha : PE X a (rdE c fa)) : PE X (.UnaryOp .Not a pos) (rdE c (notE fa)) := by
  refine PE.imp (pe_not ha) fun σ H Q q => ?_
  obtain ⟨τ, F, S, A, q⟩ := q
  refine ⟨τ, F, S, A, rOut.bind q fun x S1 F1 H1 s1 q1 v A1 => ?_⟩
  split at q1
  · have r := A1.topSh
    cases r
    exact ⟨_, rfl, q1 H1 F1 (Same.refl F1) _ (A1.pop.pushSh (.bl _))⟩
  · exact q1.elim
theorem de_if {d : Expr} {ft : TF} {fa fb : EF} (hc : PT X d (rdT c ft)) (ha : PE X a (rdE c fa)) (hb : PE X b (rdE c fb)) : PE X (.IfExp d a b pos) (rdE c (ite3 ft fa fb)) := by
  refine PE.imp (pe_ifExp hc ha hb) fun σ H Q q => ?_
  obtain ⟨τ, F, S, A, q⟩ := q
  refine ⟨τ, F, S, A, rOut.bind q fun k S1 F1 H1 s1 q1 A1 => ?_⟩
  cases k with
  | true => exact ⟨τ, F1, S1, A1, q1⟩
  | false => exact ⟨τ, F1, S1, A1, q1⟩

/-! ### displays -/
def vals : List Opd → Option (List T)
  | [] => some []
  | .val t :: os => (vals os).map (t :: ·)
  | .pl _ :: _ => none
theorem OpdAll.vals {F : Hp} {σ : List (Option V)} : ∀ {os : List Opd} {vs : List V} {ts : List T}, OpdAll c.g F σ os vs → TL.vals os = some ts → RepAll c.g F vs ts
  | _, _, _, .nil, e => by cases e; exact .nil
  | .val t :: os, _, _, .cons a b, e => by
    cases q : TL.vals os with
    | none => simp [TL.vals, q] at e
    | some us =>
      simp [TL.vals, q] at e
      subst e
      exact .cons a (OpdAll.vals b q)
  | .pl _ :: _, _, _, .cons a b, e => by cases e
def lstF (a : AF) : EF := fun S => (a S).bind fun os S1 => match vals os with
  | some ts => if ts.length ≤ sz then .ok (.ow (.lst ts)) S1 else .stuck
  | none => .stuck
def tupF (a : AF) : EF := fun S => (a S).bind fun os S1 => match vals os with
  | some ts => if ts.length ≤ sz then .ok (.sh (.tup ts)) S1 else .stuck
  | none => .stuck
theorem de_lst {f : AF} (h : PA X es (rdA c f)) : PE X (.List es pos) (rdE c (lstF f)) := by
  refine PE.imp (pe_lst h) fun σ H Q q => ?_
  obtain ⟨τ, F, S, A, q⟩ := q
  refine ⟨τ, F, S, A, rOut.bind q fun os S1 F1 H1 s1 q1 vs A1 r1 => ?_⟩
  split at q1
  · rename_i ts e
    split at q1
    · rename_i hl
      have r := r1.vals e
      refine ⟨by rw [r.length, ← sz_eq]; exact hl, fun p np => q1 _ F1 (Same.refl F1) _ (A1.newOw (.lst r) np)⟩
    · exact q1.elim
  · exact q1.elim
theorem de_tup {x1 : Nat} {f : AF} (h : PA X es (rdA c f)) : PE X (.Tuple es x1 pos) (rdE c (tupF f)) := by
  refine PE.imp (pe_tupF h) fun σ H Q q => ?_
  obtain ⟨τ, F, S, A, q⟩ := q
  refine ⟨τ, F, S, A, rOut.bind q fun os S1 F1 H1 s1 q1 vs A1 r1 => ?_⟩
  split at q1
  · rename_i ts e
    split at q1
    · rename_i hl
      have r := r1.vals e
      refine ⟨by rw [r.length, ← sz_eq]; exact hl, fun p o np hd => ?_⟩
      obtain ⟨F2, s2, A2⟩ := A1.newTup r np hd
      exact q1 _ F2 s2 _ A2
    · exact q1.elim
  · exact q1.elim

/-! ### subscripts, slices -/
theorem de_ix {r : R2} {p : T → T → Option Slot} {fa fb : OF} (hr : IxR X r) (hp : Op2 c r p) (ha : PE X a (rdO c fa)) (hb : PE X b (rdO c fb)) (hs : PlainIx b) : PE X (.Subscript a b pos) (rdE c (op2 p fa fb)) :=
  PE.imp (pe_ix hr ha hb hs) fun _ _ _ q => op2_out hp q
abbrev BF := Sta → R (Option Int)
def noB : BF := fun S => .ok none S
def someB (f : OF) : BF := fun S => (f S).bind fun o S1 => match o with
  | .val (.int i) => .ok (some i) S1
  | _ => .stuck
def bP (c : Cfg) (σ τ : List (Option V)) (Q : Option Int → Hp → Prop) : Option Int → Sta → Hp → Hp → Prop := fun b S F' H' => AbsX c F' S σ τ H' → Q b H'
def rdB (c : Cfg) (f : BF) : TO := fun σ H Q => ∃ τ F S, AbsX c F S σ τ H ∧ rOut c F σ τ (bP c σ τ Q) (f S)
theorem PO.imp {X : Cx} {e : Option Expr} {t t' : TO} (h : PO X e t) (w : ∀ σ H Q, t' σ H Q → t σ H Q) : PO X e t' := ⟨fun pins s σ H Q I q => h.run pins s σ H Q I (w σ H Q q)⟩
theorem db_none : PO X none (rdB c noB) := by
  refine PO.imp po_none fun σ H Q q => ?_
  obtain ⟨τ, F, S, A, q⟩ := q
  exact q H F (Same.refl F) A
theorem db_some {f : OF} (h : PE X e (rdO c f)) : PO X (some e) (rdB c (someB f)) := by
  refine PO.imp (po_some h) fun σ H Q q => ?_
  obtain ⟨τ, F, S, A, q⟩ := q
  refine ⟨τ, F, S, A, rOut.bind q fun o S1 F1 H1 s1 q1 v A1 r1 => ?_⟩
  split at q1
  · cases r1
    exact ⟨_, rfl, q1 H1 F1 (Same.refl F1) A1⟩
  · exact q1.elim
def slF (p : T → Option Int → Option Int → Option Slot) (fa : OF) (lo hi : BF) : EF := fun S => (fa S).bind fun o S1 => (lo S1).bind fun l S2 => (hi S2).bind fun u S3 => match o.get S3 with
  | some t => res (p t l u) S3
  | none => .stuck
def OpS (c : Cfg) (r : V → Option Int → Option Int → Hp → VK → Prop) (p : T → Option Int → Option Int → Option Slot) : Prop := ∀ (F : Hp) (S : Sta) (σ τ : List (Option V)) (H : Hp) (x : V) (l u : Option Int) (t : T) (z : Slot) (Q : VK), AbsX c F S σ τ H → PRep c.g F H x t → p t l u = some z →
  (∀ v H' F', Same F F' → AbsX c F' (S.push z) σ (τ ++ [some v]) H' → Q v H') → r x l u H Q
theorem de_sl {r : V → Option Int → Option Int → Hp → VK → Prop} {p : T → Option Int → Option Int → Option Slot} {fa : OF} {fl fh : BF} {lo hi : Option Expr} {p2 : Pos} (hr : SlR X r) (hp : OpS c r p) (ha : PE X a (rdO c fa)) (hl : PO X lo (rdB c fl)) (hh : PO X hi (rdB c fh)) :
    PE X (.Subscript a (.Slice lo hi none p2) pos) (rdE c (slF p fa fl fh)) := by
  refine PE.imp (pe_slice hr ha hl hh) fun σ H Q q => ?_
  obtain ⟨τ, F, S, A, q⟩ := q
  refine ⟨τ, F, S, A, rOut.bind q fun o S1 F1 H1 s1 q1 v A1 r1 => ⟨τ, F1, S1, A1, rOut.bind q1 fun l S2 F2 H2 s2 q2 A2 => ⟨τ, F2, S2, A2, rOut.bind q2 fun u S3 F3 H3 s3 q3 A3 => ?_⟩⟩⟩
  split at q3
  · rename_i t e
    unfold res at q3
    split at q3
    · rename_i z hz
      exact hp F3 S3 σ τ H3 v l u t z Q A3 (A3.opd ((r1.mono s2).mono s3) e) hz fun v' H' F' s' A' => q3 H' F' s' v' A'
    · exact q3.elim
  · exact q3.elim
end
end TL

end
section
set_option Elab.async false
set_option linter.all false
set_option maxRecDepth 100000
set_option autoImplicit false
/-! TL4: what the operators and the built-in functions answer -/
open PySem PySem.Spec PyProof.Rows L2
namespace TL
section
variable {g : Ga} {F H : Hp} {v : V}
theorem PRep.int {i : Int} (h : PRep g F H v (.int i)) : v = .int i := by
  rcases h with h | ⟨a, u, _, _, h⟩
  · cases h; rfl
  · cases h
theorem PRep.bl {i : Bool} (h : PRep g F H v (.bl i)) : v = .bl i := by
  rcases h with h | ⟨a, u, _, _, h⟩
  · cases h; rfl
  · cases h
theorem PRep.str {i : Str} (h : PRep g F H v (.str i)) : v = .str i := by
  rcases h with h | ⟨a, u, _, _, h⟩
  · cases h; rfl
  · cases h
theorem PRep.non (h : PRep g F H v .non) : v = .non := by
  rcases h with h | ⟨a, u, _, _, h⟩
  · cases h; rfl
  · cases h
theorem PRep.lst {ts : List T} (s : Same F H) (h : PRep g F H v (.lst ts)) : ∃ a vs, v = .ref a ∧ H a = some (.lst vs) ∧ RepAll g F vs ts := by
  rcases h with h | ⟨a, u, e, hu, h⟩
  · cases h with
    | lst e r => exact ⟨_, _, rfl, s _ _ e, r⟩
  · cases h with
    | lst r => exact ⟨a, _, e, hu, r⟩
theorem PRep.tup {ts : List T} (s : Same F H) (h : PRep g F H v (.tup ts)) : ∃ a vs, v = .ref a ∧ SqT g.K H a vs ∧ RepAll g F vs ts := by
  rcases h with h | ⟨a, u, e, hu, h⟩
  · cases h with
    | tup e r => exact ⟨_, _, rfl, sameSqT s e.sq, r⟩
  · cases h
theorem PRep.dic {ts : List (T × T)} (s : Same F H) (h : PRep g F H v (.dic ts)) : ∃ a vs, v = .ref a ∧ H a = some (.dK vs) ∧ RepKV g F vs ts := by
  rcases h with h | ⟨a, u, e, hu, h⟩
  · cases h with
    | dic e r => exact ⟨_, _, rfl, s _ _ e, r⟩
  · cases h with
    | dic r => exact ⟨a, _, e, hu, r⟩
end

/-! ### arithmetic -/
def addT : T → T → Option Slot
  | .int i, .int j => some (.sh (.int (i + j)))
  | .str a, .str b => if a.length + b.length ≤ sz then some (.sh (.str (a ++ b))) else none
  | .lst a, .lst b => if a.length + b.length ≤ sz then some (.ow (.lst (a ++ b))) else none
  | .tup a, .tup b => if a.length + b.length ≤ sz then some (.sh (.tup (a ++ b))) else none
  | _, _ => none
def subT : T → T → Option Slot
  | .int i, .int j => some (.sh (.int (i - j)))
  | _, _ => none
def mulT : T → T → Option Slot
  | .int i, .int j => if i.natAbs.log2 + j.natAbs.log2 < 134000000 then some (.sh (.int (i * j))) else none
  | .lst a, .int k => if -(2 ^ 63) ≤ k ∧ k < 2 ^ 63 ∧ a.length * k.toNat ≤ sz then some (.ow (.lst (List.replicate k.toNat a).flatten)) else none
  | _, _ => none
def fdivT : T → T → Option Slot
  | .int i, .int j => if 0 < j ∧ j.natAbs.log2 < 9000 then some (.sh (.int (i / j))) else none
  | _, _ => none
def modT : T → T → Option Slot
  | .int i, .int j => if 0 < j then some (.sh (.int (i % j))) else none
  | _, _ => none
def powT : T → T → Option Slot
  | .int i, .int j => if 0 ≤ j ∧ j ≤ 1000000 ∧ i.natAbs < 2 ^ 64 then some (.sh (.int (i ^ j.toNat))) else none
  | _, _ => none
def negT : T → Option Slot
  | .int i => some (.sh (.int (-i)))
  | _ => none
section
variable {X : Cx} {c : Cfg}
theorem fin_sh {F : Hp} {S : Sta} {σ τ : List (Option V)} {H : Hp} {t : T} {v : V} {Q : VK} (A : AbsX c F S σ τ H) (k : ∀ v H' F', Same F F' → AbsX c F' (S.push (.sh t)) σ (τ ++ [some v]) H' → Q v H') (r : Rep c.g F v t) : Q v H :=
  k v H F (Same.refl F) (A.pushSh r)
theorem fin_ow {F : Hp} {S : Sta} {σ τ : List (Option V)} {H : Hp} {t : T} {Q : VK} {u : HO} {p : Addr} (A : AbsX c F S σ τ H) (k : ∀ v H' F', Same F F' → AbsX c F' (S.push (.ow t)) σ (τ ++ [some v]) H' → Q v H') (m : Mk c.g F u t) (np : H p = none) : Q (.ref p) (upd H p u) :=
  k _ _ F (Same.refl F) (A.newOw m np)
theorem fin_tup {F : Hp} {S : Sta} {σ τ : List (Option V)} {H : Hp} {ts : List T} {vs : List V} {Q : VK} {p : Addr} (A : AbsX c F S σ τ H) (k : ∀ v H' F', Same F F' → AbsX c F' (S.push (.sh (.tup ts))) σ (τ ++ [some v]) H' → Q v H') {o : Obj} (m : RepAll c.g F vs ts) (np : H p = none) (hd : o.dict = none) : Q (.ref p) (upd H p (.frz o (.tup vs))) := by
  obtain ⟨F', s, A'⟩ := A.newTup m np hd
  exact k _ _ F' s A'
/-- the same tuple, asked for anew -/
theorem fin_tupE {F : Hp} {S : Sta} {σ τ : List (Option V)} {H : Hp} {ts : List T} {v : V} {Q : VK} (A : AbsX c F S σ τ H) (k : ∀ v H' F', Same F F' → AbsX c F' (S.push (.sh (.tup ts))) σ (τ ++ [some v]) H' → Q v H') (m : PRep c.g F H v (.tup ts)) : Q v H := by
  rcases m with m | ⟨a, u, _, _, m⟩
  · exact fin_sh A k m
  · cases m

/-- () + t -/
theorem op_catT0 : OpR X (binaryOp .Add) (fun x y H Q => ∃ a b ys, x = .ref a ∧ y = .ref b ∧ SqT X.K H a [] ∧ SqT X.K H b ys ∧ Q (.ref b) H) := by
  intro pins s σ H x y v u Q I rx ry h
  obtain ⟨a, b, ys, rfl, rfl, ha, hb, q⟩ := h
  cases rx
  cases ry
  obtain ⟨its, r1, p1, _⟩ := I.tuple ha
  obtain ⟨its2, r2, p2, _⟩ := I.tuple hb
  cases r1
  obtain ⟨⟨cls, dd, data, sl⟩, ho, hc, n, hd⟩ := id p1
  obtain ⟨⟨cls2, dd2, data2, sl2⟩, ho2, hc2, n2, hd2⟩ := id p2
  simp only at hc hd hc2 hd2
  subst hc hd hc2 hd2
  exact concat_meets ⟨_, ho, rfl⟩ ⟨_, ho2, rfl⟩ noFill_tuple_add seq_tuple_add PySem.F.slot_tuple_add PySem.F.entry_tuple_add (PySem.F.args_tuple_add_2 _ _)
    (tuple_addW0 a b _ its2.toArray n n2 dd dd2 sl sl2 (by simp)) ⟨ho, ho2, .ref b, H, I, rfl, q⟩
def rAddA (K : PySem.W.Frag) : R2 := fun x y H Q => (rI0 fun i j => .int (i + j)) x y H Q ∨ (∃ i j, x = .str i ∧ y = .str j ∧ i.length + j.length ≤ sizeLine ∧ Q (.str (i ++ j)) H) ∨ rCat x y H Q ∨ rCatTF K x y H Q ∨ ∃ a b ys, x = .ref a ∧ y = .ref b ∧ SqT K H a [] ∧ SqT K H b ys ∧ Q (.ref b) H
theorem op_addA : OpR X (binaryOp .Add) (rAddA X.K) := .or op_add (.or op_add_str (.or op_cat (.or op_catTF op_catT0)))
theorem p_add (hK : c.g.K = X.K) : Op2 c (rAddA X.K) addT := by
  intro F S σ τ H x y t u z Q A hx hy hz k
  unfold addT at hz
  split at hz
  · cases hz
    rw [hx.int, hy.int]
    exact .inl ⟨_, _, rfl, rfl, fin_sh A k (.int _)⟩
  · split at hz
    · cases hz
      rename_i hl
      rw [hx.str, hy.str]
      exact .inr (.inl ⟨_, _, rfl, rfl, by rw [← sz_eq]; exact hl, fin_sh A k (.str _)⟩)
    · cases hz
  · split at hz
    · cases hz
      rename_i hl
      obtain ⟨a, vs, rfl, h1, r1⟩ := hx.lst A.a.fh
      obtain ⟨b, ws, rfl, h2, r2⟩ := hy.lst A.a.fh
      exact .inr (.inr (.inl ⟨a, b, vs, ws, rfl, rfl, h1, h2, by rw [r1.length, r2.length, ← sz_eq]; exact hl, fun p np => fin_ow A k (.lst (r1.append r2)) np⟩))
    · cases hz
  · rename_i a' b'
    split at hz
    · cases hz
      rename_i hl
      obtain ⟨a, vs, rfl, h1, r1⟩ := hx.tup A.a.fh
      have hy' := hy
      obtain ⟨b, ws, rfl, h2, r2⟩ := hy.tup A.a.fh
      rw [hK] at h1 h2
      by_cases hv : vs = []
      · subst hv
        cases r1
        exact .inr (.inr (.inr (.inr ⟨a, b, ws, rfl, rfl, h1, h2, fin_tupE A k (by simpa using hy')⟩)))
      · refine .inr (.inr (.inr (.inl ⟨a, b, vs, ws, rfl, rfl, h1, h2, hv, by rw [r1.length, r2.length, ← sz_eq]; exact hl, fun e => ?_, fun _ p o np hd => fin_tup A k (r1.append r2) np hd⟩)))
        subst e
        cases r2
        exact fin_tupE A k (by simpa using hx)
    · cases hz
  · cases hz
theorem p_sub : Op2 c (rI0 fun i j => .int (i - j)) subT := by
  intro F S σ τ H x y t u z Q A hx hy hz k
  unfold subT at hz
  split at hz
  · cases hz
    rw [hx.int, hy.int]
    exact ⟨_, _, rfl, rfl, fin_sh A k (.int _)⟩
  · cases hz
def CMulB (i j : Int) : Prop := i.natAbs.log2 + j.natAbs.log2 < 134000000
theorem CMulB.ok {i j : Int} (h : CMulB i j) : IntMulOk i j := by
  unfold CMulB at h
  refine IntMulOk.of_le (m := i.natAbs.log2 + 1) (n := j.natAbs.log2 + 1) ?_ ?_ (by omega)
  · unfold Builtin.Int.intBits; split <;> omega
  · unfold Builtin.Int.intBits; split <;> omega
theorem op_mulB : OpR X (binaryOp .Mult) (rI CMulB fun i j => .int (i * j)) := opI fun _ _ _ _ _ _ _ hc q => mul_int q hc.ok
def rMulA : R2 := fun x y H Q => (rI CMulB fun i j => .int (i * j)) x y H Q ∨ rRep x y H Q
theorem op_mulA : OpR X (binaryOp .Mult) rMulA := .or op_mulB op_rep
theorem RepAll.rep {g : Ga} {F : Hp} {vs : List V} {ts : List T} (r : RepAll g F vs ts) : ∀ n : Nat, RepAll g F (List.replicate n vs).flatten (List.replicate n ts).flatten
  | 0 => .nil
  | n + 1 => by
    rw [List.replicate_succ, List.replicate_succ, List.flatten_cons, List.flatten_cons]
    exact r.append (RepAll.rep r n)
theorem p_mul : Op2 c rMulA mulT := by
  intro F S σ τ H x y t u z Q A hx hy hz k
  unfold mulT at hz
  split at hz
  · split at hz
    · cases hz
      rename_i hl
      rw [hx.int, hy.int]
      exact .inl ⟨_, _, rfl, rfl, hl, fin_sh A k (.int _)⟩
    · cases hz
  · split at hz
    · cases hz
      rename_i hl
      obtain ⟨a, vs, rfl, h1, r1⟩ := hx.lst A.a.fh
      rw [hy.int]
      exact .inr ⟨a, _, vs, rfl, rfl, h1, hl.1, hl.2.1, by rw [r1.length, ← sz_eq]; exact hl.2.2, fun p np => fin_ow A k (.lst (r1.rep _)) np⟩
    · cases hz
  · cases hz
theorem p_fdiv : Op2 c (rI CDivW fun i j => .int (i / j)) fdivT := by
  intro F S σ τ H x y t u z Q A hx hy hz k
  unfold fdivT at hz
  split at hz
  · split at hz
    · cases hz
      rename_i hl
      rw [hx.int, hy.int]
      exact ⟨_, _, rfl, rfl, hl, fin_sh A k (.int _)⟩
    · cases hz
  · cases hz
theorem p_mod : Op2 c (rI (fun _ j => 0 < j) fun i j => .int (i % j)) modT := by
  intro F S σ τ H x y t u z Q A hx hy hz k
  unfold modT at hz
  split at hz
  · split at hz
    · cases hz
      rename_i hl
      rw [hx.int, hy.int]
      exact ⟨_, _, rfl, rfl, hl, fin_sh A k (.int _)⟩
    · cases hz
  · cases hz
theorem p_pow : Op2 c (rI CPow fun i j => .int (i ^ j.toNat)) powT := by
  intro F S σ τ H x y t u z Q A hx hy hz k
  unfold powT at hz
  split at hz
  · split at hz
    · cases hz
      rename_i hl
      rw [hx.int, hy.int]
      exact ⟨_, _, rfl, rfl, hl, fin_sh A k (.int _)⟩
    · cases hz
  · cases hz
theorem p_neg : Op1 c (rU fun i => .int (-i)) negT := by
  intro F S σ τ H x t z Q A hx hz k
  unfold negT at hz
  split at hz
  · cases hz
    rw [hx.int]
    exact ⟨_, rfl, fin_sh A k (.int _)⟩
  · cases hz

/-! ### comparisons of ints -/
def cmpT (f : Int → Int → Bool) : T → T → Option Slot
  | .int i, .int j => some (.sh (.bl (f i j)))
  | _, _ => none
abbrev ltT : T → T → Option Slot := cmpT fun i j => decide (i < j)
abbrev leT : T → T → Option Slot := cmpT fun i j => decide (i ≤ j)
abbrev gtT : T → T → Option Slot := cmpT fun i j => decide (j < i)
abbrev geT : T → T → Option Slot := cmpT fun i j => decide (j ≤ i)
theorem p_cmp (f : Int → Int → Bool) : Op2 c (rI0 fun i j => .bl (f i j)) (cmpT f) := by
  intro F S σ τ H x y t u z Q A hx hy hz k
  unfold cmpT at hz
  split at hz
  · cases hz
    rw [hx.int, hy.int]
    exact ⟨_, _, rfl, rfl, fin_sh A k (.bl _)⟩
  · cases hz

/-! ### equality of data -/
mutual
def T.d : T → PyData
  | .non => .none
  | .bl b => .bool b
  | .int i => .int i
  | .str x => .str x
  | .lst xs => .list (T.dAll xs)
  | .tup xs => .tuple (T.dAll xs)
  | .wtp _ => .none
  | .dic _ => .none
  | .obj _ _ => .none
  | .exo _ _ => .none
  | .fn _ => .none
  | .nib => .none
def T.dAll : List T → List PyData
  | [] => []
  | x :: xs => T.d x :: T.dAll xs
end
mutual
/-- plain data of at most this depth -/
def T.okT : T → Nat → Bool
  | .non, _ => true
  | .bl _, _ => true
  | .int _, _ => true
  | .str x, _ => PyData.strOk x
  | .lst xs, n => match n with
    | 0 => false
    | n + 1 => T.okTs xs n
  | .tup xs, n => match n with
    | 0 => false
    | n + 1 => T.okTs xs n
  | .wtp _, _ => false
  | .dic _, _ => false
  | .obj _ _, _ => false
  | .exo _ _, _ => false
  | .fn _, _ => false
  | .nib, _ => false
def T.okTs : List T → Nat → Bool
  | [], _ => true
  | x :: xs, n => T.okT x n && T.okTs xs n
end
def T.okD (n : Nat) (t : T) : Bool := T.okT t n
def T.okAll (n : Nat) (ts : List T) : Bool := T.okTs ts n
mutual
theorem okD_dp {K : PySem.W.Frag} {nb : Addr} {ca : Nat → Addr} {tb : List (Addr × Str)} {F : Hp} : ∀ (t : T) (n : Nat) (v : V), T.okT t n = true → Rep ⟨K, nb, ca, tb⟩ F v t → Dp K F v t.d
  | .non, _, _, _, r => by cases r; rw [T.d]; exact .non
  | .bl b, _, _, _, r => by cases r; rw [T.d]; exact .bl b
  | .int i, _, _, _, r => by cases r; rw [T.d]; exact .int i
  | .str x, _, _, _, r => by cases r; rw [T.d]; exact .str x
  | .lst xs, 0, _, e, r => by simp [T.okT] at e
  | .lst xs, n + 1, _, e, r => by
    simp only [T.okT] at e
    cases r with
    | lst h a => rw [T.d]; exact .lst (.inl (.inl h)) (okAll_dp xs n _ e a)
  | .tup xs, 0, _, e, r => by simp [T.okT] at e
  | .tup xs, n + 1, _, e, r => by
    simp only [T.okT] at e
    cases r with
    | tup h a => rw [T.d]; exact .tup h.sq (okAll_dp xs n _ e a)
  | .dic _, _, _, e, _ => by simp [T.okT] at e
  | .obj _ _, _, _, e, _ => by simp [T.okT] at e
  | .exo _ _, _, _, e, _ => by simp [T.okT] at e
  | .fn _, _, _, e, _ => by simp [T.okT] at e
  | .nib, _, _, e, _ => by simp [T.okT] at e
theorem okAll_dp {K : PySem.W.Frag} {nb : Addr} {ca : Nat → Addr} {tb : List (Addr × Str)} {F : Hp} : ∀ (ts : List T) (n : Nat) (vs : List V), T.okTs ts n = true → RepAll ⟨K, nb, ca, tb⟩ F vs ts → DpAll K F vs (T.dAll ts)
  | [], _, _, _, r => by cases r; rw [T.dAll]; exact .nil
  | t :: ts, n, _, e, r => by
    rw [T.okTs, Bool.and_eq_true] at e
    cases r with
    | cons a b => rw [T.dAll]; exact .cons (okD_dp t n _ e.1 a) (okAll_dp ts n _ e.2 b)
end
mutual
theorem okD_lay : ∀ (t : T) (n : Nat), T.okT t n = true → t.d.canLay0 = true ∧ t.d.depth ≤ n
  | .non, _, _ => by rw [T.d]; simp [PyData.canLay0, PyData.depth]
  | .bl b, _, _ => by rw [T.d]; simp [PyData.canLay0, PyData.depth]
  | .int i, _, _ => by rw [T.d]; simp [PyData.canLay0, PyData.depth]
  | .str x, _, e => by rw [T.okT] at e; rw [T.d]; simp [PyData.canLay0, PyData.depth, e]
  | .lst xs, 0, e => by simp [T.okT] at e
  | .lst xs, n + 1, e => by
    simp only [T.okT] at e
    obtain ⟨h1, h2⟩ := okAll_lay xs n e
    rw [T.d]; simp only [PyData.canLay0, PyData.depth]; exact ⟨h1, by omega⟩
  | .tup xs, 0, e => by simp [T.okT] at e
  | .tup xs, n + 1, e => by
    simp only [T.okT] at e
    obtain ⟨h1, h2⟩ := okAll_lay xs n e
    rw [T.d]; simp only [PyData.canLay0, PyData.depth]; exact ⟨h1, by omega⟩
  | .dic _, _, e => by simp [T.okT] at e
  | .obj _ _, _, e => by simp [T.okT] at e
  | .exo _ _, _, e => by simp [T.okT] at e
  | .fn _, _, e => by simp [T.okT] at e
  | .nib, _, e => by simp [T.okT] at e
theorem okAll_lay : ∀ (ts : List T) (n : Nat), T.okTs ts n = true → PyData.canLayAll0 (T.dAll ts) = true ∧ PyData.depthAll (T.dAll ts) ≤ n
  | [], _, _ => by rw [T.dAll]; simp [PyData.canLayAll0, PyData.depthAll]
  | t :: ts, n, e => by
    rw [T.okTs, Bool.and_eq_true] at e
    obtain ⟨h1, h2⟩ := okD_lay t n e.1
    obtain ⟨h3, h4⟩ := okAll_lay ts n e.2
    rw [T.dAll]; simp only [PyData.canLayAll0, PyData.depthAll, h1, h3]
    exact ⟨rfl, by omega⟩
end
theorem Dp.same {K : PySem.W.Frag} {F H : Hp} (s : Same F H) {v : V} {d : PyData} (h : Dp K F v d) : Dp K H v d :=
  Dp.rec (motive_1 := fun v d _ => Dp K H v d) (motive_2 := fun vs ds _ => DpAll K H vs ds) .non .bl .int .str (fun e _ r => .lst (s.seq e) r) (fun e _ r => .tup (sameSqT s e) r) .nil (fun _ _ a b => .cons a b) h
theorem DpAll.same {K : PySem.W.Frag} {F H : Hp} (s : Same F H) : ∀ {v : List V} {d : List PyData}, DpAll K F v d → DpAll K H v d
  | _, _, .nil => .nil
  | _, _, .cons a b => .cons (Dp.same s a) (DpAll.same s b)
theorem PRep.dp {g : Ga} {F H : Hp} {v : V} {t : T} {n : Nat} (s : Same F H) (h : PRep g F H v t) (e : T.okD n t = true) : Dp g.K H v t.d := by
  rcases h with h | ⟨a, u, ev, hu, m⟩
  · exact Dp.same s (okD_dp (nb := g.nb) (ca := g.ca) (tb := g.tb) t n v e h)
  · subst ev
    unfold T.okD at e
    cases m with
    | lst r =>
      cases n with
      | zero => simp [T.okT] at e
      | succ n =>
        simp only [T.okT] at e
        rw [T.d]
        exact .lst (.inl (.inl hu)) (DpAll.same s (okAll_dp (nb := g.nb) (ca := g.ca) (tb := g.tb) _ n _ e r))
    | dic r => simp [T.okT] at e
    | obj r => simp [T.okT] at e
theorem okD_shaped {n : Nat} {t : T} (h : T.okD n t = true) (hn : n ≤ 64) : SeqAt.shaped t.d = true := by
  obtain ⟨h1, h2⟩ := okD_lay t n h
  show (t.d.canLay0 && decide (t.d.depth ≤ 64)) = true
  rw [h1, Bool.true_and]
  exact decide_eq_true (by omega)
def eqD (t u : T) : Bool := PyData.eqv t.d u.d
def eqT (t u : T) : Option Slot := if T.okD 60 t = true ∧ T.okD 60 u = true then some (.sh (.bl (eqD t u))) else none
def neT (t u : T) : Option Slot := if T.okD 60 t = true ∧ T.okD 60 u = true then some (.sh (.bl (!eqD t u))) else none
theorem p_eq (hK : c.g.K = X.K) : Op2 c (rEqD X.K) eqT := by
  intro F S σ τ H x y t u z Q A hx hy hz k
  unfold eqT at hz
  split at hz
  · rename_i h
    cases hz
    exact ⟨t.d, u.d, hK ▸ hx.dp A.a.fh h.1, hK ▸ hy.dp A.a.fh h.2, okD_shaped h.1 (by omega), okD_shaped h.2 (by omega), fin_sh A k (.bl _)⟩
  · cases hz
theorem p_ne (hK : c.g.K = X.K) : Op2 c (rNeD X.K) neT := by
  intro F S σ τ H x y t u z Q A hx hy hz k
  unfold neT at hz
  split at hz
  · rename_i h
    cases hz
    exact ⟨t.d, u.d, hK ▸ hx.dp A.a.fh h.1, hK ▸ hy.dp A.a.fh h.2, okD_shaped h.1 (by omega), okD_shaped h.2 (by omega), fin_sh A k (.bl _)⟩
  · cases hz

/-! ### in -/
def inT (neg : Bool) (t u : T) : Option Slot := match u with
  | .lst us => if T.okD 60 t = true ∧ T.okD 60 (.lst us) = true then some (.sh (.bl (neg != us.any fun y => eqD y t))) else none
  | .tup us => if T.okD 0 t = true ∧ T.okAll 0 us = true then some (.sh (.bl (neg != us.any fun y => eqD y t))) else none
  | _ => none
theorem any_dAll (d : PyData) : ∀ us : List T, ((T.dAll us).any fun z => PyData.eqv z d) = us.any fun y => PyData.eqv y.d d
  | [] => by rw [T.dAll]; rfl
  | u :: us => by rw [T.dAll, List.any_cons, List.any_cons, any_dAll d us]
theorem flat_of {g : Ga} {F : Hp} {v : V} {t : T} (h : T.okD 0 t = true) (r : Rep g F v t) : flatV v = true := by
  cases r <;> first | rfl | (simp [T.okD, T.okT] at h)
theorem flats_of {g : Ga} {F : Hp} : ∀ {vs : List V} {ts : List T}, T.okAll 0 ts = true → RepAll g F vs ts → vs.all flatV = true
  | _, _, _, .nil => rfl
  | _, _, h, .cons a b => by
    rw [T.okAll, T.okTs, Bool.and_eq_true] at h
    rw [List.all_cons, flat_of h.1 a, flats_of h.2 b]; rfl
theorem eqV_d {g : Ga} {F : Hp} {v w : V} {t u : T} (h1 : T.okD 0 t = true) (h2 : T.okD 0 u = true) (r : Rep g F v t) (q : Rep g F w u) : eqV v w = eqD t u := by
  unfold eqD
  cases r <;> cases q <;> first
    | (exfalso; simp [T.okD, T.okT] at h1; done)
    | (exfalso; simp [T.okD, T.okT] at h2; done)
    | (simp only [T.d, PyData.eqv]; rfl)
theorem inV_d {g : Ga} {F : Hp} {w : V} {u : T} (h2 : T.okD 0 u = true) (q : Rep g F w u) : ∀ {vs : List V} {ts : List T}, T.okAll 0 ts = true → RepAll g F vs ts → inV w vs = ts.any fun y => eqD y u
  | _, _, _, .nil => rfl
  | _, _, h, .cons a b => by
    rw [T.okAll, T.okTs, Bool.and_eq_true] at h
    have ih := inV_d h2 q h.2 b
    unfold inV at ih ⊢
    rw [List.any_cons, List.any_cons, ih, eqV_d h.1 h2 a q]
theorem PRep.rep0 {g : Ga} {F H : Hp} {v : V} {t : T} (h : PRep g F H v t) (e : T.okD 0 t = true) : Rep g F v t := by
  rcases h with h | ⟨a, u, ev, hu, m⟩
  · exact h
  · cases m <;> (simp [T.okD, T.okT] at e)
def rInA (K : PySem.W.Frag) : R2 := fun x y H Q => rIn K false x y H Q ∨ rInD K x y H Q
def rNotInA (K : PySem.W.Frag) : R2 := fun x y H Q => rIn K true x y H Q ∨ rNotInD K x y H Q
theorem p_in (hK : c.g.K = X.K) : Op2 c (rInA X.K) (inT false) := by
  intro F S σ τ H x y t u z Q A hx hy hz k
  unfold inT at hz
  split at hz
  · rename_i us
    split at hz
    · rename_i h
      cases hz
      refine .inr ⟨t.d, T.dAll us, hK ▸ hx.dp A.a.fh h.1, ?_, okD_shaped h.1 (by omega), ?_, ?_⟩
      · have := hy.dp A.a.fh h.2; rw [T.d] at this; exact hK ▸ this
      · have := okD_shaped h.2 (by omega); rw [T.d] at this; exact this
      · rw [any_dAll]; exact fin_sh A (by simpa [eqD] using k) (.bl _)
    · cases hz
  · rename_i us
    split at hz
    · rename_i h
      cases hz
      obtain ⟨p, vs, rfl, h1, r1⟩ := hy.tup A.a.fh
      refine .inl ⟨p, vs, rfl, .inr (hK ▸ h1), flat_of h.1 (hx.rep0 h.1), flats_of h.2 r1, ?_⟩
      rw [if_neg Bool.false_ne_true, inV_d h.1 (hx.rep0 h.1) h.2 r1]
      exact fin_sh A (by simpa using k) (.bl _)
    · cases hz
  · cases hz
theorem p_notin (hK : c.g.K = X.K) : Op2 c (rNotInA X.K) (inT true) := by
  intro F S σ τ H x y t u z Q A hx hy hz k
  unfold inT at hz
  split at hz
  · rename_i us
    split at hz
    · rename_i h
      cases hz
      refine .inr ⟨t.d, T.dAll us, hK ▸ hx.dp A.a.fh h.1, ?_, okD_shaped h.1 (by omega), ?_, ?_⟩
      · have := hy.dp A.a.fh h.2; rw [T.d] at this; exact hK ▸ this
      · have := okD_shaped h.2 (by omega); rw [T.d] at this; exact this
      · rw [any_dAll]; exact fin_sh A (by simpa [eqD] using k) (.bl _)
    · cases hz
  · rename_i us
    split at hz
    · rename_i h
      cases hz
      obtain ⟨p, vs, rfl, h1, r1⟩ := hy.tup A.a.fh
      refine .inl ⟨p, vs, rfl, .inr (hK ▸ h1), flat_of h.1 (hx.rep0 h.1), flats_of h.2 r1, ?_⟩
      rw [if_pos rfl, inV_d h.1 (hx.rep0 h.1) h.2 r1]
      exact fin_sh A (by simpa using k) (.bl _)
    · cases hz
  · cases hz
theorem op_inA (hu : X.A.units + 65 < cLine) : OpR X (compareOp .In) (rInA X.K) := .or op_in_seq (op_inD hu)
theorem op_notinA (hu : X.A.units + 65 < cLine) : OpR X (compareOp .NotIn) (rNotInA X.K) := .or op_notIn_seq (op_notInD hu)

/-! ### is -/
def isT (neg : Bool) : T → T → Option Slot
  | .bl a, .bl b => some (.sh (.bl (neg != decide (a = b))))
  | .non, .non => some (.sh (.bl (neg != true)))
  | .bl _, .non => some (.sh (.bl (neg != false)))
  | .int _, .non => some (.sh (.bl (neg != false)))
  | .str _, .non => some (.sh (.bl (neg != false)))
  | .lst _, .non => some (.sh (.bl (neg != false)))
  | .tup _, .non => some (.sh (.bl (neg != false)))
  | .dic _, .non => some (.sh (.bl (neg != false)))
  | .obj _ _, .non => some (.sh (.bl (neg != false)))
  | .exo _ _, .non => some (.sh (.bl (neg != false)))
  | _, _ => none
def rIsA : R2 := fun x y H Q => (y = .non ∧ Q (.bl (decide (x = .non))) H) ∨ rIsB x y H Q
def rNotA : R2 := fun x y H Q => (y = .non ∧ Q (.bl (!decide (x = .non))) H) ∨ rNotB x y H Q
theorem op_isA : OpR X (compareOp .Is) rIsA := .or op_isN op_isBl
theorem op_isnotA : OpR X (compareOp .IsNot) rNotA := .or op_notN op_notBl
theorem PRep.nonI {g : Ga} {F H : Hp} {v : V} {t : T} (h : PRep g F H v t) (n : t ≠ .non) : v ≠ .non := by
  rcases h with h | ⟨a, u, ev, hu, m⟩
  · cases h <;> first | exact absurd rfl n | (intro z; cases z)
  · subst ev; intro z; cases z
theorem p_is : Op2 c rIsA (isT false) := by
  intro F S σ τ H x y t u z Q A hx hy hz k
  unfold isT at hz
  split at hz
  · cases hz
    rw [hx.bl, hy.bl]
    exact .inr ⟨_, _, rfl, rfl, fin_sh A (by simpa using k) (.bl _)⟩
  · cases hz
    rw [hx.non, hy.non]
    exact .inl ⟨rfl, fin_sh A (by simpa using k) (.bl _)⟩
  all_goals first
    | (cases hz; rw [hy.non]; exact .inl ⟨rfl, by rw [decide_eq_false (hx.nonI (fun z => nomatch z))]; exact fin_sh A (by simpa using k) (.bl _)⟩)
    | cases hz
theorem p_isnot : Op2 c rNotA (isT true) := by
  intro F S σ τ H x y t u z Q A hx hy hz k
  unfold isT at hz
  split at hz
  · cases hz
    rw [hx.bl, hy.bl]
    exact .inr ⟨_, _, rfl, rfl, fin_sh A (by simpa using k) (.bl _)⟩
  · cases hz
    rw [hx.non, hy.non]
    exact .inl ⟨rfl, fin_sh A (by simpa using k) (.bl _)⟩
  all_goals first
    | (cases hz; rw [hy.non]; exact .inl ⟨rfl, by rw [decide_eq_false (hx.nonI (fun z => nomatch z))]; exact fin_sh A (by simpa using k) (.bl _)⟩)
    | cases hz

/-! ### subscripts and slices -/
def ixT (t u : T) : Option Slot := match t, u with
  | .lst ts, .int i => (atI ts i).map .sh
  | .tup ts, .int i => (atI ts i).map .sh
  | .str x, .int i => if x.length ≤ sz then (atI x.cps.toList i).map fun k => .sh (.str ⟨#[k]⟩) else none
  | _, _ => none
theorem atI_rep {g : Ga} {F : Hp} {vs : List V} {ts : List T} {i : Int} {t : T} (r : RepAll g F vs ts) (h : atI ts i = some t) : ∃ v, atI vs i = some v ∧ Rep g F v t := by
  unfold atI at h ⊢
  rw [r.length]
  cases e : ixN ts.length i with
  | none => rw [e] at h; cases h
  | some j =>
    rw [e] at h
    exact r.get h
theorem p_ix (hK : c.g.K = X.K) : Op2 c (rIx X.K) ixT := by
  intro F S σ τ H x y t u z Q A hx hy hz k
  unfold ixT at hz
  split at hz
  · obtain ⟨t', h1, h2⟩ := Option.map_eq_some_iff.mp hz
    subst h2
    obtain ⟨p, vs, rfl, h3, r⟩ := hx.lst A.a.fh
    obtain ⟨w, h4, r4⟩ := atI_rep r h1
    rw [hy.int]
    exact .inl ⟨p, vs, _, w, rfl, rfl, .inl (.inl h3), h4, fin_sh A k r4⟩
  · obtain ⟨t', h1, h2⟩ := Option.map_eq_some_iff.mp hz
    subst h2
    obtain ⟨p, vs, rfl, h3, r⟩ := hx.tup A.a.fh
    obtain ⟨w, h4, r4⟩ := atI_rep r h1
    rw [hy.int]
    exact .inr (.inl ⟨p, vs, _, w, rfl, rfl, hK ▸ h3, h4, fin_sh A k r4⟩)
  · split at hz
    · rename_i hl
      obtain ⟨t', h1, h2⟩ := Option.map_eq_some_iff.mp hz
      subst h2
      rw [hx.str, hy.int]
      exact .inr (.inr ⟨_, _, t', rfl, rfl, by rw [← sz_eq]; exact hl, h1, fin_sh A k (.str _)⟩)
    · cases hz
  · cases hz
def cutT (xs : List T) (lo hi : Option Int) : List T := (xs.drop (HT.sIx xs.length 0 lo)).take (HT.sIx xs.length xs.length hi - HT.sIx xs.length 0 lo)
theorem RepAll.cut {g : Ga} {F : Hp} {vs : List V} {ts : List T} (r : RepAll g F vs ts) (lo hi : Option Int) : RepAll g F (cutV vs lo hi) (cutT ts lo hi) := by
  unfold cutV cutT
  rw [r.length]
  exact (r.drop _).take _
def slT (t : T) (lo hi : Option Int) : Option Slot := match t with
  | .lst ts => some (.ow (.lst (cutT ts lo hi)))
  | .tup ts => some (.sh (.tup (cutT ts lo hi)))
  | _ => none
end
end TL

end
section
set_option Elab.async false
set_option linter.all false
set_option maxRecDepth 100000
set_option autoImplicit false
/-! TL5: rules that the layer lacked: enumerate of a tuple, sorted of a tuple, max of a list with default -/
open PySem PySem.Spec PyProof.Rows L2
namespace TL
set_option maxHeartbeats 1000000 in
theorem meets_enum1 {v : Value} {o : Obj} {H : Heap → Prop} (B : Begins v o H) :
    Meets (Builtin.«enumerate.__new__» ⟨[.type "enumerate", v], []⟩) (fun _ R s => H s.heap ∧
      R (.ok (.ret (.ref (s.heap.push o).objs.size))) { s with heap := (s.heap.push o).push { cls := .type "enumerate", data := .fields #[.none, .bool false, .ref s.heap.objs.size, rawInt 0, .none, .none] } }) :=
  .of_wp fun prog w A R s h => by
    obtain ⟨hp, g, d, tk, os⟩ := s; obtain ⟨h1, h⟩ := h
    have hsub := sub_enumerate
    have q1 : ∀ {A' : Around} {E : Value → Shared → Prop} {Q : Value → Shared → Prop}, Q (.ref hp.objs.size) ⟨hp.push o, g, d, tk, os⟩ → wpAny (model prog w) A' (pyIter v) Q E ⟨hp, g, d, tk, os⟩ :=
      fun q => B.iter prog w _ _ ⟨hp, g, d, tk, os⟩ _ h1 q
    wp_walk using q1
    refine wpAny_stack_any fun st => wpAny_pure ?_
    split
    · rename_i c _ _ _ _ _
      cases (c == Value.type "enumerate")
      · wp_walk using q1
        exact ⟨_, rfl, h⟩
      · wp_walk using q1
        exact ⟨_, rfl, h⟩
    · wp_walk using q1
      exact ⟨_, rfl, h⟩
section
variable {prog : Program} {w : World} {A : Around} {E : Value → Shared → Prop} {s : Shared}
theorem call_enum1 {v : Value} {o : Obj} {H : Heap → Prop} {Q : Value → Shared → Prop} (B : Begins v o H) (h1 : H s.heap)
    (h : ∀ h', IsEnum h' (s.heap.objs.size + 1) s.heap.objs.size 0 .none → h'.get? s.heap.objs.size = some o → h'.objs.size = s.heap.objs.size + 2 →
      (∀ b o, s.heap.get? b = some o → h'.get? b = some o) → Q (.ref (s.heap.objs.size + 1)) { s with heap := h' }) :
    wpAny (model prog w) A (call (.type "enumerate") [v]) Q E s := by
  refine callType_new F.called_enumerate (by decide) (F.typeCall_enumerate_1 _) (F.newCall_enumerate_1 _) (fun obj => F.args_object_init_2 obj _) F.entry_enumerate_new
    (meets_enum1 B) ⟨h1, ?_⟩
  have hz : (s.heap.push o).objs.size = s.heap.objs.size + 1 := Heap.size_push ..
  show _ ∧ _
  rw [hz]
  have he : IsEnum ((s.heap.push o).push { cls := .type "enumerate", data := .fields #[.none, .bool false, .ref s.heap.objs.size, rawInt 0, .none, .none] }) (s.heap.objs.size + 1) s.heap.objs.size 0 .none := by
    have := Heap.get?_push_size (s.heap.push o) (o := { cls := .type "enumerate", data := .fields #[.none, .bool false, .ref s.heap.objs.size, rawInt 0, .none, .none] }) rfl
    rw [hz] at this; exact this
  refine ⟨⟨_, he, rfl⟩, h _ he (Heap.get?_push_of_some _ (Heap.get?_push_size _ B.free)) (by rw [Heap.size_push, hz]) fun b o x => Heap.get?_push_of_some _ (Heap.get?_push_of_some _ x)⟩
end
/-- enumerate(tuple): the tuple at a as it stands, each item in a new pair -/
def IteT (K : PySem.W.Frag) (a : Addr) : It :=
  ⟨fun i H => ∃ (xs : List V) (x : V), SqT K H a xs ∧ xs[i]? = some x, fun i H v H' => ∃ T x, v = .ref T ∧ H T = none ∧ H' = upd H T (.tup [.int (i : Nat), x]) ∧ ∀ xs, SqT K H a xs → xs[i]? = some x, fun i H => ∃ xs : List V, SqT K H a xs ∧ xs.length = i⟩
theorem turn_enumT {P : Program} {w : World} {K : PySem.W.Frag} {elts : List Expr} {kk : Nat} {tpos : Pos} (a e it : Addr) :
    Turn P w K (.Tuple elts kk tpos) (IteT K a) [e, it] e (fun i h => (∃ old, IsEnum h e it ((i : Nat) : Int) old) ∧ h.IsTupleIter it a i ∧ e ≠ it ∧ a ≠ it ∧ a ≠ e) where
  mem := by simp
  obj := fun i h st b hb => by
    obtain ⟨⟨old, he⟩, ⟨o, ho, hc, hd⟩, _⟩ := st
    have e' : b = e ∨ b = it := by simpa using hb
    rcases e' with z | z
    · rw [z]; exact ⟨_, he, fun v q => nomatch q⟩
    · rw [z]; exact ⟨o, ho, fun v q => by rw [hd] at q; cases q⟩
  keep := fun i h h' st k => let ⟨⟨old, he⟩, hi, hne⟩ := st; ⟨⟨old, k e (by simp) _ he⟩, hi.at fun o q => k it (by simp) o q, hne⟩
  item := by
    intro X hP hw hK hc i pins s σ H E I hf st hg
    subst hP hw hK
    obtain ⟨⟨old, he⟩, hit, hne, hai, hae⟩ := st
    obtain ⟨xs, x, hq, hx⟩ := hg
    obtain ⟨its, rv, p, hz⟩ := I.tuple hq
    obtain ⟨u, hu, ru⟩ := rv.get hx
    have hel : e < s.heap.objs.size := Heap.lt_size he
    have hil : it < s.heap.objs.size := by obtain ⟨_, q, _⟩ := hit; exact Heap.lt_size q
    have hin : i < its.toArray.size := by
      have := (List.getElem?_eq_some_iff.mp hu).1
      simpa using this
    have D := Draws.tuple (prog := X.prog) (w := X.w) (A := X.A.in1) (I.ok.hd hc) it a hai its.toArray
    refine wpAny_pyNext_enum_itemD D he ⟨hit, p⟩ hin hne (by simp [hne, Ne.symm hae]) fun y h' tk hy ho hst' hT hsz hk => ?_
    have hyu : u = y := by
      rw [List.getElem?_toArray, hu] at hy
      exact Option.some.inj hy
    subst hyu
    refine ⟨_, rfl, wpAny_letOwnedTupleGo_enum (s := { s with heap := h', toks := tk + 1 }) ho fun h'' he' sb => ?_⟩
    have hT2 : h''.get? s.heap.objs.size = some { cls := .type "tuple", data := .seq #[.int i tk, u] } := (sb.2 _ (Nat.ne_of_gt hel)).trans hT
    have new : ObjOk X.prog X.w (upd H s.heap.objs.size (.tup [.int (i : Nat), x])) h'' s.heap.objs.size (.tup [.int (i : Nat), x]) :=
      ⟨by show 2 ≤ sizeLine; decide, [.int i tk, u], .cons ⟨_, rfl⟩ (.cons ru .nil), ⟨_, hT2, rfl, _, rfl⟩⟩
    have I1 : Inv X pins σ (upd H s.heap.objs.size (.tup [.int (i : Nat), x])) { s with heap := h'', toks := tk + 1 } :=
      I.turnedNew (ch := [e, it]) (fun b ob hb q => (sb.2 b (fun z => hb (by simp [z]))).trans (hk b ob (fun z => hb (by simp [z])) (fun z => hb (by simp [z])) q)) hf (Nat.le_refl _) new
    refine ⟨.ref s.heap.objs.size, _, I1, rfl, ⟨_, x, rfl, I.hok.fresh (Nat.le_refl _), rfl, fun ys hy => by rw [I.tuple_inj hy hq]; exact hx⟩, ⟨⟨u, ?_⟩, hst'.1.at fun o q => (sb.2 it (Ne.symm hne)).trans q, hne, hai, hae⟩, fun b hb => ?_⟩
    · have e1 : ((i + 1 : Nat) : Int) = (i : Int) + 1 := by omega
      rw [e1]; exact he'
    · have hb' : b < s.heap.objs.size := by
        have e' : b = e ∨ b = it := by simpa using hb
        rcases e' with z | z
        · rw [z]; exact hel
        · rw [z]; exact hil
      rw [upd_ne (Nat.ne_of_lt hb')]
      exact (hf b hb).1
  done := by
    intro X hP hw hK hc i pins s σ H E I hf st hg
    subst hP hw hK
    obtain ⟨⟨old, he⟩, hit, hne, hai, hae⟩ := st
    obtain ⟨xs, hq, hx⟩ := hg
    obtain ⟨its, rv, p, hz⟩ := I.tuple hq
    obtain ⟨f0, f1, f2, f3, f4, f5⟩ := hf it (by simp)
    have hl := rv.length
    have D := Draws.tuple (prog := X.prog) (w := X.w) (A := X.A.in1) (I.ok.hd hc) it a hai its.toArray
    have hn : its.toArray.size = i := by simp; omega
    refine wpAny_pyNext_enum_endD D he (hn ▸ ⟨hit, p⟩) fun h' eb => ⟨rfl, I.turned (t' := s.toks) (fun b o hb q => eb b o hb q) f0 f1 f3 f4 f5⟩
  self := fun A i s Q E st h => let ⟨⟨_, he⟩, _⟩ := st; wpAny_pyIter_enum he h
def iEnumT (K : PySem.W.Frag) (ta : TA) : TI := fun σ H R => ta σ H fun vs H1 => ∃ a xs, vs = [.ref a] ∧ ((SqL K H1 a xs ∧ R (Ite K a) H1) ∨ (SqT K H1 a xs ∧ R (IteT K a) H1))
theorem pi_enumA {X : Cx} {e : Expr} {ta : TA} {p pos tpos : Pos} {elts : List Expr} {kk : Nat} (hg : Gl X "enumerate") (hm : X.mg "enumerate" = none) (ha : PA X [e] ta) (hs : starEach [e] X.env = [(false, eval e X.env)] := by rfl) :
    PI X (.Tuple elts kk tpos) (.Call (.Name "enumerate" p) [e] [] pos) (iEnumT X.K ta) := by
  refine ⟨fun pins s σ H R I h => ?_⟩
  refine Call_ (ld_blt I hg hm boot_enumerate (PyProof.Rows.callWith_type1 (thn (ha.run pos pins s σ H _ I h) fun us s1 ⟨vs, H1, I1, r1, q1⟩ => ?_) hs rfl))
  obtain ⟨a, xs, ex, q⟩ := q1
  subst ex
  cases r1 with
  | cons r rr =>
    cases rr
    cases r
    have new : ∀ (h' : Heap) (hk : ∀ b o, s1.heap.get? b = some o → h'.get? b = some o), Inv X pins σ H1 { s1 with heap := h' } → ∀ b ∈ [s1.heap.objs.size + 1, s1.heap.objs.size], FpOk X pins H1 b := fun h' hk I2 b hb => by
      have e' : b = s1.heap.objs.size + 1 ∨ b = s1.heap.objs.size := by simpa using hb
      have hle : s1.heap.objs.size ≤ b := by
        rcases e' with z | z
        · rw [z]; exact Nat.le_add_right _ _
        · rw [z]; exact Nat.le_refl _
      exact I1.fpOk hle (I1.hok.fresh hle)
    rcases q with ⟨hq, q⟩ | ⟨hq, q⟩
    · obtain ⟨its, rv, p', hz⟩ := I1.list hq
      refine call_enumerate_list p'.isList fun h' he hit hsz hk => wpAny_pyIter_enum he ?_
      have I2 : Inv X pins σ H1 { s1 with heap := h' } := I1.kept (t' := s1.toks) hk
      exact ⟨s1.heap.objs.size + 1, [s1.heap.objs.size + 1, s1.heap.objs.size], _, _, H1, rfl, I2, turn_enum a (s1.heap.objs.size + 1) s1.heap.objs.size, ⟨⟨.none, he⟩, hit, Nat.succ_ne_self _⟩, new h' hk I2, q⟩
    · obtain ⟨its, rv, p', hz⟩ := I1.tuple hq
      have pT : s1.heap.IsTuple a its.toArray := p'
      have hal : a < s1.heap.objs.size := by obtain ⟨o, ho, _⟩ := pT; exact Heap.lt_size ho
      refine call_enum1 (begins_tuple a its.toArray) pT fun h' he hit hsz hk => wpAny_pyIter_enum he ?_
      have I2 : Inv X pins σ H1 { s1 with heap := h' } := I1.kept (t' := s1.toks) hk
      exact ⟨s1.heap.objs.size + 1, [s1.heap.objs.size + 1, s1.heap.objs.size], _, _, H1, rfl, I2, turn_enumT a (s1.heap.objs.size + 1) s1.heap.objs.size,
        ⟨⟨.none, he⟩, ⟨_, hit, rfl, rfl⟩, Nat.succ_ne_self _, Nat.ne_of_lt hal, Nat.ne_of_lt (Nat.lt_succ_of_lt hal)⟩, new h' hk I2, q⟩

/-! ### sorted(tuple of ints) -/
section
variable {prog : Program} {w : World} {A : Around} {E : Value → Shared → Prop} {s : Shared}
theorem collect_tup {l : Addr} {vs : List Value} {Q : List Value → Shared → Prop} (hl : IsTup s.heap l vs.toArray)
    (h : Q vs { s with heap := (s.heap.push (seqObj "list" #[] 0)).update s.heap.objs.size (Obj.mapSeq (· ++ vs.toArray)) }) (hsz : vs.length ≤ sizeLine) :
    wpAny (model prog w) A (collect (.ref l)) Q E s := by
  obtain ⟨o, ho, hc, n, hd⟩ := id hl
  unfold collect
  refine wpAny_bind (wpAny_runValue (codeAny_builtin entry_proto_collect' ?_))
  show wpAny _ _ (do again (.builtin "list.__iadd__" ⟨[← newList [], .ref l], []⟩)) _ _ s
  refine wpAny_bind (wpAny_newList (wpAny_pure ⟨Code.quiet_builtin _ (by decide +kernel), codeAny_builtin entry_list_iadd' ?_⟩))
  show wpAny _ _ (Builtin.List.listExtendWith (.ref s.heap.objs.size) (.ref l) (.ref s.heap.objs.size)) _ _ { s with heap := s.heap.push (seqObj "list" #[] 0) }
  unfold Builtin.List.listExtendWith
  have ho' : (s.heap.push (seqObj "list" #[] 0)).get? l = some o := Heap.get?_push_of_some _ ho
  refine wpAny_bind (wpAny_typeOf (T := "tuple") ⟨o, ho', hc⟩ ?_)
  have ht : (Value.type "tuple" == Value.type "tuple") = true := by rfl
  rw [if_pos (by rw [ht]; simp)]
  refine wpAny_bind (listItems_at ho' hd ?_)
  refine wpAny_bind (listItems_at (xs := #[]) (n := 0) (Heap.get?_push_size _ rfl) rfl ?_)
  rw [if_neg (by simp)]
  refine wpAny_bind (listUpdate_at (xs := #[]) (n := 0) (Heap.get?_push_size _ rfl) rfl ?_ (Nat.zero_le _) (by show (#[] ++ vs.toArray).size ≤ sizeLine + 1; simp only [Array.size_append, List.size_toArray, List.length_nil]; omega))
  refine wpAny_pure ?_
  show wpAny (model prog w) A (do
      let o ← load s.heap.objs.size
      match o.data with
      | .seq xs _ => pure xs.toList
      | _ => unsupported "internal:collect") Q E { s with heap := (s.heap.push (seqObj "list" #[] 0)).update s.heap.objs.size (Obj.mapSeq (· ++ vs.toArray)) }
  refine wpAny_bind (wpAny_load (get?_update_seq (Heap.get?_push_size _ rfl) _) ?_)
  show wpAny _ _ (pure ((#[] : Array Value) ++ vs.toArray).toList) Q E _
  rw [show ((#[] : Array Value) ++ vs.toArray).toList = vs by simp]
  exact wpAny_pure h
theorem sortedKAnyT {κ : KeyKind} (hO : κ.OneLt) {l : Addr} {vs : List Value} {Q : Value → Shared → Prop} (hl : IsTup s.heap l vs.toArray) (h0 : KeysOf κ (pairsOf vs)) (hkk : ∀ v₁ v₂ rest, vs = v₁ :: v₂ :: rest → keyKind' (v₁ :: v₂ :: rest).toArray = pure oneType') (hL : vs.length ≤ sizeLine)
    (h : ∀ st' : SortSt, (arrOf st').Perm (pairsOf vs) → SortedToK κ (arrOf st') (pairsOf vs).size → Q (.ref (s.heap.objs.size + 1)) { s with heap := sortedAll s.heap vs ((arrOf st').map (·.2)) }) :
    wpAny (model prog w) A (call (.builtin "sorted") [.ref l]) Q E s := by
  refine Calls.call_function_entry kind_sorted plain_sorted entry_sorted (args_sorted1 _) ?_
  unfold Builtin.«sorted»
  refine wpAny_bind (m := checkCount "sorted" 1 1 _) (wpAny_pure ?_)
  refine wpAny_bind (collect_tup hl ?_ hL)
  refine wpAny_bind (wpAny_newList ?_ hL)
  have hsz : ((s.heap.push (seqObj "list" #[] 0)).update s.heap.objs.size (Obj.mapSeq (· ++ vs.toArray))).objs.size = s.heap.objs.size + 1 := by
    rw [Heap.size_update, size_push']
  have hoL : (((s.heap.push (seqObj "list" #[] 0)).update s.heap.objs.size (Obj.mapSeq (· ++ vs.toArray))).push (seqObj "list" vs.toArray 0)).get? (s.heap.objs.size + 1) = some (seqObj "list" vs.toArray 0) := by
    rw [← hsz]; exact Heap.get?_push_size _ rfl
  show wpAny _ _ _ _ _ { s with heap := ((s.heap.push (seqObj "list" #[] 0)).update s.heap.objs.size (Obj.mapSeq (· ++ vs.toArray))).push (seqObj "list" vs.toArray 0) }
  rw [hsz]
  refine wpAny_bind (wpAny_holding (wpAny_call_entry slot_list_sort ⟨_, hoL, rfl⟩ entry_list_sort (list_sort_treeKAny hO hoL h0 hkk hL fun st' a1 a2 => ⟨_, rfl, ?_⟩) (args_list_sort _)))
  exact wpAny_pure ⟨_, rfl, h st' a1 a2⟩
theorem sorted_intsAnyT {l : Addr} {vs : List Value} {ns : List Int} {Q : Value → Shared → Prop} (hl : IsTup s.heap l vs.toArray) (hI : IntsAre vs ns) (hL : vs.length ≤ sizeLine)
    (h : ∀ (out : Array Value) (ns' : List Int), IntsAre out.toList ns' → ns'.Perm ns → ns'.Pairwise (· ≤ ·) → Q (.ref (s.heap.objs.size + 1)) { s with heap := sortedAll s.heap vs out }) :
    wpAny (model prog w) A (call (.builtin "sorted") [.ref l]) Q E s := by
  refine sortedKAnyT intKind_oneLt hl hI.keysOfInt (fun v₁ v₂ rest e => keyKind_ints (by rw [← e]; exact hI)) hL fun st' hp hs => ?_
  obtain ⟨ns', h1, h2, h3⟩ := sorted_out hI hp (sortedTo_of_int hs)
  exact h _ ns' h1 h2 h3
end
/-- sorted of ints, a list or a tuple of any length -/
def rSortedA (K : PySem.W.Frag) : List V → Hp → VK → Prop := fun vs H Q => ∃ (a : Addr) (ns : List Int), vs = [V.ref a] ∧ (SqL K H a (ns.map V.int) ∨ SqT K H a (ns.map V.int)) ∧ ∀ (ns' : List Int) (p : Addr), ns'.Perm ns → ns'.Pairwise (· ≤ ·) → H p = none → Q (.ref p) (upd H p (.lst (ns'.map V.int)))
theorem cr_sortedA {X : Cx} : CallR X (.builtin "sorted") (rSortedA X.K) := by
  intro pins s σ H vs us Q I r h
  obtain ⟨a, ns, rfl, hs, q⟩ := h
  rw [Vals.ref1 r]
  rcases hs with hs | hs
  · obtain ⟨its, rv, hl, hz⟩ := I.list hs
    have hi := rv.ints
    rw [List.length_map] at hz
    refine PyProof.Rows.sorted_intsAny hl.isList hi (by rw [hi.length]; exact hz) fun out ns' h1 h2 h3 => ?_
    obtain ⟨ep, he'⟩ := PyProof.Rows.sortedAll_at s.heap its out
    have hlen : (ns'.map V.int).length ≤ sizeLine := by rw [List.length_map, h2.length_eq]; exact hz
    exact ⟨.ref _, upd H (s.heap.objs.size + 1) (.lst (ns'.map V.int)), I.laid (t' := s.toks) (fun _ _ => PyProof.Rows.sortedAll_old) (Nat.le_succ _) ⟨hlen, out.toList, ep, vals_of_ints h1, he'⟩, rfl, q ns' _ h2 h3 (I.hok.fresh (Nat.le_succ _))⟩
  · obtain ⟨its, rv, hl, hz⟩ := I.tuple hs
    have hi := rv.ints
    rw [List.length_map] at hz
    refine sorted_intsAnyT hl hi (by rw [hi.length]; exact hz) fun out ns' h1 h2 h3 => ?_
    obtain ⟨ep, he'⟩ := PyProof.Rows.sortedAll_at s.heap its out
    have hlen : (ns'.map V.int).length ≤ sizeLine := by rw [List.length_map, h2.length_eq]; exact hz
    exact ⟨.ref _, upd H (s.heap.objs.size + 1) (.lst (ns'.map V.int)), I.laid (t' := s.toks) (fun _ _ => PyProof.Rows.sortedAll_old) (Nat.le_succ _) ⟨hlen, out.toList, ep, vals_of_ints h1, he'⟩, rfl, q ns' _ h2 h3 (I.hok.fresh (Nat.le_succ _))⟩
/-- max(list of ints, default=d) -/
def rMaxDf (K : PySem.W.Frag) : List V → List V → Hp → VK → Prop := fun vs ws H Q => ∃ (a : Addr) (ns : List Int) (d : V), vs = [V.ref a] ∧ ws = [d] ∧ SqL K H a (ns.map V.int) ∧ (ns = [] → Q d H) ∧ ∀ y ys, ns = y :: ys → Q (.int (PySem.W.maxOf y ys)) H
theorem run_maxDf {X : Cx} (hc : X.calm = true) (hu : X.A.units + 10 < cLine) {pins : List (Addr × Obj)} {s : Shared} {σ : L2.St} {H : Hp} {vs ws : List V} {us zs : List Value} {Q : VK} (I : Inv X pins σ H s) (r : Vals vs us) (rz : Vals ws zs) (h : rMaxDf X.K vs ws H Q) :
    wpAny (model X.prog X.w) X.A (call (.builtin "max") us [("default", zs.headD .none)]) (EP X pins σ Q) X.xe s := by
  obtain ⟨a, ns, d, rfl, rfl, hs, h0, h1⟩ := h
  obtain ⟨its, rv, hl, hz⟩ := I.list hs
  rw [Vals.ref1 r]
  cases rz with
  | cons rd rt =>
    cases rt
    rename_i dv
    have hi := rv.ints
    refine PySem.W.max_list_datum_default (α := Int) (I.ok.hd hc) hl.isList (xs := ns) ?_ ?_ (fun e h' tk k => ?_) (fun y ys i v h' tk e hv hh k => ?_)
    · rw [show its.toArray.toList = its by simp]; exact PySem.W.HoldAll.of_ints hi
    · show X.A.units + 1 + 0 < cLine; omega
    · exact ⟨d, H, I.kept (t' := tk) k, rd, h0 e⟩
    · refine ⟨_, H, I.kept (t' := tk) k, ?_, h1 y ys e⟩
      obtain ⟨as, hr⟩ := hh
      have hr : Reads h' v (.int (PySem.W.maxOf y ys)) as := hr
      cases hr
      exact ⟨_, rfl⟩
/-- max(e, default=d) -/
theorem pe_maxDf {X : Cx} {e d : Expr} {es : List Expr} {x : Str} {p pos kp : Pos} {ta td : TE} (hc : X.calm = true) (hu : X.A.units + 10 < cLine) (hg : Gl X "max") (hm : X.mg "max" = none) (ha : PE X e ta) (hd : PE X d td)
    (he : starEach [e] X.env = (false, eval e X.env) :: starEach [] X.env := by rfl) :
    PE X (.Call (.Name "max" p) [e] [⟨some "default", d, kp⟩] pos) (fun σ H Q => ta σ H fun v H1 => td σ H1 fun w H2 => rMaxDf X.K [v] [w] H2 Q) := by
  refine ⟨fun pins s σ H Q I h => ?_⟩
  refine wpAny_Call_Name_kw (ld_blt (u := .builtin "max") I hg hm (by decide +kernel) ?_ (by decide))
  have hs : starEach [e] X.env = (false, eval e X.env) :: starEach [] X.env := he
  refine callWith_kw (id := "max") (kws := [⟨some "default", d, kp⟩]) (thn ((pa_cons ha pa_nil hs).run pos pins s σ H (fun vs H1 => tCons td tNil σ H1 fun ws H2 => rMaxDf X.K vs ws H2 Q) I h) fun us s1 ⟨vs, H1, I1, r, q⟩ => ?_) (by rw [hs]; rfl) (by rw [hs]; rfl) (by rfl) (by rfl)
  refine thn ((pk_cons (nm := some "default") (kpos := kp) hd pk_nil).run pos pins s1 σ H1 (fun ws H2 => rMaxDf X.K vs ws H2 Q) I1 q) fun zs s2 ⟨ws, H2, I2, rz, q2⟩ => ?_
  have q3 := run_maxDf hc hu I2 r rz q2
  obtain ⟨_, _, _, _, e2, _⟩ := q2
  subst e2
  cases rz with
  | cons rd rt =>
    cases rt
    exact q3
end TL

end
section
set_option Elab.async false
set_option linter.all false
set_option maxRecDepth 100000
set_option autoImplicit false
/-! TL6: slices, built-in functions -/
open PySem PySem.Spec PyProof.Rows L2
namespace TL
section
variable {X : Cx} {c : Cfg} {e a b : Expr} {es : List Expr} {pos : Pos}
/-! ### slices -/
def rSlAll (K : PySem.W.Frag) : V → Option Int → Option Int → Hp → VK → Prop := fun x lo hi H Q => rSlL K x lo hi H Q ∨ rSlF K x lo hi H Q ∨ rSlS x lo hi H Q
theorem sl_all : SlR X (rSlAll X.K) := .or sl_list (.or sl_tupF sl_str)
def slT' (t : T) (lo hi : Option Int) : Option Slot := match t with
  | .lst ts => some (.ow (.lst (cutT ts lo hi)))
  | .tup ts => some (.sh (.tup (cutT ts lo hi)))
  | .str x => if x.length ≤ sz then some (.sh (.str (cutS x lo hi))) else none
  | _ => none
theorem cut_whole {ts : List T} {lo hi : Option Int} (h : HT.sIx ts.length 0 lo = 0 ∧ HT.sIx ts.length ts.length hi = ts.length) : cutT ts lo hi = ts := by
  unfold cutT
  rw [h.1, h.2]
  simp
theorem p_sl (hK : c.g.K = X.K) : OpS c (rSlAll X.K) slT' := by
  intro F S σ τ H x l u t z Q A hx hz k
  unfold slT' at hz
  split at hz
  · cases hz
    obtain ⟨p, vs, rfl, h3, r⟩ := hx.lst A.a.fh
    exact .inl ⟨p, vs, rfl, .inl (.inl h3), fun q np => fin_ow A k (.lst (r.cut l u)) np⟩
  · cases hz
    obtain ⟨p, vs, rfl, h3, r⟩ := hx.tup A.a.fh
    refine .inr (.inl ⟨p, vs, rfl, hK ▸ h3, fun w => ?_, fun _ q o np hd => fin_tup A k (r.cut l u) np hd⟩)
    rw [r.length] at w
    rw [cut_whole w] at k
    exact fin_tupE A k hx
  · split at hz
    · cases hz
      rename_i hl
      rw [hx.str]
      exact .inr (.inr ⟨_, rfl, by rw [← sz_eq]; exact hl, fin_sh A k (.str _)⟩)
    · cases hz
  · cases hz
/-- xs[::-1] of a list -/
def revT : T → Option Slot
  | .lst ts => some (.ow (.lst ts.reverse))
  | _ => none
theorem de_rev {fa : OF} {k : Nat} {p1 p2 p3 : Pos} (ha : PE X a (rdO c fa)) : PE X (.Subscript a (.Slice none none (some (.UnaryOp .USub (.Constant (.int 1) k p1) p2)) p3) pos) (rdE c (op1 revT fa)) := by
  refine PE.imp (pe_revL ha) fun σ H Q q => op1_out (r := fun x H1 Q => ∃ a xs, x = .ref a ∧ SqL X.K H1 a xs ∧ ∀ p, H1 p = none → Q (.ref p) (upd H1 p (.lst xs.reverse))) ?_ q
  intro F S σ τ H x t z Q A hx hz k
  unfold revT at hz
  split at hz
  · cases hz
    obtain ⟨p, vs, rfl, h3, r⟩ := hx.lst A.a.fh
    exact ⟨p, vs, rfl, .inl (.inl h3), fun q np => fin_ow A k (.lst r.reverse) np⟩
  · cases hz

/-! ### calls of built-in functions -/
theorem de_callB {id : String} {r : List V → Hp → VK → Prop} {p : List T → Option Slot} {fa : AF} {x : Str} {p' : Pos} (hc : CallR X (.builtin id) r) (hp : OpN c r p) (hg : Gl X x) (hm : X.mg x = none) (hv : bootBuiltins x = some (.builtin id)) (ha : PA X (e :: es) (rdA c fa)) (hn : x ≠ "__name__" := by decide) (hdb : (x == ("__debug__" : Str)) = false := by decide)
    (he : starEach (e :: es) X.env = (false, eval e X.env) :: starEach es X.env := by rfl) (hpl : (backTo pos (starEach es X.env)).any (·.1) = false := by rfl) : PE X (.Call (.Name x p') (e :: es) [] pos) (rdE c (opN p fa)) :=
  PE.imp (pe_callB hc hg hm hv ha hn hdb he hpl) fun _ _ _ q => opN_out hp q
theorem de_callTy {id : String} {r : List V → Hp → VK → Prop} {p : List T → Option Slot} {fa : AF} {x : Str} {p' : Pos} (hc : CallR X (.type id) r) (hp : OpN c r p) (hg : Gl X x) (hm : X.mg x = none) (hv : bootBuiltins x = some (.type id)) (ha : PA X (e :: es) (rdA c fa)) (hn : x ≠ "__name__" := by decide) (hdb : (x == ("__debug__" : Str)) = false := by decide)
    (he : starEach (e :: es) X.env = (false, eval e X.env) :: starEach es X.env := by rfl) (hpl : (backTo pos (starEach es X.env)).any (·.1) = false := by rfl) : PE X (.Call (.Name x p') (e :: es) [] pos) (rdE c (opN p fa)) :=
  PE.imp (pe_callTy hc hg hm hv ha hn hdb he hpl) fun _ _ _ q => opN_out hp q
theorem PRepAll.one {g : Ga} {F H : Hp} {vs : List V} {t : T} (h : PRepAll g F H vs [t]) : ∃ v, vs = [v] ∧ PRep g F H v t := by
  cases h with
  | cons a b => cases b; exact ⟨_, rfl, a⟩
theorem PRepAll.two {g : Ga} {F H : Hp} {vs : List V} {t u : T} (h : PRepAll g F H vs [t, u]) : ∃ v w, vs = [v, w] ∧ PRep g F H v t ∧ PRep g F H w u := by
  cases h with
  | cons a b =>
    obtain ⟨w, rfl, q⟩ := b.one
    exact ⟨_, w, rfl, a, q⟩
def lenN : List T → Option Slot
  | [.lst ts] => some (.sh (.int ts.length))
  | [.tup ts] => some (.sh (.int ts.length))
  | [.str x] => if x.length ≤ sz then some (.sh (.int x.length)) else none
  | _ => none
theorem p_len (hK : c.g.K = X.K) : OpN c (fun xs H Q => ∃ x n, xs = [x] ∧ LenV X.K x H n ∧ Q (.int n) H) lenN := by
  intro F S σ τ H xs ts z Q A hx hz k
  unfold lenN at hz
  split at hz
  · cases hz
    obtain ⟨v, rfl, h⟩ := hx.one
    obtain ⟨p, vs, rfl, h3, r⟩ := h.lst A.a.fh
    exact ⟨_, vs.length, rfl, .inl ⟨vs, .inl (.inl h3), rfl⟩, fin_sh A k (by rw [r.length]; exact .int _)⟩
  · cases hz
    obtain ⟨v, rfl, h⟩ := hx.one
    obtain ⟨p, vs, rfl, h3, r⟩ := h.tup A.a.fh
    exact ⟨_, vs.length, rfl, .inr ⟨vs, hK ▸ h3, rfl⟩, fin_sh A k (by rw [r.length]; exact .int _)⟩
  · split at hz
    · cases hz
      rename_i hl
      obtain ⟨v, rfl, h⟩ := hx.one
      rw [h.str]
      exact ⟨_, _, rfl, ⟨by rw [← sz_eq]; exact hl, rfl⟩, fin_sh A k (.int _)⟩
    · cases hz
  · cases hz
def absN : List T → Option Slot
  | [.int i] => some (.sh (.int (if i < 0 then -i else i)))
  | _ => none
theorem p_abs : OpN c (fun xs H Q => ∃ i, xs = [.int i] ∧ Q (.int (if i < 0 then -i else i)) H) absN := by
  intro F S σ τ H xs ts z Q A hx hz k
  unfold absN at hz
  split at hz
  · cases hz
    obtain ⟨v, rfl, h⟩ := hx.one
    rw [h.int]
    exact ⟨_, rfl, fin_sh A k (.int _)⟩
  · cases hz
def intN : List T → Option Slot
  | [.int i] => some (.sh (.int i))
  | [.bl k] => some (.sh (.int (if k then 1 else 0)))
  | _ => none
theorem p_int : OpN c (fun xs H Q => (∃ i, xs = [.int i] ∧ Q (.int i) H) ∨ ∃ k, xs = [.bl k] ∧ Q (.int (if k then 1 else 0)) H) intN := by
  intro F S σ τ H xs ts z Q A hx hz k
  unfold intN at hz
  split at hz
  · cases hz
    obtain ⟨v, rfl, h⟩ := hx.one
    rw [h.int]
    exact .inl ⟨_, rfl, fin_sh A k (.int _)⟩
  · cases hz
    obtain ⟨v, rfl, h⟩ := hx.one
    rw [h.bl]
    exact .inr ⟨_, rfl, fin_sh A k (.int _)⟩
  · cases hz
def listN : List T → Option Slot
  | [.lst ts] => some (.ow (.lst ts))
  | [.tup ts] => some (.ow (.lst ts))
  | _ => none
theorem p_list (hK : c.g.K = X.K) : OpN c (fun xs H Q => ∃ p ys, xs = [.ref p] ∧ (SqL X.K H p ys ∨ SqT X.K H p ys) ∧ ∀ l, H l = none → Q (.ref l) (upd H l (.lst ys))) listN := by
  intro F S σ τ H xs ts z Q A hx hz k
  unfold listN at hz
  split at hz
  · cases hz
    obtain ⟨v, rfl, h⟩ := hx.one
    obtain ⟨p, vs, rfl, h3, r⟩ := h.lst A.a.fh
    exact ⟨p, vs, rfl, .inl (.inl (.inl h3)), fun q np => fin_ow A k (.lst r) np⟩
  · cases hz
    obtain ⟨v, rfl, h⟩ := hx.one
    obtain ⟨p, vs, rfl, h3, r⟩ := h.tup A.a.fh
    exact ⟨p, vs, rfl, .inr (hK ▸ h3), fun q np => fin_ow A k (.lst r) np⟩
  · cases hz
def tupleN : List T → Option Slot
  | [.lst ts] => some (.sh (.tup ts))
  | [.tup ts] => some (.sh (.tup ts))
  | _ => none
theorem p_tuple (hK : c.g.K = X.K) : OpN c (fun xs H Q => ∃ p ys, xs = [.ref p] ∧ ((SqL X.K H p ys ∧ ∀ (l : Addr) (o : Obj), H l = none → o.dict = none → Q (.ref l) (upd H l (.frz o (.tup ys)))) ∨ (SqT X.K H p ys ∧ Q (.ref p) H))) tupleN := by
  intro F S σ τ H xs ts z Q A hx hz k
  unfold tupleN at hz
  split at hz
  · cases hz
    obtain ⟨v, rfl, h⟩ := hx.one
    obtain ⟨p, vs, rfl, h3, r⟩ := h.lst A.a.fh
    exact ⟨p, vs, rfl, .inl ⟨.inl (.inl h3), fun q o np hd => fin_tup A k r np hd⟩⟩
  · cases hz
    obtain ⟨v, rfl, h⟩ := hx.one
    obtain ⟨p, vs, rfl, h3, r⟩ := h.tup A.a.fh
    exact ⟨p, vs, rfl, .inr ⟨hK ▸ h3, fin_tupE A k h⟩⟩
  · cases hz
def intsT : List T → Option (List Int)
  | [] => some []
  | .int i :: ts => (intsT ts).map (i :: ·)
  | _ :: _ => none
theorem intsT_map : ∀ ns : List Int, intsT (ns.map T.int) = some ns
  | [] => rfl
  | n :: ns => by rw [List.map_cons, intsT, intsT_map ns]; rfl
theorem intsT_of : ∀ {ts : List T} {ns : List Int}, intsT ts = some ns → ts = ns.map T.int
  | [], _, h => by cases h; rfl
  | t :: ts, ns, h => by
    cases t <;> simp only [intsT] at h <;> first
      | cases h; done
      | (obtain ⟨ms, h1, h2⟩ := Option.map_eq_some_iff.mp h
         subst h2
         rw [List.map_cons, intsT_of h1])
def boolsT : List T → Option (List Bool)
  | [] => some []
  | .bl i :: ts => (boolsT ts).map (i :: ·)
  | _ :: _ => none
theorem boolsT_map : ∀ ns : List Bool, boolsT (ns.map T.bl) = some ns
  | [] => rfl
  | n :: ns => by rw [List.map_cons, boolsT, boolsT_map ns]; rfl
theorem boolsT_of : ∀ {ts : List T} {ns : List Bool}, boolsT ts = some ns → ts = ns.map T.bl
  | [], _, h => by cases h; rfl
  | t :: ts, ns, h => by
    cases t <;> simp only [boolsT] at h <;> first
      | cases h; done
      | (obtain ⟨ms, h1, h2⟩ := Option.map_eq_some_iff.mp h
         subst h2
         rw [List.map_cons, boolsT_of h1])
def onInts (f : List Int → Option Slot) : List T → Option Slot
  | [.lst ts] => (intsT ts).bind f
  | _ => none
def onBools (f : List Bool → Slot) : List T → Option Slot
  | [.lst ts] => (boolsT ts).map f
  | _ => none
abbrev sumN : List T → Option Slot := onInts fun ns => some (.sh (.int ns.sum))
abbrev allN : List T → Option Slot := onBools fun bs => .sh (.bl (bs.all id))
abbrev anyN : List T → Option Slot := onBools fun bs => .sh (.bl (bs.any id))
theorem onInts_of {F H : Hp} {S : Sta} {σ τ : List (Option V)} {xs : List V} {ts : List T} {f : List Int → Option Slot} {z : Slot} (A : AbsX c F S σ τ H) (hx : PRepAll c.g F H xs ts) (hz : onInts f ts = some z) : ∃ (a : Addr) (ns : List Int), xs = [V.ref a] ∧ H a = some (.lst (ns.map V.int)) ∧ f ns = some z := by
  unfold onInts at hz
  split at hz
  · obtain ⟨ns, h1, h2⟩ := Option.bind_eq_some_iff.mp hz
    have e := intsT_of h1
    subst e
    obtain ⟨v, rfl, h⟩ := hx.one
    obtain ⟨p, vs, rfl, h3, r⟩ := h.lst A.a.fh
    rw [r.ints] at h3
    exact ⟨p, ns, rfl, h3, h2⟩
  · cases hz
theorem onBools_of {F H : Hp} {S : Sta} {σ τ : List (Option V)} {xs : List V} {ts : List T} {f : List Bool → Slot} {z : Slot} (A : AbsX c F S σ τ H) (hx : PRepAll c.g F H xs ts) (hz : onBools f ts = some z) : ∃ (a : Addr) (ns : List Bool), xs = [V.ref a] ∧ H a = some (.lst (ns.map V.bl)) ∧ f ns = z := by
  unfold onBools at hz
  split at hz
  · obtain ⟨ns, h1, h2⟩ := Option.map_eq_some_iff.mp hz
    have e := boolsT_of h1
    subst e
    obtain ⟨v, rfl, h⟩ := hx.one
    obtain ⟨p, vs, rfl, h3, r⟩ := h.lst A.a.fh
    rw [r.bools] at h3
    exact ⟨p, ns, rfl, h3, h2⟩
  · cases hz
theorem p_sum {K : PySem.W.Frag} : OpN c (rSum K) sumN := by
  intro F S σ τ H xs ts z Q A hx hz k
  obtain ⟨a, ns, rfl, h, e⟩ := onInts_of A hx hz
  cases e
  exact ⟨a, ns, rfl, .inl (.inl h), fin_sh A k (.int _)⟩
theorem p_all {K : PySem.W.Frag} : OpN c (rAll K) allN := by
  intro F S σ τ H xs ts z Q A hx hz k
  obtain ⟨a, ns, rfl, h, e⟩ := onBools_of A hx hz
  subst e
  exact ⟨a, ns, rfl, .inl (.inl h), fin_sh A k (.bl _)⟩
theorem p_any {K : PySem.W.Frag} : OpN c (rAny K) anyN := by
  intro F S σ τ H xs ts z Q A hx hz k
  obtain ⟨a, ns, rfl, h, e⟩ := onBools_of A hx hz
  subst e
  exact ⟨a, ns, rfl, .inl (.inl h), fin_sh A k (.bl _)⟩
/-! greatest, least -/
def maxI (x : Int) (xs : List Int) : Int := xs.foldl (fun a y => if a < y then y else a) x
def minI (x : Int) (xs : List Int) : Int := xs.foldl (fun a y => if y < a then y else a) x
theorem maxI_spec : ∀ (xs : List Int) (x : Int), (maxI x xs = x ∨ maxI x xs ∈ xs) ∧ x ≤ maxI x xs ∧ ∀ y ∈ xs, y ≤ maxI x xs
  | [], x => ⟨.inl rfl, Int.le_refl _, fun _ h => nomatch h⟩
  | y :: ys, x => by
    obtain ⟨h1, h2, h3⟩ := maxI_spec ys (if x < y then y else x)
    have e : maxI x (y :: ys) = maxI (if x < y then y else x) ys := rfl
    rw [e]
    obtain ⟨w, hw⟩ : ∃ w, w = if x < y then y else x := ⟨_, rfl⟩
    rw [← hw] at h1 h2 h3 ⊢
    have hw2 : x ≤ w ∧ y ≤ w := by rw [hw]; split <;> omega
    refine ⟨?_, ?_, fun z hz => ?_⟩
    · rcases h1 with h1 | h1
      · rw [h1, hw]; split
        · exact .inr List.mem_cons_self
        · exact .inl rfl
      · exact .inr (List.mem_cons_of_mem _ h1)
    · omega
    · rcases List.mem_cons.mp hz with rfl | hz
      · omega
      · exact h3 z hz
theorem minI_spec : ∀ (xs : List Int) (x : Int), (minI x xs = x ∨ minI x xs ∈ xs) ∧ minI x xs ≤ x ∧ ∀ y ∈ xs, minI x xs ≤ y
  | [], x => ⟨.inl rfl, Int.le_refl _, fun _ h => nomatch h⟩
  | y :: ys, x => by
    obtain ⟨h1, h2, h3⟩ := minI_spec ys (if y < x then y else x)
    have e : minI x (y :: ys) = minI (if y < x then y else x) ys := rfl
    rw [e]
    obtain ⟨w, hw⟩ : ∃ w, w = if y < x then y else x := ⟨_, rfl⟩
    rw [← hw] at h1 h2 h3 ⊢
    have hw2 : w ≤ x ∧ w ≤ y := by rw [hw]; split <;> omega
    refine ⟨?_, ?_, fun z hz => ?_⟩
    · rcases h1 with h1 | h1
      · rw [h1, hw]; split
        · exact .inr List.mem_cons_self
        · exact .inl rfl
      · exact .inr (List.mem_cons_of_mem _ h1)
    · omega
    · rcases List.mem_cons.mp hz with rfl | hz
      · omega
      · exact h3 z hz
abbrev maxN : List T → Option Slot := onInts fun ns => match ns with
  | [] => none
  | x :: xs => some (.sh (.int (maxI x xs)))
abbrev minN : List T → Option Slot := onInts fun ns => match ns with
  | [] => none
  | x :: xs => some (.sh (.int (minI x xs)))
theorem p_max {K : PySem.W.Frag} : OpN c (rMax K) maxN := by
  intro F S σ τ H xs ts z Q A hx hz k
  obtain ⟨a, ns, rfl, h, e⟩ := onInts_of A hx hz
  cases ns with
  | nil => cases e
  | cons x xs =>
    cases e
    refine ⟨a, _, rfl, .inl (.inl h), by simp, fun m hm hb => ?_⟩
    obtain ⟨h1, h2, h3⟩ := maxI_spec xs x
    have hle : maxI x xs ≤ m := by
      rcases h1 with h1 | h1
      · rw [h1]; exact hb x List.mem_cons_self
      · exact hb _ (List.mem_cons_of_mem _ h1)
    have hge : m ≤ maxI x xs := by
      rcases List.mem_cons.mp hm with rfl | hm
      · exact h2
      · exact h3 m hm
    rw [show m = maxI x xs by omega]
    exact fin_sh A k (.int _)
theorem p_min {K : PySem.W.Frag} : OpN c (rMin K) minN := by
  intro F S σ τ H xs ts z Q A hx hz k
  obtain ⟨a, ns, rfl, h, e⟩ := onInts_of A hx hz
  cases ns with
  | nil => cases e
  | cons x xs =>
    cases e
    refine ⟨a, _, rfl, .inl (.inl h), by simp, fun m hm hb => ?_⟩
    obtain ⟨h1, h2, h3⟩ := minI_spec xs x
    have hle : m ≤ minI x xs := by
      rcases h1 with h1 | h1
      · rw [h1]; exact hb x List.mem_cons_self
      · exact hb _ (List.mem_cons_of_mem _ h1)
    have hge : minI x xs ≤ m := by
      rcases List.mem_cons.mp hm with rfl | hm
      · exact h2
      · exact h3 m hm
    rw [show m = minI x xs by omega]
    exact fin_sh A k (.int _)
def max2N : List T → Option Slot
  | [.int i, .int j] => some (.sh (.int (if j > i then j else i)))
  | _ => none
theorem p_max2 : OpN c (fun xs H Q => ∃ i j, xs = [.int i, .int j] ∧ Q (.int (if j > i then j else i)) H) max2N := by
  intro F S σ τ H xs ts z Q A hx hz k
  unfold max2N at hz
  split at hz
  · cases hz
    obtain ⟨v, w, rfl, h, h'⟩ := hx.two
    rw [h.int, h'.int]
    exact ⟨_, _, rfl, fin_sh A k (.int _)⟩
  · cases hz
def min2N : List T → Option Slot
  | [.int i, .int j] => some (.sh (.int (if j < i then j else i)))
  | _ => none
theorem p_min2 : OpN c (fun xs H Q => ∃ i j, xs = [.int i, .int j] ∧ Q (.int (if j < i then j else i)) H) min2N := by
  intro F S σ τ H xs ts z Q A hx hz k
  unfold min2N at hz
  split at hz
  · cases hz
    obtain ⟨v, w, rfl, h, h'⟩ := hx.two
    rw [h.int, h'.int]
    exact ⟨_, _, rfl, fin_sh A k (.int _)⟩
  · cases hz
def maxDfT (t u : T) : Option Slot := match t, u with
  | .lst ts, .int d => (intsT ts).map fun ns => match ns with
    | [] => .sh (.int d)
    | x :: xs => .sh (.int (maxI x xs))
  | _, _ => none
theorem maxOf_eq : ∀ (xs : List Int) (x : Int), PySem.W.maxOf x xs = maxI x xs
  | [], _ => rfl
  | y :: ys, x => by
    have h1 : PySem.W.maxOf x (y :: ys) = PySem.W.maxOf (if PySem.W.DatumOrd.lt x y = true then y else x) ys := rfl
    have h2 : maxI x (y :: ys) = maxI (if x < y then y else x) ys := rfl
    have h3 : (if PySem.W.DatumOrd.lt x y = true then y else x) = if x < y then y else x := by
      show (if decide (x < y) = true then y else x) = _
      simp
    rw [h1, h2, h3, maxOf_eq ys]
theorem de_maxDf {d : Expr} {p' kp : Pos} {fa fd : OF} (hc : X.calm = true) (hu : X.A.units + 10 < cLine) (hg : Gl X "max") (hm : X.mg "max" = none) (ha : PE X e (rdO c fa)) (hd : PE X d (rdO c fd))
    (he : starEach [e] X.env = (false, eval e X.env) :: starEach [] X.env := by rfl) : PE X (.Call (.Name "max" p') [e] [⟨some "default", d, kp⟩] pos) (rdE c (op2 maxDfT fa fd)) := by
  refine PE.imp (pe_maxDf (es := []) (x := "max") hc hu hg hm ha hd he) fun σ H Q q => op2_out (r := fun v w H2 Q => rMaxDf X.K [v] [w] H2 Q) ?_ q
  intro F S σ τ H x y t u z Q A hx hy hz k
  unfold maxDfT at hz
  split at hz
  · obtain ⟨ns, h1, h2⟩ := Option.map_eq_some_iff.mp hz
    have e := intsT_of h1
    subst e
    obtain ⟨p, vs, rfl, h3, r⟩ := hx.lst A.a.fh
    rw [r.ints] at h3
    rw [hy.int]
    refine ⟨p, ns, _, rfl, rfl, .inl (.inl h3), fun e => ?_, fun y ys e => ?_⟩
    · subst e; subst h2; exact fin_sh A k (.int _)
    · subst e; subst h2; rw [maxOf_eq]; exact fin_sh A k (.int _)
  · cases hz
/-! sorted -/
def insI (x : Int) : List Int → List Int
  | [] => [x]
  | y :: ys => if x ≤ y then x :: y :: ys else y :: insI x ys
def sortI : List Int → List Int
  | [] => []
  | x :: xs => insI x (sortI xs)
theorem insI_perm (x : Int) : ∀ ys, (insI x ys).Perm (x :: ys)
  | [] => List.Perm.refl _
  | y :: ys => by
    unfold insI
    split
    · exact List.Perm.refl _
    · exact ((insI_perm x ys).cons y).trans (List.Perm.swap x y ys)
theorem sortI_perm : ∀ xs, (sortI xs).Perm xs
  | [] => List.Perm.refl _
  | x :: xs => (insI_perm x (sortI xs)).trans ((sortI_perm xs).cons x)
theorem insI_pw (x : Int) : ∀ ys : List Int, ys.Pairwise (· ≤ ·) → (insI x ys).Pairwise (· ≤ ·)
  | [], _ => List.pairwise_singleton ..
  | y :: ys, h => by
    unfold insI
    split
    · rename_i hx
      refine List.Pairwise.cons (fun z hz => ?_) h
      rcases List.mem_cons.mp hz with rfl | hz
      · exact hx
      · exact Int.le_trans hx (List.rel_of_pairwise_cons h hz)
    · rename_i hx
      refine List.Pairwise.cons (fun z hz => ?_) (insI_pw x ys h.of_cons)
      rcases List.mem_cons.mp ((insI_perm x ys).subset hz) with rfl | hz
      · omega
      · exact List.rel_of_pairwise_cons h hz
theorem sortI_pw : ∀ xs : List Int, (sortI xs).Pairwise (· ≤ ·)
  | [] => List.Pairwise.nil
  | x :: xs => insI_pw x _ (sortI_pw xs)
def sortedN : List T → Option Slot
  | [.lst ts] => (intsT ts).map fun ns => .ow (.lst ((sortI ns).map T.int))
  | [.tup ts] => (intsT ts).map fun ns => .ow (.lst ((sortI ns).map T.int))
  | _ => none
theorem p_sorted (hK : c.g.K = X.K) : OpN c (rSortedA X.K) sortedN := by
  intro F S σ τ H xs ts z Q A hx hz k
  have fin : ∀ (ns ns' : List Int) (p : Addr), z = .ow (.lst ((sortI ns).map T.int)) → ns'.Perm ns → ns'.Pairwise (· ≤ ·) → H p = none → Q (.ref p) (upd H p (.lst (ns'.map V.int))) := fun ns ns' p e h1 h2 np => by
    subst e
    rw [PySem.W.os_sorted_one (h1.trans (sortI_perm ns).symm) h2 (sortI_pw ns)]
    exact fin_ow A k (.lst (RepAll.of_ints _)) np
  unfold sortedN at hz
  split at hz
  · obtain ⟨ns, h1, h2⟩ := Option.map_eq_some_iff.mp hz
    have e := intsT_of h1
    subst e
    obtain ⟨v, rfl, h⟩ := hx.one
    obtain ⟨p, vs, rfl, h3, r⟩ := h.lst A.a.fh
    rw [r.ints] at h3
    exact ⟨p, ns, rfl, .inl (.inl (.inl h3)), fun ns' p q1 q2 q3 => fin ns ns' p h2.symm q1 q2 q3⟩
  · obtain ⟨ns, h1, h2⟩ := Option.map_eq_some_iff.mp hz
    have e := intsT_of h1
    subst e
    obtain ⟨v, rfl, h⟩ := hx.one
    obtain ⟨p, vs, rfl, h3, r⟩ := h.tup A.a.fh
    rw [r.ints] at h3
    exact ⟨p, ns, rfl, .inr (hK ▸ h3), fun ns' p q1 q2 q3 => fin ns ns' p h2.symm q1 q2 q3⟩
  · cases hz
/-! isinstance -/
def tyN : T → Option String
  | .non => some "NoneType"
  | .bl _ => some "bool"
  | .int _ => some "int"
  | .str _ => some "str"
  | .lst _ => some "list"
  | .tup _ => some "tuple"
  | .dic _ => some "dict"
  | _ => none
def kitN (n : String) : List String → Option Bool
  | [] => some false
  | t :: ts => match kitB n t with
    | some true => some true
    | some false => kitN n ts
    | none => none
def isN (ts : List String) (t : T) : Option Slot := (tyN t).bind fun n => (kitN n ts).map fun b => .sh (.bl b)
theorem PRep.ty {g : Ga} {K : PySem.W.Frag} {F H : Hp} {v : V} {t : T} {n : String} (hK : g.K = K) (s : Same F H) (h : PRep g F H v t) (e : tyN t = some n) : TyX K H v (.type n) := by
  subst hK
  unfold tyN at e
  split at e <;> first
    | (cases e; rw [h.non]; exact .base .non)
    | (cases e; rw [h.bl]; exact .base (.bl _))
    | (cases e; rw [h.int]; exact .base (.int _))
    | (cases e; rw [h.str]; exact .base (.str _))
    | (cases e; obtain ⟨p, vs, rfl, h3, r⟩ := h.lst s; exact .base (.lst h3))
    | (cases e
       obtain ⟨p, vs, rfl, h3, r⟩ := h.tup s
       rcases h3 with (h3 | ⟨o, h3⟩) | ⟨o, its, n, h3, h4, _⟩
       · exact .base (.tup h3)
       · exact .fTuple h3
       · exact .kTuple h3 h4)
    | (cases e; obtain ⟨p, vs, rfl, h3, r⟩ := h.dic s; exact .base (.dK h3))
    | cases e
theorem kitN_any {K : PySem.W.Frag} {n : String} : ∀ {ts : List String} {b : Bool}, kitN n ts = some b → PySem.W.kitAny K (.type n) (ts.map Value.type) = some b
  | [], _, h => by cases h; exact kitAny_nil
  | t :: ts, b, h => by
    unfold kitN at h
    rw [List.map_cons]
    split at h
    · rename_i e
      cases h
      exact kitAny_cons (kit_ty e) (fun z => nomatch z) (fun _ => rfl)
    · rename_i e
      exact kitAny_cons (kit_ty e) (fun _ => kitN_any h) (fun z => nomatch z)
    · cases h
/-- isinstance(e, T) -/
theorem de_isi {t : Str} {n : String} {p' pt : Pos} {fa : OF} (hK : c.g.K = X.K) (hg : Gl X "isinstance") (hm : X.mg "isinstance" = none) (ha : PE X a (rdO c fa)) (gt : Gl X t) (mt : X.mg t = none) (bt : bootBuiltins t = some (.type n)) (nt : t ≠ "__name__" := by decide) (dt : (t == ("__debug__" : Str)) = false := by decide)
    (he : starEach [a, .Name t pt] X.env = (false, eval a X.env) :: starEach [.Name t pt] X.env := by rfl) (hpl : (backTo pos (starEach [.Name t pt] X.env)).any (·.1) = false := by rfl) : PE X (.Call (.Name "isinstance" p') [a, .Name t pt] [] pos) (rdE c (op1 (isN [n]) fa)) := by
  refine PE.imp (pe_callB call_isi hg hm (by decide +kernel) (pa_cons ha (pa_cons (pe_bltn (v := .ty n) gt mt bt rfl nt dt) pa_nil) he) (by decide) (by decide) he hpl) fun σ H Q q => op1_out (r := fun x H1 Q => rIsi X.K [x, .ty n] H1 Q) ?_ q
  intro F S σ τ H x t z Q A hx hz k
  obtain ⟨m, h1, h2⟩ := Option.bind_eq_some_iff.mp hz
  obtain ⟨b, h3, h4⟩ := Option.map_eq_some_iff.mp h2
  subst h4
  refine ⟨x, .ty n, .type m, .type n, b, rfl, .ty n, hx.ty hK A.a.fh h1, ?_, fin_sh A k (.bl _)⟩
  unfold kitN at h3
  split at h3
  · rename_i e; cases h3; exact kit_ty e
  · rename_i e; cases h3; exact kit_ty e
  · cases h3
/-- isinstance(e, (T, U)) -/
theorem de_isi2 {t u : Str} {n m : String} {p' pt pu pp : Pos} {kk : Nat} {fa : OF} (hK : c.g.K = X.K) (hg : Gl X "isinstance") (hm : X.mg "isinstance" = none) (ha : PE X a (rdO c fa)) (gt : Gl X t) (mt : X.mg t = none) (bt : bootBuiltins t = some (.type n)) (gu : Gl X u) (mu : X.mg u = none) (bu : bootBuiltins u = some (.type m))
    (nt : t ≠ "__name__" := by decide) (dt : (t == ("__debug__" : Str)) = false := by decide) (nu : u ≠ "__name__" := by decide) (du : (u == ("__debug__" : Str)) = false := by decide)
    (he : starEach [a, .Tuple [.Name t pt, .Name u pu] kk pp] X.env = (false, eval a X.env) :: starEach [.Tuple [.Name t pt, .Name u pu] kk pp] X.env := by rfl) (hpl : (backTo pos (starEach [.Tuple [.Name t pt, .Name u pu] kk pp] X.env)).any (·.1) = false := by rfl) :
    PE X (.Call (.Name "isinstance" p') [a, .Tuple [.Name t pt, .Name u pu] kk pp] [] pos) (rdE c (op1 (isN [n, m]) fa)) := by
  refine PE.imp (pe_callB call_isiT hg hm (by decide +kernel) (pa_cons ha (pa_cons (pe_tup (pa_cons (pe_bltn (v := .ty n) gt mt bt rfl nt dt) (pa_cons (pe_bltn (v := .ty m) gu mu bu rfl nu du) pa_nil))) pa_nil) he) (by decide) (by decide) he hpl)
    fun σ H Q q => op1_out (r := fun x H1 Q => 2 ≤ sizeLine ∧ ∀ p, H1 p = none → rIsiT X.K [x, .ref p] (upd H1 p (.tup [.ty n, .ty m])) Q) ?_ q
  intro F S σ τ H x t z Q A hx hz k
  obtain ⟨m', h1, h2⟩ := Option.bind_eq_some_iff.mp hz
  obtain ⟨b, h3, h4⟩ := Option.map_eq_some_iff.mp h2
  subst h4
  refine ⟨by rw [sizeLine_eq]; decide, fun p np => ?_⟩
  have st : Same H (upd H p (.tup [V.ty n, V.ty m])) := fun b w q => by rw [upd_ne (ne_of_none q np)]; exact q
  have A2 : AbsX c F S σ τ (upd H p (.tup [V.ty n, V.ty m])) := by
    obtain ⟨cc, n1, n2⟩ := A.a.nib
    refine ⟨⟨A.a.fh.trans st, A.a.fn, ⟨cc, st _ _ n1, n2⟩, fun a w q n0 n => st _ _ (A.a.keep a w q n0 n), A.a.fre, A.a.ext.st st, A.a.len, fun i s q h1 h2 => ?_, A.a.ds⟩, A.l⟩
    have h := A.a.sl i s q h1 h2
    cases s with
    | no => trivial
    | fu => exact h
    | sh t => exact h
    | ow t1 =>
      obtain ⟨a, e, ⟨w, hw, mk⟩, r⟩ := h
      exact ⟨a, e, ⟨w, st _ _ hw, mk⟩, r⟩
  have hx2 : PRep c.g F (upd H p (.tup [V.ty n, V.ty m])) x t := by
    rcases hx with hx | ⟨a, u, e, hu, mk⟩
    · exact .inl hx
    · exact .inr ⟨a, u, e, st _ _ hu, mk⟩
  exact ⟨x, p, [.ty n, .ty m], .type m', [.type n, .type m], b, rfl, upd_same, .cons (.ty n) (.cons (.ty m) .nil), hx2.ty hK A2.a.fh h1, kitN_any h3, fin_sh A2 k (.bl _)⟩
/-! list(range(..)) -/
def rgT (a b : Int) : List T := (List.range (b - a).toNat).map fun i => T.int (a + (i : Nat))
theorem rgT_rep {g : Ga} {F : Hp} (a b : Int) : RepAll g F (rgV a b) (rgT a b) := by
  unfold rgV rgT
  generalize List.range (b - a).toNat = l
  induction l with
  | nil => exact .nil
  | cons x xs ih => exact .cons (.int _) ih
def lrg1 : T → Option Slot
  | .int n => if -(2 ^ 62) ≤ n ∧ n ≤ 16777216 then some (.ow (.lst (rgT 0 n))) else none
  | _ => none
def lrg2 : T → T → Option Slot
  | .int a, .int b => if -(2 ^ 62) ≤ a ∧ a ≤ 2 ^ 61 ∧ -(2 ^ 62) ≤ b ∧ b ≤ 2 ^ 61 ∧ (b - a).toNat ≤ 16777216 then some (.ow (.lst (rgT a b))) else none
  | _, _ => none
def trg1 : T → Option Slot
  | .int n => if -(2 ^ 62) ≤ n ∧ n ≤ 16777216 then some (.sh (.tup (rgT 0 n))) else none
  | _ => none
theorem de_lrg1 {p1 p2 pos2 : Pos} {fa : OF} (hc : X.calm = true) (hg : Gl X "list") (hm : X.mg "list" = none) (hg2 : Gl X "range") (hm2 : X.mg "range" = none) (ha : PE X a (rdO c fa)) (na : starEach [a] X.env = (false, eval a X.env) :: starEach [] X.env := by rfl) :
    PE X (.Call (.Name "list" p1) [.Call (.Name "range" p2) [a] [] pos2] [] pos) (rdE c (op1 lrg1 fa)) := by
  refine PE.imp (pe_listRg hc hg hm (prg_1 hg2 hm2 ha na) rfl) fun σ H Q q => op1_out (r := fun x H1 Q => ∃ n, x = .int n ∧ RgOk 0 n ∧ ∀ q, H1 q = none → Q (.ref q) (upd H1 q (.lst (rgV 0 n)))) ?_ q
  intro F S σ τ H x t z Q A hx hz k
  unfold lrg1 at hz
  split at hz
  · split at hz
    · cases hz
      rename_i h
      rw [hx.int]
      exact ⟨_, rfl, ⟨by omega, by omega, by omega, by omega, by omega⟩, fun q np => fin_ow A k (.lst (rgT_rep 0 _)) np⟩
    · cases hz
  · cases hz
theorem de_trg1 {p1 p2 pos2 : Pos} {fa : OF} (hc : X.calm = true) (hg : Gl X "tuple") (hm : X.mg "tuple" = none) (hg2 : Gl X "range") (hm2 : X.mg "range" = none) (ha : PE X a (rdO c fa)) (na : starEach [a] X.env = (false, eval a X.env) :: starEach [] X.env := by rfl) :
    PE X (.Call (.Name "tuple" p1) [.Call (.Name "range" p2) [a] [] pos2] [] pos) (rdE c (op1 trg1 fa)) := by
  refine PE.imp (pe_tupRgF hc hg hm (prg_1 hg2 hm2 ha na) rfl) fun σ H Q q => op1_out (r := fun x H1 Q => ∃ n, x = .int n ∧ RgOk 0 n ∧ ∀ (q : Addr) (o : Obj), H1 q = none → o.dict = none → Q (.ref q) (upd H1 q (.frz o (.tup (rgV 0 n))))) ?_ q
  intro F S σ τ H x t z Q A hx hz k
  unfold trg1 at hz
  split at hz
  · split at hz
    · cases hz
      rename_i h
      rw [hx.int]
      exact ⟨_, rfl, ⟨by omega, by omega, by omega, by omega, by omega⟩, fun q o np hd => fin_tup A k (rgT_rep 0 _) np hd⟩
    · cases hz
  · cases hz
theorem de_lrg2 {p1 p2 pos2 : Pos} {fa fb : OF} (hc : X.calm = true) (hg : Gl X "list") (hm : X.mg "list" = none) (hg2 : Gl X "range") (hm2 : X.mg "range" = none) (ha : PE X a (rdO c fa)) (hb : PE X b (rdO c fb)) (na : starEach [a, b] X.env = (false, eval a X.env) :: starEach [b] X.env := by rfl) (nb : starEach [b] X.env = (false, eval b X.env) :: starEach [] X.env := by rfl) :
    PE X (.Call (.Name "list" p1) [.Call (.Name "range" p2) [a, b] [] pos2] [] pos) (rdE c (op2 lrg2 fa fb)) := by
  refine PE.imp (pe_listRg hc hg hm (prg_2 hg2 hm2 ha hb na nb (by rw [nb]; rfl)) rfl) fun σ H Q q => op2_out (r := fun x y H1 Q => ∃ i j, x = .int i ∧ y = .int j ∧ RgOk i j ∧ ∀ q, H1 q = none → Q (.ref q) (upd H1 q (.lst (rgV i j)))) ?_ q
  intro F S σ τ H x y t u z Q A hx hy hz k
  unfold lrg2 at hz
  split at hz
  · split at hz
    · cases hz
      rename_i h
      rw [hx.int, hy.int]
      exact ⟨_, _, rfl, rfl, ⟨by omega, by omega, by omega, by omega, by omega⟩, fun q np => fin_ow A k (.lst (rgT_rep _ _)) np⟩
    · cases hz
  · cases hz
end
end TL

end
section
set_option Elab.async false
set_option linter.all false
set_option maxRecDepth 100000
set_option autoImplicit false
/-! TL7: what is walked, targets, comprehensions -/
open PySem PySem.Spec PyProof.Rows L2
namespace TL
structure IterOk (c : Cfg) (J : It) (F : Hp) (ts : List T) : Prop where
  stop : ∀ H, Same F H → J.stop ts.length H
  go : ∀ i H, i < ts.length → Same F H → J.go i H
  yld : ∀ (i : Nat) (x : V) (H H' F' : Hp) (S : Sta) (σ τ : List (Option V)), i < ts.length → Same F F' → AbsX c F' S σ τ H → J.yld i H x H' → ∃ t F'', ts[i]? = some t ∧ Same F' F'' ∧ AbsX c F'' (S.push (.sh t)) σ (τ ++ [some x]) H'
abbrev IF := Sta → R (List T)
def iP (c : Cfg) (σ τ : List (Option V)) (Q : It → Hp → Prop) : List T → Sta → Hp → Hp → Prop := fun ts S F' H' => ∀ J, AbsX c F' S σ τ H' → IterOk c J F' ts → Q J H'
def rdI (c : Cfg) (f : IF) : TI := fun σ H Q => ∃ τ F S, AbsX c F S σ τ H ∧ rOut c F σ τ (iP c σ τ Q) (f S)
theorem PI.imp {X : Cx} {tg e : Expr} {t t' : TI} (h : PI X tg e t) (w : ∀ σ H Q, t' σ H Q → t σ H Q) : PI X tg e t' := ⟨fun pins s σ H Q I q => h.run pins s σ H Q I (w σ H Q q)⟩
section
variable {X : Cx} {tg : Expr}
def iSeq (K : PySem.W.Frag) (tl : TE) : TI := fun σ H R => tl σ H fun x H1 => (∃ a, x = .ref a ∧ (∃ xs, SqL K H1 a xs) ∧ R (Itl K a) H1) ∨ (∃ a, x = .ref a ∧ (∃ xs, SqT K H1 a xs) ∧ R (Itt K a) H1)
theorem pi_seq {l : Expr} {tl : TE} (hl : PE X l tl) : PI X tg l (iSeq X.K tl) := by
  refine ⟨fun pins s σ H R I h => ?_⟩
  refine thn (hl.run pins s σ H _ I h) fun v s1 ⟨x, H1, I1, r1, q1⟩ => ?_
  rcases q1 with ⟨a, e, ⟨xs, hq⟩, q⟩ | ⟨a, e, ⟨xs, hq⟩, q⟩
  · subst e
    cases r1
    obtain ⟨its, rv, p, hz⟩ := I1.list hq
    refine wpAny_pyIter_list p.isList ?_
    refine ⟨s1.heap.objs.size, [s1.heap.objs.size], _, _, H1, rfl, I1.kept (t' := s1.toks) fun b o e => Heap.get?_push_of_some _ e, turn_list a _, ⟨_, Heap.get?_push_size _ rfl, rfl, rfl⟩, fun b hb => ?_, q⟩
    have e : b = s1.heap.objs.size := by simpa using hb
    subst e
    exact I1.fpOk (Nat.le_refl _) (I1.hok.fresh (Nat.le_refl _))
  · subst e
    cases r1
    obtain ⟨its, rv, p, hz⟩ := I1.tuple hq
    refine wpAny_pyIter_tuple (show s1.heap.IsTuple a its.toArray from p) ?_
    refine ⟨s1.heap.objs.size, [s1.heap.objs.size], _, _, H1, rfl, I1.kept (t' := s1.toks) fun b o e => Heap.get?_push_of_some _ e, turn_tuple a _, ⟨_, Heap.get?_push_size _ rfl, rfl, rfl⟩, fun b hb => ?_, q⟩
    have e : b = s1.heap.objs.size := by simpa using hb
    subst e
    exact I1.fpOk (Nat.le_refl _) (I1.hok.fresh (Nat.le_refl _))
end
def seqI (fa : OF) : IF := fun S => (fa S).bind fun o S1 => match o with
  | .val (.lst ts) => .ok ts S1
  | .val (.tup ts) => .ok ts S1
  | _ => .stuck
def enumT (i : Nat) : List T → List T
  | [] => []
  | t :: ts => .wtp [.int i, t] :: enumT (i + 1) ts
def enumI (fa : OF) : IF := fun S => (fa S).bind fun o S1 => match o with
  | .val (.lst ts) => .ok (enumT 0 ts) S1
  | .val (.tup ts) => .ok (enumT 0 ts) S1
  | _ => .stuck
def zipT : List T → List T → List T
  | t :: ts, u :: us => .wtp [t, u] :: zipT ts us
  | _, _ => []
def zipI (fa fb : OF) : IF := fun S => (fa S).bind fun o S1 => (fb S1).bind fun o' S2 => match o, o' with
  | .val (.lst ts), .val (.lst us) => .ok (zipT ts us) S2
  | .val (.tup ts), .val (.tup us) => .ok (zipT ts us) S2
  | _, _ => .stuck
def rngI1 (fa : OF) : IF := fun S => (fa S).bind fun o S1 => match o with
  | .val (.int n) => if -(2 ^ 62) ≤ n ∧ n < 2 ^ 62 then .ok (rgT 0 n) S1 else .stuck
  | _ => .stuck
def rngI2 (fa fb : OF) : IF := fun S => (fa S).bind fun o S1 => (fb S1).bind fun o' S2 => match o, o' with
  | .val (.int a), .val (.int b) => if -(2 ^ 62) ≤ a ∧ a < 2 ^ 62 ∧ -(2 ^ 62) ≤ b ∧ b < 2 ^ 62 then .ok (rgT a b) S2 else .stuck
  | _, _ => .stuck
theorem rgT_length (a b : Int) : (rgT a b).length = (b - a).toNat := by unfold rgT; rw [List.length_map, List.length_range]
theorem rgT_get {a b : Int} {i : Nat} (h : i < (b - a).toNat) : (rgT a b)[i]? = some (.int (a + (i : Nat))) := by
  unfold rgT
  rw [List.getElem?_map, List.getElem?_range h]
  rfl
theorem enumT_length : ∀ (ts : List T) (i : Nat), (enumT i ts).length = ts.length
  | [], _ => rfl
  | _ :: ts, i => by unfold enumT; rw [List.length_cons, List.length_cons, enumT_length ts]
theorem enumT_get : ∀ (ts : List T) (i j : Nat) (t : T), ts[j]? = some t → (enumT i ts)[j]? = some (.wtp [.int ((i + j : Nat) : Int), t])
  | [], _, _, _, h => by simp at h
  | _ :: ts, i, 0, t, h => by simp at h; subst h; rfl
  | _ :: ts, i, j + 1, t, h => by
    have h1 := enumT_get ts (i + 1) j t (by simpa using h)
    unfold enumT
    rw [List.getElem?_cons_succ, h1, show i + 1 + j = i + (j + 1) by omega]
theorem zipT_length : ∀ (ts us : List T), (zipT ts us).length = min ts.length us.length
  | [], us => by cases us <;> simp [zipT]
  | _ :: _, [] => by simp [zipT]
  | _ :: ts, _ :: us => by simp only [zipT, List.length_cons, zipT_length ts us]; omega
theorem zipT_get : ∀ (ts us : List T) (j : Nat) (t u : T), ts[j]? = some t → us[j]? = some u → (zipT ts us)[j]? = some (.wtp [t, u])
  | [], _, _, _, _, h, _ => by simp at h
  | _ :: _, [], _, _, _, _, h => by simp at h
  | _ :: ts, _ :: us, 0, t, u, h, h' => by simp at h h'; subst h h'; rfl
  | _ :: ts, _ :: us, j + 1, t, u, h, h' => by
    have := zipT_get ts us j t u (by simpa using h) (by simpa using h')
    unfold zipT
    rw [List.getElem?_cons_succ, this]
section
variable {X : Cx} {c : Cfg} {tg e a b : Expr} {pos : Pos} {F : Hp} {ad bd : Addr} {vs ws : List V} {ts us : List T}
theorem it_list (e : F ad = some (.lst vs)) (r : RepAll c.g F vs ts) : IterOk c (Itl X.K ad) F ts where
  stop := fun H s => ⟨vs, .inl (.inl (s _ _ e)), by rw [r.length]; exact Nat.le_refl _⟩
  go := fun i H hi s => ⟨vs, vs[i]'(by rw [r.length]; exact hi), .inl (.inl (s _ _ e)), by simp⟩
  yld := fun i x H H' F' S σ τ hi s A y => by
    obtain ⟨rfl, y⟩ := y
    obtain ⟨t, h1, h2⟩ := r.getV (y vs (.inl (.inl (A.a.fh _ _ (s _ _ e)))))
    exact ⟨t, F', h1, Same.refl _, A.pushSh (h2.mono s)⟩
theorem it_tup (e : SqT X.K F ad vs) (r : RepAll c.g F vs ts) : IterOk c (Itt X.K ad) F ts where
  stop := fun H s => ⟨vs, sameSqT s e, by rw [r.length]; exact Nat.le_refl _⟩
  go := fun i H hi s => ⟨vs, vs[i]'(by rw [r.length]; exact hi), sameSqT s e, by simp⟩
  yld := fun i x H H' F' S σ τ hi s A y => by
    obtain ⟨rfl, y⟩ := y
    obtain ⟨t, h1, h2⟩ := r.getV (y vs (sameSqT (s.trans A.a.fh) e))
    exact ⟨t, F', h1, Same.refl _, A.pushSh (h2.mono s)⟩
theorem it_rng {lo hi : Int} : IterOk c (Itr lo (hi - lo).toNat) F (rgT lo hi) where
  stop := fun H s => by rw [rgT_length]; exact Nat.le_refl _
  go := fun i H h s => by rw [rgT_length] at h; exact h
  yld := fun i x H H' F' S σ τ h s A y => by
    rw [rgT_length] at h
    obtain ⟨rfl, rfl⟩ := y
    exact ⟨_, F', rgT_get h, Same.refl _, A.pushSh (.int _)⟩
theorem pair_new {F' H : Hp} {S : Sta} {σ τ : List (Option V)} {p : Addr} {v w : V} {t u : T} (A : AbsX c F' S σ τ H) (np : H p = none) (r : Rep c.g F' v t) (q : Rep c.g F' w u) : ∃ F'', Same F' F'' ∧ AbsX c F'' (S.push (.sh (.wtp [t, u]))) σ (τ ++ [some (.ref p)]) (upd H p (.tup [v, w])) :=
  A.newWtp (.cons r (.cons q .nil)) np
theorem it_enumL (e : F ad = some (.lst vs)) (r : RepAll c.g F vs ts) : IterOk c (Ite X.K ad) F (enumT 0 ts) where
  stop := fun H s => ⟨vs, .inl (.inl (s _ _ e)), by rw [enumT_length, r.length]; exact Nat.le_refl _⟩
  go := fun i H hi s => by
    rw [enumT_length] at hi
    exact ⟨vs, vs[i]'(by rw [r.length]; exact hi), .inl (.inl (s _ _ e)), by simp⟩
  yld := fun i x H H' F' S σ τ hi s A y => by
    obtain ⟨T, v, rfl, np, rfl, y⟩ := y
    obtain ⟨t, h1, h2⟩ := r.getV (y vs (.inl (.inl (A.a.fh _ _ (s _ _ e)))))
    obtain ⟨F'', s', A'⟩ := pair_new A np (.int (i : Nat)) (h2.mono s)
    exact ⟨_, F'', by have := enumT_get ts 0 i t h1; rw [Nat.zero_add] at this; exact this, s', A'⟩
theorem it_enumT (e : SqT X.K F ad vs) (r : RepAll c.g F vs ts) : IterOk c (IteT X.K ad) F (enumT 0 ts) where
  stop := fun H s => ⟨vs, sameSqT s e, by rw [enumT_length, r.length]⟩
  go := fun i H hi s => by
    rw [enumT_length] at hi
    exact ⟨vs, vs[i]'(by rw [r.length]; exact hi), sameSqT s e, by simp⟩
  yld := fun i x H H' F' S σ τ hi s A y => by
    obtain ⟨T, v, rfl, np, rfl, y⟩ := y
    obtain ⟨t, h1, h2⟩ := r.getV (y vs (sameSqT (s.trans A.a.fh) e))
    obtain ⟨F'', s', A'⟩ := pair_new A np (.int (i : Nat)) (h2.mono s)
    exact ⟨_, F'', by have := enumT_get ts 0 i t h1; rw [Nat.zero_add] at this; exact this, s', A'⟩
theorem it_zipL (e : F ad = some (.lst vs)) (r : RepAll c.g F vs ts) (e2 : F bd = some (.lst ws)) (r2 : RepAll c.g F ws us) : IterOk c (Itz X.K ad bd) F (zipT ts us) where
  stop := fun H s => ⟨vs, ws, .inl (.inl (s _ _ e)), .inl (.inl (s _ _ e2)), by rw [zipT_length, r.length, r2.length]; omega⟩
  go := fun i H hi s => by
    rw [zipT_length] at hi
    exact ⟨vs, ws, vs[i]'(by rw [r.length]; omega), ws[i]'(by rw [r2.length]; omega), .inl (.inl (s _ _ e)), .inl (.inl (s _ _ e2)), by simp, by simp⟩
  yld := fun i x H H' F' S σ τ hi s A y => by
    obtain ⟨T, v, w, rfl, np, rfl, y, y2⟩ := y
    obtain ⟨t, h1, h2⟩ := r.getV (y vs (.inl (.inl (A.a.fh _ _ (s _ _ e)))))
    obtain ⟨u, h3, h4⟩ := r2.getV (y2 ws (.inl (.inl (A.a.fh _ _ (s _ _ e2)))))
    obtain ⟨F'', s', A'⟩ := pair_new A np (h2.mono s) (h4.mono s)
    exact ⟨_, F'', zipT_get ts us i t u h1 h3, s', A'⟩
theorem it_zipT (e : SqT X.K F ad vs) (r : RepAll c.g F vs ts) (e2 : SqT X.K F bd ws) (r2 : RepAll c.g F ws us) : IterOk c (RZ.ItzT X.K ad bd) F (zipT ts us) where
  stop := fun H s => ⟨vs, ws, sameSqT s e, sameSqT s e2, by rw [zipT_length, r.length, r2.length]; omega⟩
  go := fun i H hi s => by
    rw [zipT_length] at hi
    exact ⟨vs, ws, vs[i]'(by rw [r.length]; omega), ws[i]'(by rw [r2.length]; omega), sameSqT s e, sameSqT s e2, by simp, by simp⟩
  yld := fun i x H H' F' S σ τ hi s A y => by
    obtain ⟨T, v, w, rfl, np, rfl, y, y2⟩ := y
    obtain ⟨t, h1, h2⟩ := r.getV (y vs (sameSqT (s.trans A.a.fh) e))
    obtain ⟨u, h3, h4⟩ := r2.getV (y2 ws (sameSqT (s.trans A.a.fh) e2))
    obtain ⟨F'', s', A'⟩ := pair_new A np (h2.mono s) (h4.mono s)
    exact ⟨_, F'', zipT_get ts us i t u h1 h3, s', A'⟩
theorem di_seq {fa : OF} (hK : c.g.K = X.K) (ha : PE X a (rdO c fa)) : PI X tg a (rdI c (seqI fa)) := by
  refine PI.imp (pi_seq ha) fun σ H Q q => ?_
  obtain ⟨τ, F, S, A, q⟩ := q
  refine ⟨τ, F, S, A, rOut.bind q fun o S1 F1 H1 s1 q1 v A1 r1 => ?_⟩
  split at q1
  · cases r1 with
    | lst e r => exact .inl ⟨_, rfl, ⟨_, .inl (.inl (A1.a.fh _ _ e))⟩, q1 H1 F1 (Same.refl F1) _ A1 (it_list e r)⟩
  · cases r1 with
    | tup e r => exact .inr ⟨_, rfl, ⟨_, hK ▸ sameSqT A1.a.fh e.sq⟩, q1 H1 F1 (Same.refl F1) _ A1 (it_tup (hK ▸ e.sq) r)⟩
  · exact q1.elim
theorem di_enum {elts : List Expr} {kk : Nat} {tpos p : Pos} {fa : OF} (hK : c.g.K = X.K) (hg : Gl X "enumerate") (hm : X.mg "enumerate" = none) (ha : PE X a (rdO c fa)) (hs : starEach [a] X.env = [(false, eval a X.env)] := by rfl) :
    PI X (.Tuple elts kk tpos) (.Call (.Name "enumerate" p) [a] [] pos) (rdI c (enumI fa)) := by
  refine PI.imp (pi_enumA hg hm (pa_cons ha pa_nil hs) hs) fun σ H Q q => ?_
  obtain ⟨τ, F, S, A, q⟩ := q
  refine ⟨τ, F, S, A, rOut.bind q fun o S1 F1 H1 s1 q1 v A1 r1 => ?_⟩
  split at q1
  · cases r1 with
    | lst e r => exact ⟨_, _, rfl, .inl ⟨.inl (.inl (A1.a.fh _ _ e)), q1 H1 F1 (Same.refl F1) _ A1 (it_enumL e r)⟩⟩
  · cases r1 with
    | tup e r => exact ⟨_, _, rfl, .inr ⟨hK ▸ sameSqT A1.a.fh e.sq, q1 H1 F1 (Same.refl F1) _ A1 (it_enumT (hK ▸ e.sq) r)⟩⟩
  · exact q1.elim
theorem di_zip {elts : List Expr} {kk : Nat} {tpos p : Pos} {fa fb : OF} (hK : c.g.K = X.K) (hg : Gl X "zip") (hm : X.mg "zip" = none) (ha : PE X a (rdO c fa)) (hb : PE X b (rdO c fb)) (hs : starEach [a, b] X.env = [(false, eval a X.env), (false, eval b X.env)] := by rfl) (hs2 : starEach [b] X.env = [(false, eval b X.env)] := by rfl) :
    PI X (.Tuple elts kk tpos) (.Call (.Name "zip" p) [a, b] [] pos) (rdI c (zipI fa fb)) := by
  refine PI.imp (RZ.pi_zipA hg hm (pa_cons ha (pa_cons hb pa_nil hs2) (by rw [hs, hs2])) (by rw [hs, hs2]) (by rw [hs2]; rfl)) fun σ H Q q => ?_
  obtain ⟨τ, F, S, A, q⟩ := q
  refine ⟨τ, F, S, A, rOut.bind q fun o S1 F1 H1 s1 q1 v A1 r1 => ⟨τ, F1, S1, A1, rOut.bind q1 fun o2 S2 F2 H2 s2 q2 w A2 r2 => ?_⟩⟩
  have r1' := r1.mono s2
  split at q2
  · cases r1' with
    | lst e r =>
      cases r2 with
      | lst e2 r2 => exact ⟨_, _, _, _, rfl, .inl ⟨.inl (.inl (A2.a.fh _ _ e)), .inl (.inl (A2.a.fh _ _ e2)), q2 H2 F2 (Same.refl F2) _ A2 (it_zipL e r e2 r2)⟩⟩
  · cases r1' with
    | tup e r =>
      cases r2 with
      | tup e2 r2 => exact ⟨_, _, _, _, rfl, .inr ⟨hK ▸ sameSqT A2.a.fh e.sq, hK ▸ sameSqT A2.a.fh e2.sq, q2 H2 F2 (Same.refl F2) _ A2 (it_zipT (hK ▸ e.sq) r (hK ▸ e2.sq) r2)⟩⟩
  · exact q2.elim
theorem di_rng1 {p : Pos} {fa : OF} (hg : Gl X "range") (hm : X.mg "range" = none) (ha : PE X a (rdO c fa)) (hs : starEach [a] X.env = [(false, eval a X.env)] := by rfl) : PI X tg (.Call (.Name "range" p) [a] [] pos) (rdI c (rngI1 fa)) := by
  refine PI.imp (pi_range1 hg hm (pa_cons ha pa_nil hs) hs) fun σ H Q q => ?_
  obtain ⟨τ, F, S, A, q⟩ := q
  refine ⟨τ, F, S, A, rOut.bind q fun o S1 F1 H1 s1 q1 v A1 r1 => ?_⟩
  split at q1
  · cases r1
    split at q1
    · rename_i h
      refine ⟨_, rfl, h.1, h.2, ?_⟩
      have := q1 H1 F1 (Same.refl F1) _ A1 it_rng
      rw [Int.sub_zero] at this
      exact this
    · exact q1.elim
  · exact q1.elim
theorem di_rng2 {p : Pos} {fa fb : OF} (hg : Gl X "range") (hm : X.mg "range" = none) (ha : PE X a (rdO c fa)) (hb : PE X b (rdO c fb)) (hs : starEach [a, b] X.env = [(false, eval a X.env), (false, eval b X.env)] := by rfl) (hs2 : starEach [b] X.env = [(false, eval b X.env)] := by rfl) : PI X tg (.Call (.Name "range" p) [a, b] [] pos) (rdI c (rngI2 fa fb)) := by
  refine PI.imp (pi_range2 hg hm (pa_cons ha (pa_cons hb pa_nil hs2) (by rw [hs, hs2])) hs hs2) fun σ H Q q => ?_
  obtain ⟨τ, F, S, A, q⟩ := q
  refine ⟨τ, F, S, A, rOut.bind q fun o S1 F1 H1 s1 q1 v A1 r1 => ⟨τ, F1, S1, A1, rOut.bind q1 fun o2 S2 F2 H2 s2 q2 w A2 r2 => ?_⟩⟩
  have r1' := r1.mono s2
  split at q2
  · cases r1'
    cases r2
    split at q2
    · rename_i h
      exact ⟨_, _, rfl, h, q2 H2 F2 (Same.refl F2) _ A2 it_rng⟩
    · exact q2.elim
  · exact q2.elim
end

/-! ### targets -/
inductive Tg where
  | nm (i : Nat) | tp (l : List Nat)
def Tg.slots : Tg → List Nat
  | .nm i => [i]
  | .tp l => l
def putAll : List Nat → List T → Sta → Option Sta
  | [], [], S => some S
  | i :: l, t :: ts, S => if i < S.lo.length then putAll l ts (S.put i (.sh t)) else none
  | _, _, _ => none
def Tg.put (g : Tg) (t : T) (S : Sta) : Option Sta := match g with
  | .nm i => if i < S.lo.length then some (S.put i (.sh t)) else none
  | .tp l => match t with
    | .tup ts => putAll l ts S
    | .wtp ts => putAll l ts S
    | .lst ts => putAll l ts S
    | _ => none
def rdG (c : Cfg) (g : Tg) : TG := fun v σ H Q => ∃ τ F S t S', AbsX c F (S.push (.sh t)) σ (τ ++ [some v]) H ∧ g.put t S = some S' ∧ ∀ σ', AbsX c F S' σ' τ H → (∀ j, j ∉ g.slots → σ'[j]? = σ[j]?) → Q σ' H
section
variable {X : Cx} {c : Cfg} {pos : Pos}
theorem PG.imp {e : Expr} {t t' : TG} (h : PG X e t) (w : ∀ v σ H Q, t' v σ H Q → t v σ H Q) : PG X e t' := ⟨fun pins s σ H v u Q I r q => h.run pins s σ H v u Q I r (w v σ H Q q)⟩
theorem dg_nm {i : Nat} {x : Str} (h : PG X (.Name x pos) (gName i)) : PG X (.Name x pos) (rdG c (.nm i)) := by
  refine PG.imp h fun v σ H Q q => ?_
  obtain ⟨τ, F, S, t, S', A, e, q⟩ := q
  unfold Tg.put at e
  dsimp only at e
  split at e
  · rename_i hi
    cases e
    have hl : S.lo.length = σ.length := A.l
    exact q _ (A.assign (by rw [← hl]; exact hi)) fun j hj => by
      rw [List.getElem?_set_ne]
      intro z; subst z; exact hj (by simp [Tg.slots])
  · cases e
def gAll : List Nat → TGs
  | [] => gNil
  | i :: l => gCons (gName i) (gAll l)
theorem gAll_ok {τ : List (Option V)} {F H : Hp} : ∀ (l : List Nat) (ts : List T) (vs : List V) (S S' : Sta) (σ : List (Option V)) (Q : L2.St → Hp → Prop), AbsX c F S σ τ H → RepAll c.g F vs ts → putAll l ts S = some S' → (∀ σ', AbsX c F S' σ' τ H → (∀ j, j ∉ l → σ'[j]? = σ[j]?) → Q σ' H) → gAll l vs σ H Q
  | [], [], _, S, S', σ, Q, A, r, e, q => by
    cases r
    cases e
    exact ⟨rfl, q σ A fun _ _ => rfl⟩
  | i :: l, t :: ts, _, S, S', σ, Q, A, r, e, q => by
    cases r with
    | cons r1 r2 =>
      unfold putAll at e
      split at e
      · rename_i hi
        refine ⟨_, _, rfl, ?_⟩
        refine gAll_ok l ts _ _ S' _ Q ((A.pushSh r1).assign (by rw [← A.l]; exact hi)) r2 e fun σ' A' h => q σ' A' fun j hj => ?_
        rw [h j (fun z => hj (List.mem_cons_of_mem _ z)), List.getElem?_set_ne]
        intro z; subst z; exact hj List.mem_cons_self
      · cases e
  | [], _ :: _, _, _, _, _, _, _, _, e, _ => by cases e
  | _ :: _, [], _, _, _, _, _, _, _, e, _ => by cases e
def gSq (K : PySem.W.Frag) (n : Nat) (t : TGs) : TG := fun v σ H Q => ∃ a xs, v = .ref a ∧ (SqT K H a xs ∨ SqL K H a xs) ∧ xs.length = n ∧ t xs σ H Q
theorem pg_sq {es : List Expr} {k : Nat} {t : TGs} {n : Nat} (h1 : PG X (.Tuple es k pos) (gTup X.K n t)) (h2 : PG X (.Tuple es k pos) (gUnl X.K n t)) : PG X (.Tuple es k pos) (gSq X.K n t) := by
  refine ⟨fun pins s σ H v u Q I r q => ?_⟩
  obtain ⟨a, xs, e, hs, hl, q⟩ := q
  rcases hs with hs | hs
  · exact h1.run pins s σ H v u Q I r ⟨a, xs, e, hs, hl, q⟩
  · exact h2.run pins s σ H v u Q I r ⟨a, xs, e, hs, hl, q⟩
theorem putAll_len : ∀ {l : List Nat} {ts : List T} {S S' : Sta}, putAll l ts S = some S' → ts.length = l.length
  | [], [], _, _, _ => rfl
  | _ :: _, _ :: _, _, _, e => by
    unfold putAll at e
    split at e
    · rw [List.length_cons, List.length_cons, putAll_len e]
    · cases e
  | [], _ :: _, _, _, e => by cases e
  | _ :: _, [], _, _, e => by cases e
theorem dg_tp {es : List Expr} {k : Nat} {l : List Nat} (hK : c.g.K = X.K) (h1 : PG X (.Tuple es k pos) (gTup X.K l.length (gAll l))) (h2 : PG X (.Tuple es k pos) (gUnl X.K l.length (gAll l))) : PG X (.Tuple es k pos) (rdG c (.tp l)) := by
  refine PG.imp (pg_sq h1 h2) fun v σ H Q q => ?_
  obtain ⟨τ, F, S, t, S', A, e, q⟩ := q
  unfold Tg.put at e
  dsimp only at e
  split at e
  · have r := A.topSh
    cases r with
    | tup h a => exact ⟨_, _, rfl, .inl (hK ▸ sameSqT A.a.fh h.sq), by rw [a.length, putAll_len e], gAll_ok l _ _ S S' σ Q A.pop a e q⟩
  · have r := A.topSh
    cases r with
    | wtp h a => exact ⟨_, _, rfl, .inl (hK ▸ sameSqT A.a.fh h), by rw [a.length, putAll_len e], gAll_ok l _ _ S S' σ Q A.pop a e q⟩
  · have r := A.topSh
    cases r with
    | lst h a => exact ⟨_, _, rfl, .inr (.inl (.inl (A.a.fh _ _ h))), by rw [a.length, putAll_len e], gAll_ok l _ _ S S' σ Q A.pop a e q⟩
  · cases e
end

/-! ### comprehensions -/
def Sta.popG (S : Sta) : Option (Slot × Sta) := match S.gh.getLast? with
  | some x => some (x, { S with gh := S.gh.dropLast })
  | none => none
theorem Sta.popG_some {S S' : Sta} {x : Slot} (h : S.popG = some (x, S')) : S = S'.push x := by
  unfold Sta.popG at h
  split at h
  · rename_i y e
    cases h
    have h2 := List.dropLast_concat_getLast (l := S.gh) (by intro z; rw [z] at e; cases e)
    have e2 : S.gh.getLast (by intro z; rw [z] at e; cases e) = x := by
      rw [List.getLast?_eq_some_getLast (by intro z; rw [z] at e; cases e)] at e
      exact Option.some.inj e
    rw [e2] at h2
    cases S
    simp only [Sta.push, Sta.mk.injEq, true_and, and_true]
    exact h2.symm
  · cases h
@[simp] theorem Sta.popG_push (S : Sta) (x : Slot) : (S.push x).popG = some (x, S) := by
  unfold Sta.popG Sta.push
  simp
/-- the slots of a comprehension's own names forgotten -/
def noes (l : List Slot) : List Nat → List Slot
  | [] => l
  | i :: is => (noes l is).set i .no
def Sta.wipe (S : Sta) (own : List Nat) : Sta := { S with lo := noes S.lo own }
def Slot.free : Option Slot → Bool
  | some (.ow _) => false
  | _ => true
def backs (l l0 : List Slot) : List Nat → List Slot
  | [] => l
  | i :: is => (backs l l0 is).set i (l0.getD i .no)
def Sta.back (S S0 : Sta) (own : List Nat) : Sta := { S with lo := backs S.lo S0.lo own }
def compL (own : List Nat) (tg : Tg) (tt : TF) (te : EF) : List T → Sta → R Unit
  | [], S => .ok () S
  | t :: ts, S => match tg.put t S with
    | none => .stuck
    | some S1 => (tt S1).bind fun b S2 => if b = true then (te S2).bind fun x S3 => match x.tree with
        | none => .stuck
        | some y => match S3.popG with
          | some (.ow (.lst acc), S4) => if acc.length < sz then compL own tg tt te ts ((S4.wipe own).push (.ow (.lst (acc ++ [y])))) else .stuck
          | _ => .stuck
      else compL own tg tt te ts (S2.wipe own)
def compF (own : List Nat) (it : IF) (tg : Tg) (tt : TF) (te : EF) : EF := fun S => (it S).bind fun ts S1 =>
  if (own.all fun i => Slot.free S1.lo[i]?) && (tg.slots.all fun i => own.contains i) then
    match compL own tg tt te ts ((S1.wipe own).push (.ow (.lst []))) with
    | .ok () S2 => match S2.popG with
      | some (.ow (.lst acc), S3) => .ok (.ow (.lst acc)) (S3.back S1 own)
      | _ => .stuck
    | _ => .stuck
  else .stuck
def yesT : TF := fun S => .ok true S
theorem Abs.mix {g : Ga} {H0 : Bs} {F H : Hp} {S S' : PS0} {ρ ρ' : List (Option V)} (A : Abs g H0 F S ρ H) (nb : S'.nb = S.nb) (len : S'.sl.length = ρ'.length)
    (h : ∀ (i : Nat) (s : Slot) (o : Option V), S'.sl[i]? = some s → ρ'[i]? = some o → ((∀ t, s ≠ .ow t) ∧ SlotRel g F H H0 s o) ∨ (S.sl[i]? = some s ∧ ρ[i]? = some o)) : Abs g H0 F S' ρ' H := by
  refine ⟨A.fh, A.fn, nb ▸ A.nib, A.keep, A.fre, A.ext, len, fun i s o h1 h2 => ?_, fun i j t u a h1 h2 h3 h4 => ?_⟩
  · rcases h i s o h1 h2 with q | ⟨q1, q2⟩
    · exact q.2
    · exact A.sl i s o q1 q2
  · rcases h i _ _ h1 h3 with q | ⟨q1, q2⟩
    · exact absurd rfl (q.1 t)
    · rcases h j _ _ h2 h4 with r | ⟨r1, r2⟩
      · exact absurd rfl (r.1 u)
      · exact A.ds i j t u a q1 r1 q2 r2
theorem noes_length (l : List Slot) : ∀ is : List Nat, (noes l is).length = l.length
  | [] => rfl
  | i :: is => by unfold noes; rw [List.length_set, noes_length l is]
theorem backs_length (l l0 : List Slot) : ∀ is : List Nat, (backs l l0 is).length = l.length
  | [] => rfl
  | i :: is => by unfold backs; rw [List.length_set, backs_length l l0 is]
theorem noes_get (l : List Slot) {j : Nat} {s : Slot} : ∀ {is : List Nat}, (noes l is)[j]? = some s → (j ∈ is ∧ s = .no) ∨ (j ∉ is ∧ l[j]? = some s)
  | [], h => .inr ⟨by simp, h⟩
  | i :: is, h => by
    unfold noes at h
    by_cases e : i = j
    · subst e
      have hl : i < (noes l is).length := by have := (List.getElem?_eq_some_iff.mp h).1; simpa using this
      rw [List.getElem?_set_self hl] at h
      cases h
      exact .inl ⟨List.mem_cons_self, rfl⟩
    · rw [List.getElem?_set_ne e] at h
      rcases noes_get l h with ⟨a, b⟩ | ⟨a, b⟩
      · exact .inl ⟨List.mem_cons_of_mem _ a, b⟩
      · exact .inr ⟨by simp only [List.mem_cons, not_or]; exact ⟨fun z => e z.symm, a⟩, b⟩
theorem backs_get (l l0 : List Slot) {j : Nat} {s : Slot} : ∀ {is : List Nat}, (backs l l0 is)[j]? = some s → (j ∈ is ∧ s = l0.getD j .no) ∨ (j ∉ is ∧ l[j]? = some s)
  | [], h => .inr ⟨by simp, h⟩
  | i :: is, h => by
    unfold backs at h
    by_cases e : i = j
    · subst e
      have hl : i < (backs l l0 is).length := by have := (List.getElem?_eq_some_iff.mp h).1; simpa using this
      rw [List.getElem?_set_self hl] at h
      cases h
      exact .inl ⟨List.mem_cons_self, rfl⟩
    · rw [List.getElem?_set_ne e] at h
      rcases backs_get l l0 h with ⟨a, b⟩ | ⟨a, b⟩
      · exact .inl ⟨List.mem_cons_of_mem _ a, b⟩
      · exact .inr ⟨by simp only [List.mem_cons, not_or]; exact ⟨fun z => e z.symm, a⟩, b⟩
theorem wipe_get {σ : List (Option V)} {j : Nat} : ∀ {is : List Nat}, j ∉ is → (wipe σ is)[j]? = σ[j]?
  | [], _ => rfl
  | i :: is, h => by
    simp only [List.mem_cons, not_or] at h
    unfold wipe
    rw [List.getElem?_set_ne (Ne.symm h.1), wipe_get h.2]
theorem wipe_eq {σ σ' : List (Option V)} {is : List Nat} (hl : σ.length = σ'.length) (h : ∀ j, j ∉ is → σ[j]? = σ'[j]?) : wipe σ is = wipe σ' is := by
  apply List.ext_getElem?
  intro j
  by_cases hj : j ∈ is
  · have no : ∀ τ : List (Option V), (wipe τ is)[j]? = if j < τ.length then some none else none := fun τ => by
      split
      · rename_i hl
        have hl2 : j < (wipe τ is).length := by rw [wipe_length]; exact hl
        rw [List.getElem?_eq_getElem hl2]
        cases e : (wipe τ is)[j] with
        | none => rfl
        | some x =>
          have e2 : (wipe τ is)[j]? = some (some x) := by rw [List.getElem?_eq_getElem hl2, e]
          exact absurd hj (wipe_some e2).2
      · rename_i hl
        exact List.getElem?_eq_none (by rw [wipe_length]; omega)
    rw [no σ, no σ', hl]
  · rw [wipe_get hj, wipe_get hj, h j hj]
section
variable {c : Cfg} {F F1 H H1 : Hp} {S S1 : Sta} {σ τ : List (Option V)} {own : List Nat}
theorem z_len (A : AbsX c F S σ τ H) : S.z.sl.length = (σ ++ τ).length := A.a.len
theorem AbsX.wipe (A : AbsX c F S σ τ H) : AbsX c F (S.wipe own) (L2.wipe σ own) τ H := by
  have l1 : (S.wipe own).lo.length = (L2.wipe σ own).length := by
    show (noes S.lo own).length = _
    rw [noes_length, wipe_length, A.l]
  refine ⟨A.a.mix rfl ?_ fun i s o h1 h2 => ?_, l1⟩
  · show ((S.wipe own).lo ++ S.gh).length = _
    rw [List.length_append, List.length_append, l1, A.gl]
  · have h1 : (noes S.lo own ++ S.gh)[i]? = some s := h1
    by_cases hi : i < S.lo.length
    · rw [List.getElem?_append_left (by rw [noes_length]; exact hi)] at h1
      rw [List.getElem?_append_left (by rw [wipe_length, ← A.l]; exact hi)] at h2
      rcases noes_get _ h1 with ⟨a, b⟩ | ⟨a, b⟩
      · subst b
        exact .inl ⟨(fun t z => nomatch z), trivial⟩
      · rw [wipe_get a] at h2
        refine .inr ⟨?_, ?_⟩
        · show (S.lo ++ S.gh)[i]? = _
          rw [List.getElem?_append_left hi]; exact b
        · rw [List.getElem?_append_left (by rw [← A.l]; exact hi)]; exact h2
    · rw [List.getElem?_append_right (by rw [noes_length]; omega), noes_length] at h1
      rw [List.getElem?_append_right (by rw [wipe_length, ← A.l]; omega), wipe_length] at h2
      refine .inr ⟨?_, ?_⟩
      · show (S.lo ++ S.gh)[i]? = _
        rw [List.getElem?_append_right (by omega)]; exact h1
      · rw [List.getElem?_append_right (by rw [← A.l]; omega)]; exact h2
theorem AbsX.back {H' F' : Hp} {σ' : List (Option V)} (A : AbsX c F' S σ' τ H') (A1 : AbsX c F1 S1 σ [] H1) (s : Same F1 F') (fr : (own.all fun i => Slot.free S1.lo[i]?) = true) (h : ∀ j, j ∉ own → σ'[j]? = σ[j]?) (hl : σ'.length = σ.length) : AbsX c F' (S.back S1 own) σ τ H' := by
  have l1 : (S.back S1 own).lo.length = σ.length := by
    show (backs S.lo S1.lo own).length = _
    rw [backs_length, A.l, hl]
  have lS : S.lo.length = σ.length := by rw [A.l, hl]
  refine ⟨A.a.mix rfl ?_ fun i s' o h1 h2 => ?_, l1⟩
  · show ((S.back S1 own).lo ++ S.gh).length = _
    rw [List.length_append, List.length_append, l1, A.gl]
  · have h1 : (backs S.lo S1.lo own ++ S.gh)[i]? = some s' := h1
    by_cases hi : i < S.lo.length
    · rw [List.getElem?_append_left (by rw [backs_length]; exact hi)] at h1
      rw [List.getElem?_append_left (by rw [← lS]; exact hi)] at h2
      rcases backs_get _ _ h1 with ⟨a, b⟩ | ⟨a, b⟩
      · have hi2 : i < S1.lo.length := by rw [A1.l, ← lS]; exact hi
        have e1 : S1.lo[i]? = some s' := by
          rw [b, List.getD_eq_getElem?_getD, List.getElem?_eq_getElem hi2]
          rfl
        have f1 := List.all_eq_true.mp fr i a
        rw [e1] at f1
        obtain ⟨o', ho, r⟩ := A1.slot e1
        rw [h2] at ho
        cases ho
        cases s' with
        | no => exact .inl ⟨(fun t z => nomatch z), trivial⟩
        | fu => exact .inl ⟨(fun t z => nomatch z), r⟩
        | sh t =>
          obtain ⟨v, e, r⟩ := r
          exact .inl ⟨fun t z => (by cases z), ⟨v, e, r.mono s⟩⟩
        | ow t => cases f1
      · refine .inr ⟨?_, ?_⟩
        · show (S.lo ++ S.gh)[i]? = _
          rw [List.getElem?_append_left hi]; exact b
        · rw [List.getElem?_append_left (by rw [← A.l]; exact hi), h i a]; exact h2
    · rw [List.getElem?_append_right (by rw [backs_length]; omega), backs_length] at h1
      rw [List.getElem?_append_right (by rw [← lS]; omega)] at h2
      refine .inr ⟨?_, ?_⟩
      · show (S.lo ++ S.gh)[i]? = _
        rw [List.getElem?_append_right (by omega)]; exact h1
      · rw [List.getElem?_append_right (by rw [← A.l]; omega), ← A.l, lS]; exact h2
theorem AbsX.gpopA (A : AbsX c F S σ τ H) : AbsX c F { S with gh := [] } σ [] H := by
  refine ⟨A.a.mix rfl ?_ fun i s o h1 h2 => .inr ⟨?_, ?_⟩, A.l⟩
  · show (S.lo ++ []).length = _
    rw [List.append_nil, List.append_nil, A.l]
  · have h1 : (S.lo ++ [])[i]? = some s := h1
    rw [List.append_nil] at h1
    show (S.lo ++ S.gh)[i]? = _
    rw [List.getElem?_append_left (List.getElem?_eq_some_iff.mp h1).1]
    exact h1
  · rw [List.append_nil] at h2
    rw [List.getElem?_append_left (List.getElem?_eq_some_iff.mp h2).1]
    exact h2
theorem AbsX.topOw {t : T} {o : Option V} (A : AbsX c F (S.push (.ow t)) σ (τ ++ [o]) H) : ∃ a u, o = some (.ref a) ∧ H a = some u ∧ Mk c.g F u t := by
  obtain ⟨a, e, ⟨u, hu, m⟩, _⟩ := A.as.top
  exact ⟨a, u, e, hu, m⟩
theorem AbsX.changeTop {t t' : T} {a : Addr} {u' : HO} (A : AbsX c F (S.push (.ow t)) σ (τ ++ [some (.ref a)]) H) (m : Mk c.g F u' t') : AbsX c F (S.push (.ow t')) σ (τ ++ [some (.ref a)]) (upd H a u') := by
  have A' := A.as
  have l : S.z.sl.length = (σ ++ τ).length := A.pop.a.len
  have := A'.change (i := S.z.sl.length) (t := t) (a := a) (by show (S.z.sl ++ [_])[_]? = _; exact getE_snoc_last) (by rw [l]; exact getE_snoc_last) m
  rw [put_push_top] at this
  exact .mk' this A.l
end
def Cfg.c0 (c : Cfg) : Cfg := { c with E := fun _ _ _ _ => False }
theorem AbsX.c0 {c : Cfg} {F H : Hp} {S : Sta} {σ τ : List (Option V)} (A : AbsX c F S σ τ H) : AbsX c.c0 F S σ τ H := ⟨A.a, A.l⟩
theorem AbsX.of0 {c : Cfg} {F H : Hp} {S : Sta} {σ τ : List (Option V)} (A : AbsX c.c0 F S σ τ H) : AbsX c F S σ τ H := ⟨A.a, A.l⟩
theorem R.bind_ok_inv {α β : Type} {r : R α} {k : α → Sta → R β} {b : β} {S : Sta} (h : r.bind k = .ok b S) : ∃ a S1, r = .ok a S1 ∧ k a S1 = .ok b S := by
  cases r with
  | ok a S1 => exact ⟨a, S1, rfl, h⟩
  | exc e S1 => cases h
  | stuck => cases h
section
variable {X : Cx} {c : Cfg} {pos : Pos}
theorem compOut {K : PySem.W.Frag} {own : List Nat} {fi : IF} {tgt : Tg} {ft : TF} {fe : EF} {σ : List (Option V)} {H : Hp} {Q : VK} (h : rdE c (compF own fi tgt ft fe) σ H Q) : tLc (rdI c fi) (rdG c.c0 tgt) (rdT c.c0 ft) (rdE c.c0 fe) own σ H Q := by
  obtain ⟨τ, F, S, A, q⟩ := h
  refine ⟨τ, F, S, A, rOut.bind q fun ts S1 F1 H1 s1 q1 J A1 it D nD => ?_⟩
  split at q1
  · rename_i hcond
    rw [Bool.and_eq_true] at hcond
    obtain ⟨hfree, hsub⟩ := hcond
    have sub : ∀ j, j ∈ tgt.slots → j ∈ own := fun j hj => by
      have := List.all_eq_true.mp hsub j hj
      exact List.contains_iff_mem.mp this
    split at q1
    · rename_i S2 hL
      split at q1
      · rename_i acc S3 hP
        have eS2 := Sta.popG_some hP
        have fin : ∀ H' F', Same F1 F' → AbsX c F' S2 (wipe σ own) (τ ++ [some (.ref D)]) H' → Q (.ref D) H' := fun H' F' s' A' => by
          refine q1 H' F' s' _ ?_
          rw [eS2] at A'
          exact AbsX.back (S := S3.push (.ow (.lst acc))) (S1 := { S1 with gh := [] }) A' (A1.gpopA) s' hfree (fun j hj => wipe_get hj) (wipe_length σ own)
        have n := ts.length
        refine ⟨fun i m H' => m = ts.length - i ∧ i ≤ ts.length ∧ ∃ F' S', Same F1 F' ∧ AbsX c F' S' (wipe σ own) (τ ++ [some (.ref D)]) H' ∧ compL own tgt ft fe (ts.drop i) S' = .ok () S2,
          ⟨ts.length, by simp, Nat.zero_le _, F1, _, Same.refl F1, (A1.newOw (u := .lst []) (t := .lst []) (.lst .nil) nD).wipe (own := own), hL⟩, ?_⟩
        rintro i m H' ⟨rfl, hi, F', S', s', A', e'⟩
        by_cases hlt : i < ts.length
        · refine .inr ⟨it.go i H' hlt (s'.trans A'.a.fh), fun H2 => ∃ F'' S'', Same F1 F'' ∧ AbsX c F'' S'' (wipe σ own) (τ ++ [some (.ref D)]) H2 ∧ compL own tgt ft fe (ts.drop (i + 1)) S'' = .ok () S2,
            fun H2 ⟨F'', S'', a1, a2, a3⟩ => ⟨ts.length - (i + 1), by omega, rfl, hlt, F'', S'', a1, a2, a3⟩, fun x H2 hy => ?_⟩
          obtain ⟨t, F2, ht, s2, A2⟩ := it.yld i x H' H2 F' S' (wipe σ own) (τ ++ [some (.ref D)]) hlt s' A' hy
          have ed : ts.drop i = t :: ts.drop (i + 1) := by
            rw [List.drop_eq_getElem_cons hlt]
            rw [List.getElem?_eq_getElem hlt] at ht
            rw [Option.some.inj ht]
          rw [ed] at e'
          unfold compL at e'
          split at e'
          · cases e'
          · rename_i S1' hput
            refine ⟨τ ++ [some (.ref D)], F2, S', t, S1', A2.c0, hput, fun σ2 A3 hσ => ⟨?_, ?_⟩⟩
            · refine wipe_eq ?_ fun j hj => ?_
              · have h1 := A3.l
                have h2 := A'.l
                have h3 : S1'.lo.length = S'.lo.length := by
                  cases tgt with
                  | nm k =>
                    unfold Tg.put at hput
                    dsimp only at hput
                    split at hput
                    · cases hput; simp [Sta.put]
                    · cases hput
                  | tp l =>
                    have pl : ∀ (l : List Nat) (us : List T) (Z Z' : Sta), putAll l us Z = some Z' → Z'.lo.length = Z.lo.length := by
                      intro l
                      induction l with
                      | nil => intro us Z Z' h; cases us with
                        | nil => cases h; rfl
                        | cons => cases h
                      | cons k l ih => intro us Z Z' h; cases us with
                        | nil => cases h
                        | cons u us =>
                          unfold putAll at h
                          split at h
                          · rw [ih us _ _ h]; simp [Sta.put]
                          · cases h
                    unfold Tg.put at hput
                    dsimp only at hput
                    split at hput
                    · exact pl _ _ _ _ hput
                    · exact pl _ _ _ _ hput
                    · exact pl _ _ _ _ hput
                    · cases hput
                rw [← h1, h3, h2, wipe_length]
              · rw [hσ j (fun z => hj (sub j z)), wipe_get hj]
            · have eW : wipe σ2 own = wipe σ own := by
                refine wipe_eq ?_ fun j hj => ?_
                · have h1 := A3.l
                  have h2 := A'.l
                  have h3 : S1'.lo.length = S'.lo.length := by
                    cases tgt with
                    | nm k =>
                      unfold Tg.put at hput
                      dsimp only at hput
                      split at hput
                      · cases hput; simp [Sta.put]
                      · cases hput
                    | tp l =>
                      have pl : ∀ (l : List Nat) (us : List T) (Z Z' : Sta), putAll l us Z = some Z' → Z'.lo.length = Z.lo.length := by
                        intro l
                        induction l with
                        | nil => intro us Z Z' h; cases us with
                          | nil => cases h; rfl
                          | cons => cases h
                        | cons k l ih => intro us Z Z' h; cases us with
                          | nil => cases h
                          | cons u us =>
                            unfold putAll at h
                            split at h
                            · rw [ih us _ _ h]; simp [Sta.put]
                            · cases h
                      unfold Tg.put at hput
                      dsimp only at hput
                      split at hput
                      · exact pl _ _ _ _ hput
                      · exact pl _ _ _ _ hput
                      · exact pl _ _ _ _ hput
                      · cases hput
                  rw [← h1, h3, h2, wipe_length]
                · rw [hσ j (fun z => hj (sub j z)), wipe_get hj]
              obtain ⟨b, S4, e4, k4⟩ := R.bind_ok_inv e'
              refine ⟨τ ++ [some (.ref D)], F2, S1', A3, ?_⟩
              rw [e4]
              intro H3 F3 s3 A4
              cases b with
              | false =>
                rw [if_neg Bool.false_ne_true] at k4 ⊢
                have A5 := A4.of0.wipe (own := own)
                rw [eW] at A5
                exact ⟨F3, _, (s'.trans s2).trans s3, A5, k4⟩
              | true =>
                rw [if_pos rfl] at k4 ⊢
                obtain ⟨z, S5, e5, k5⟩ := R.bind_ok_inv k4
                refine ⟨τ ++ [some (.ref D)], F3, S4, A4, ?_⟩
                rw [e5]
                intro H4 F4 s4 y A5
                split at k5
                · cases k5
                · rename_i yT hy
                  obtain ⟨F5, s5, A6⟩ := A5.of0.shTop hy
                  split at k5
                  · rename_i acc' S6 hP6
                    split at k5
                    · rename_i hsz
                      have e6 := Sta.popG_some hP6
                      have A7 := A6.pop
                      rw [e6] at A7
                      obtain ⟨a, u, ea, hu, mk⟩ := A7.topOw
                      cases ea
                      cases mk with
                      | @lst vs _ r =>
                      refine ⟨vs, hu, by rw [r.length, ← sz_eq]; exact hsz, ?_⟩
                      have A8 := (A7.changeTop (u' := .lst (vs ++ [y])) (t' := .lst (acc' ++ [yT])) (.lst (r.append (.cons A6.topSh .nil)))).wipe (own := own)
                      rw [eW] at A8
                      exact ⟨F5, _, (((s'.trans s2).trans s3).trans s4).trans s5, A8, k5⟩
                    · cases k5
                  · cases k5
        · have e : i = ts.length := by omega
          subst e
          rw [List.drop_length] at e'
          cases e'
          exact .inl ⟨it.stop H' (s'.trans A'.a.fh), fin H' F' s' A'⟩
      · exact q1.elim
    · exact q1.elim
  · exact q1.elim
theorem de_comp {elt tg iter : Expr} {ifs : List Expr} {scope : Scope} {own : List (Str × Nat)} {fi : IF} {tgt : Tg} {ft : TF} {fe : EF} (hc : X.calm = true) (hN : X.N.Nodup) (hi : PI X tg iter (rdI c fi)) (ok : BlkOk X.N X.env.scope scope own)
    (hg : ∀ (s : Shared) (H : Hp) (C : Addr) (cl : List (Str × Addr)) (fp : List Addr), PG (X.blk s H scope (compEnvC scope cl C X.env) fp) tg (rdG c.c0 tgt)) (ht : ∀ (s : Shared) (H : Hp) (C : Addr) (cl : List (Str × Addr)) (fp : List Addr), PTs (X.blk s H scope (compEnvC scope cl C X.env) fp) ifs (rdT c.c0 ft))
    (he : ∀ (s : Shared) (H : Hp) (C : Addr) (cl : List (Str × Addr)) (fp : List Addr), PE (X.blk s H scope (compEnvC scope cl C X.env) fp) elt (rdE c.c0 fe)) (hs : ∀ x, foldedSetIterable iter X.env x = pure x := by intro _; rfl) :
    PE X (.ListComp elt [⟨tg, iter, ifs, 0⟩] scope pos) (rdE c (compF (own.map (·.2)) fi tgt ft fe)) :=
  PE.imp (pe_lc hc hN hi ok hg ht he hs) fun _ _ _ q => compOut (K := X.K) q
theorem dts_nil : PTs X [] (rdT c yesT) := by
  refine ⟨fun pins s σ H Q I h => pts_nil.run pins s σ H Q I ?_⟩
  obtain ⟨τ, F, S, A, q⟩ := h
  exact q H F (Same.refl F) A
theorem dts_one {e : Expr} {f : TF} (h : PT X e (rdT c f)) : PTs X [e] (rdT c f) := pts_one h
end
end TL

end
section
set_option Elab.async false
set_option linter.all false
set_option maxRecDepth 100000
set_option autoImplicit false
/-! TL8: statements, list methods -/
open PySem PySem.Spec PyProof.Rows L2
namespace TL
def sP (c : Cfg) (D : Ends) : TL.Flow → Sta → Hp → Hp → Prop
  | .nx, S, F', H' => ∀ σ, AbsX c F' S σ [] H' → D.nx σ H'
  | .rt x, S, F', H' => ∀ v σ, AbsX c F' (S.push x) σ [some v] H' → D.rt v H'
  | .bk, S, F', H' => ∀ σ, AbsX c F' S σ [] H' → D.bk σ H'
  | .ct, S, F', H' => ∀ σ, AbsX c F' S σ [] H' → D.ct σ H'
def sOut (c : Cfg) (F : Hp) (D : Ends) : R TL.Flow → Prop
  | .ok a S => ∀ H' F', Same F F' → sP c D a S F' H'
  | .exc e S => ∀ cls d σ H' F', Same F F' → AbsX c F' S σ [] H' → ExRel c.g c.B.H F' H' e cls d → c.E σ cls d H'
  | .stuck => False
def rdS (c : Cfg) (f : SF) : TS := fun D σ H => ∃ F S, AbsX c F S σ [] H ∧ sOut c F D (f S)
theorem sOut.mono {c : Cfg} {F F1 : Hp} {D : Ends} (s : Same F F1) : ∀ {r : R TL.Flow}, sOut c F D r → sOut c F1 D r
  | .ok _ _, h => fun H' F' s' => h H' F' (s.trans s')
  | .exc _ _, h => fun cls d σ H' F' s' => h cls d σ H' F' (s.trans s')
  | .stuck, h => h
theorem sOut.bind {α : Type} {c : Cfg} {F : Hp} {D : Ends} {σ : List (Option V)} {P1 : α → Sta → Hp → Hp → Prop} {r : R α} {k : α → Sta → R TL.Flow} (h : sOut c F D (r.bind k))
    (K : ∀ a S F' H', Same F F' → sOut c F' D (k a S) → P1 a S F' H') : rOut c F σ [] P1 r := by
  cases r with
  | ok a S =>
    intro H' F' s
    exact K a S F' H' s (sOut.mono s h)
  | exc e S => exact fun cls d H' F' s A q => h cls d σ H' F' s A q
  | stuck => exact h
theorem sOut.bindS {c : Cfg} {F : Hp} {D D1 : Ends} {r : R TL.Flow} {k : TL.Flow → Sta → R TL.Flow} (h : sOut c F D (r.bind k))
    (K : ∀ a S F' H', Same F F' → sOut c F' D (k a S) → sP c D1 a S F' H') : sOut c F D1 r := by
  cases r with
  | ok a S =>
    intro H' F' s
    exact K a S F' H' s (sOut.mono s h)
  | exc e S => exact h
  | stuck => exact h
theorem pss_imp {X : Cx} {e : List Stmt} {t t' : TS} (h : PSs X e t) (w : ∀ D σ H, t' D σ H → t D σ H) : PSs X e t' := ⟨fun pins s σ H D I q => h.run pins s σ H D I (w D σ H q)⟩

def nxF : SF := fun S => .ok .nx S
def bkF : SF := fun S => .ok .bk S
def ctF : SF := fun S => .ok .ct S
def stuckF : SF := fun _ => .stuck
def seqF (f g : SF) : SF := fun S => (f S).bind fun fl S1 => match fl with
  | .nx => g S1
  | .rt x => .ok (.rt x) S1
  | .bk => .ok .bk S1
  | .ct => .ok .ct S1
def retF (f : EF) : SF := fun S => (f S).bind fun x S1 => .ok (.rt x) S1
def retNF : SF := fun S => .ok (.rt (.sh .non)) S
def dropF (f : EF) : SF := fun S => (f S).bind fun _ S1 => .ok .nx S1
def ifF (t : TF) (a b : SF) : SF := fun S => (t S).bind fun k S1 => if k = true then a S1 else b S1
def setF (i : Nat) (f : EF) : SF := fun S => (f S).bind fun x S1 => if i < S1.lo.length then .ok .nx (S1.put i x) else .stuck
def asgF (g : Tg) (f : OF) : SF := fun S => (f S).bind fun o S1 => match o with
  | .val t => match g.put t S1 with
    | some S2 => .ok .nx S2
    | none => .stuck
  | _ => .stuck
def parF (i j : Nat) (f g : EF) : SF := fun S => (f S).bind fun x S1 => match g (S1.push x) with
  | .ok y S2 => match S2.popG with
    | some (x', S3) => if i < S3.lo.length ∧ j < S3.lo.length then .ok .nx ((S3.put j y).put i x') else .stuck
    | none => .stuck
  | .exc e S2 => match S2.popG with
    | some (_, S3) => .exc e S3
    | none => .stuck
  | .stuck => .stuck
def forL (g : Tg) (b : SF) : List T → Sta → R TL.Flow
  | [], S => .ok .nx S
  | t :: ts, S => match g.put t S with
    | none => .stuck
    | some S1 => (b S1).bind fun fl S2 => match fl with
      | .nx => forL g b ts S2
      | .ct => forL g b ts S2
      | .bk => .ok .nx S2
      | .rt x => .ok (.rt x) S2
def forF (it : IF) (g : Tg) (b : SF) : SF := fun S => (it S).bind fun ts S1 => forL g b ts S1
def whileL (t : TF) (b : SF) : Nat → Sta → R TL.Flow
  | 0, _ => .stuck
  | n + 1, S => (t S).bind fun k S1 => if k = true then (b S1).bind fun fl S2 => match fl with
      | .nx => whileL t b n S2
      | .ct => whileL t b n S2
      | .bk => .ok .nx S2
      | .rt x => .ok (.rt x) S2
    else .ok .nx S1
def whileF (n : Nat) (t : TF) (b : SF) : SF := whileL t b n

section
variable {X : Cx} {c : Cfg} {st : Stmt} {rest : List Stmt} {e : Expr} {pos : Pos}
theorem ds_nil : PSs X [] (rdS c nxF) := by
  refine pss_imp pss_nil fun D σ H q => ?_
  obtain ⟨F, S, A, q⟩ := q
  exact q H F (Same.refl F) σ A
theorem ds_pass : PS X (.Pass pos) (rdS c nxF) := by
  refine ps_imp ps_pass fun D σ H q => ?_
  obtain ⟨F, S, A, q⟩ := q
  exact q H F (Same.refl F) σ A
theorem ds_doc {x : Str} {j : Nat} {pos' : Pos} : PS X (.Expr (.Constant (.str x) j pos) pos') (rdS c nxF) := by
  refine ps_imp ps_doc fun D σ H q => ?_
  obtain ⟨F, S, A, q⟩ := q
  exact q H F (Same.refl F) σ A
theorem ds_break : PS X (.Break pos) (rdS c bkF) := by
  refine ps_imp ps_break fun D σ H q => ?_
  obtain ⟨F, S, A, q⟩ := q
  exact q H F (Same.refl F) σ A
theorem ds_continue : PS X (.Continue pos) (rdS c ctF) := by
  refine ps_imp ps_continue fun D σ H q => ?_
  obtain ⟨F, S, A, q⟩ := q
  exact q H F (Same.refl F) σ A
theorem ds_stuck : PS X st (rdS c stuckF) := by
  refine ps_imp ps_never fun D σ H q => ?_
  obtain ⟨F, S, A, q⟩ := q
  exact q
theorem dss_stuck : PSs X rest (rdS c stuckF) := by
  refine pss_imp pss_never fun D σ H q => ?_
  obtain ⟨F, S, A, q⟩ := q
  exact q
theorem ds_one {f : SF} (h : PS X st (rdS c f)) : PSs X [st] (rdS c f) := pss_one h
theorem ds_cons {f g : SF} (h : PS X st (rdS c f)) (hr : PSs X rest (rdS c g)) : PSs X (st :: rest) (rdS c (seqF f g)) := by
  refine pss_imp (pss_cons h hr) fun D σ H q => ?_
  obtain ⟨F, S, A, q⟩ := q
  refine ⟨F, S, A, sOut.bindS q fun fl S1 F1 H1 s1 q1 => ?_⟩
  cases fl with
  | nx => exact fun σ1 A1 => ⟨F1, S1, A1, q1⟩
  | rt x => exact q1 H1 F1 (Same.refl F1)
  | bk => exact q1 H1 F1 (Same.refl F1)
  | ct => exact q1 H1 F1 (Same.refl F1)
theorem ds_ret {f : EF} (h : PE X e (rdE c f)) : PS X (.Return (some e) pos) (rdS c (retF f)) := by
  refine ps_imp (ps_ret h) fun D σ H q => ?_
  obtain ⟨F, S, A, q⟩ := q
  exact ⟨[], F, S, A, sOut.bind q fun x S1 F1 H1 s1 q1 v A1 => q1 H1 F1 (Same.refl F1) v σ A1⟩
theorem ds_retN : PS X (.Return none pos) (rdS c retNF) := by
  refine ps_imp ps_retN fun D σ H q => ?_
  obtain ⟨F, S, A, q⟩ := q
  exact q H F (Same.refl F) .non σ (A.pushSh .non)
theorem ds_expr {f : EF} (h : PE X e (rdE c f)) (hs : swapsWith e none pos.line X.env = pure false := by rfl) : PS X (.Expr e pos) (rdS c (dropF f)) := by
  refine ps_imp (ps_expr h hs) fun D σ H q => ?_
  obtain ⟨F, S, A, q⟩ := q
  exact ⟨[], F, S, A, sOut.bind q fun x S1 F1 H1 s1 q1 v A1 => q1 H1 F1 (Same.refl F1) σ A1.pop⟩
theorem ds_if {d : Expr} {a b : List Stmt} {ft : TF} {fa fb : SF} (h : PT X d (rdT c ft)) (ha : PSs X a (rdS c fa)) (hb : PSs X b (rdS c fb)) : PS X (.If d a b pos) (rdS c (ifF ft fa fb)) := by
  refine ps_imp (ps_if h ha hb) fun D σ H q => ?_
  obtain ⟨F, S, A, q⟩ := q
  refine ⟨[], F, S, A, sOut.bind q fun k S1 F1 H1 s1 q1 A1 => ?_⟩
  cases k with
  | true => exact ⟨F1, S1, A1, q1⟩
  | false => exact ⟨F1, S1, A1, q1⟩
theorem setOut {i : Nat} {f : EF} {D : Ends} {σ : L2.St} {H : Hp} (q : rdS c (setF i f) D σ H) : tAsg (rdE c f) (gName i) D σ H := by
  obtain ⟨F, S, A, q⟩ := q
  refine ⟨[], F, S, A, sOut.bind q fun x S1 F1 H1 s1 q1 v A1 => ?_⟩
  split at q1
  · rename_i hi
    exact q1 H1 F1 (Same.refl F1) _ (A1.assign (by rw [← A1.pop.l]; exact hi))
  · exact q1.elim
theorem ds_set {i : Nat} {x : Str} {f : EF} {pos' : Pos} (hN : X.N.Nodup) (hi : X.N[i]? = some x) (hx : Loc X.env.scope x) (he : PE X e (rdE c f)) (hf : X.fn x = true ∨ X.env.scope.names.lookup x = some .local) (hs : swapsWith e (some (.Name x pos')) pos.line X.env = pure false := by rfl) :
    PS X (.Assign [.Name x pos'] e pos) (rdS c (setF i f)) :=
  ps_imp (ps_set hN hi hx he hs hf) fun _ _ _ q => setOut q
theorem ds_setLc {elt tg iter : Expr} {ifs : List Expr} {scope : Scope} {own : List (Str × Nat)} {fi : IF} {tgt : Tg} {ft : TF} {fe : EF} {i : Nat} {y : Str} {py spos : Pos} (hc : X.calm = true) (hN : X.N.Nodup) (hy : X.N[i]? = some y) (hyl : X.env.scope.names.lookup y = some .local)
    (hsw : swapsWith (.ListComp elt [⟨tg, iter, ifs, 0⟩] scope pos) (some (.Name y py)) spos.line X.env = pure true) (hi : PI X tg iter (rdI c fi)) (ok : BlkOk X.N X.env.scope scope own)
    (hg : ∀ (s : Shared) (H : Hp) (C : Addr) (cl : List (Str × Addr)) (fp : List Addr), PG (X.blk s H scope (compEnvC scope cl C X.env) fp) tg (rdG c.c0 tgt)) (ht : ∀ (s : Shared) (H : Hp) (C : Addr) (cl : List (Str × Addr)) (fp : List Addr), PTs (X.blk s H scope (compEnvC scope cl C X.env) fp) ifs (rdT c.c0 ft))
    (he : ∀ (s : Shared) (H : Hp) (C : Addr) (cl : List (Str × Addr)) (fp : List Addr), PE (X.blk s H scope (compEnvC scope cl C X.env) fp) elt (rdE c.c0 fe)) (hs : ∀ x, foldedSetIterable iter X.env x = pure x := by intro _; rfl) :
    PS X (.Assign [.Name y py] (.ListComp elt [⟨tg, iter, ifs, 0⟩] scope pos) spos) (rdS c (setF i (compF (own.map (·.2)) fi tgt ft fe))) :=
  ps_imp (ps_setLc hc hN hy hyl hsw hi ok hg ht he hs) fun D σ H q => by
    have q1 := setOut q
    obtain ⟨τ, F, S, A, q2⟩ := q1
    exact compOut (K := X.K) ⟨τ, F, S, A, q2⟩
theorem ds_asg {tg : Expr} {f : OF} {g : Tg} (he : PE X e (rdO c f)) (hg : PG X tg (rdG c g)) (hs : swapsWithSole [tg] e pos.line X.env = pure false := by rfl) (hw : swappedStores [tg] e X.env = pure none := by rfl)
    (h1 : (assignEach [tg] X.env).map (·.2) = [assign tg X.env] := by rfl) : PS X (.Assign [tg] e pos) (rdS c (asgF g f)) := by
  refine ps_imp (ps_asg he hg hs hw h1) fun D σ H q => ?_
  obtain ⟨F, S, A, q⟩ := q
  refine ⟨[], F, S, A, sOut.bind q fun o S1 F1 H1 s1 q1 v A1 r1 => ?_⟩
  split at q1
  · split at q1
    · rename_i t _ S2 e2
      exact ⟨[], F1, S1, t, S2, A1.pushSh r1, e2, fun σ' A' _ => q1 H1 F1 (Same.refl F1) σ' A'⟩
    · exact q1.elim
  · exact q1.elim
theorem ds_par {i j : Nat} {x y : Str} {a b : Expr} {fa fb : EF} {px py pt : Pos} {kt k2 pt2} (hc : X.calm = true) (hN : X.N.Nodup) (hi : X.N[i]? = some x) (hj : X.N[j]? = some y) (hij : i ≠ j)
    (hx : X.env.scope.names.lookup x = some .local) (hy : X.env.scope.names.lookup y = some .local) (ha : PE X a (rdE c fa)) (hb : PE X b (rdE c fb))
    (hw : swappedStores [.Tuple [.Name x px, .Name y py] kt pt] (.Tuple [a, b] k2 pt2) X.env = pure (some [x, y]))
    (hs : swapsWithSole [.Tuple [.Name x px, .Name y py] kt pt] (.Tuple [a, b] k2 pt2) pos.line X.env = pure false := by rfl)
    (s2 : starEach [a, b] X.env = (false, eval a X.env) :: starEach [b] X.env := by rfl) (s3 : starEach [b] X.env = (false, eval b X.env) :: starEach [] X.env := by rfl) :
    PS X (.Assign [.Tuple [.Name x px, .Name y py] kt pt] (.Tuple [a, b] k2 pt2) pos) (rdS c (parF i j fa fb)) := by
  refine ps_imp (ps_par hc hN hi hj hij hx hy (pa_cons ha (pa_cons hb pa_nil s3) s2) hw hs) fun D σ H q => ?_
  obtain ⟨F, S, A, q⟩ := q
  refine ⟨[], F, S, A, sOut.bind q fun u S1 F1 H1 s1 q1 v A1 => ⟨_, F1, _, A1, ?_⟩⟩
  split at q1
  · rename_i y' S2 e2
    rw [e2]
    intro H2 F2 s2 w A2
    split at q1
    · rename_i x' S3 e3
      have eS := Sta.popG_some e3
      subst eS
      split at q1
      · rename_i hh
        refine ⟨v, w, rfl, ?_⟩
        have l3 : S3.lo.length = σ.length := A2.pop.pop.l
        have A3 := A2.assign (i := j) (by rw [← l3]; exact hh.2)
        have A4 : AbsX c F2 (((S3.put j y').push x')) (σ.set j (some w)) ([] ++ [some v]) H2 := A3
        have A5 := A4.assign (i := i) (by rw [List.length_set, ← l3]; exact hh.1)
        rw [List.set_comm _ _ (Ne.symm hij)] at A5
        exact q1 H2 F2 s2 _ A5
      · exact q1.elim
    · exact q1.elim
  · rename_i ex S2 e2
    rw [e2]
    intro cls d H2 F2 s2 A2 r2
    split at q1
    · rename_i x' S3 e3
      have eS := Sta.popG_some e3
      subst eS
      exact q1 cls d σ H2 F2 s2 A2.pop r2
    · exact q1.elim
  · exact q1.elim
theorem ds_for {tg iter : Expr} {body : List Stmt} {fi : IF} {g : Tg} {fb : SF} (hp : PassesOwn (model X.prog X.w) X.A X.env X.xe) (hc : X.calm = true) (hi : PI X tg iter (rdI c fi)) (hg : PG X tg (rdG c g)) (hb : PSs X body (rdS c fb))
    (hs : ∀ x, foldedSetIterable iter X.env x = pure x := by intro _; rfl) : PS X (.For tg iter body [] pos) (rdS c (forF fi g fb)) := by
  refine ps_imp (ps_for hp hc hi hg hb hs) fun D σ H q => ?_
  obtain ⟨F, S, A, q⟩ := q
  refine ⟨[], F, S, A, sOut.bind q fun ts S1 F1 H1 s1 q1 J A1 it => ?_⟩
  refine ⟨fun i m σ H => m = ts.length - i ∧ i ≤ ts.length ∧ ∃ F' S', Same F1 F' ∧ AbsX c F' S' σ [] H ∧ sOut c F' D (forL g fb (ts.drop i) S'),
    ⟨ts.length, by simp, Nat.zero_le _, F1, S1, Same.refl F1, A1, q1⟩, ?_⟩
  rintro i m σ' H' ⟨rfl, hi', F', S', s', A', q'⟩
  by_cases hlt : i < ts.length
  · refine .inr ⟨it.go i H' hlt (s'.trans A'.a.fh), fun σ2 H2 => ∃ F'' S'', Same F1 F'' ∧ AbsX c F'' S'' σ2 [] H2 ∧ sOut c F'' D (forL g fb (ts.drop (i + 1)) S''),
      fun σ2 H2 ⟨F'', S'', a1, a2, a3⟩ => ⟨ts.length - (i + 1), by omega, rfl, hlt, F'', S'', a1, a2, a3⟩, fun x H2 hy => ?_⟩
    obtain ⟨t, F2, ht, s2, A2⟩ := it.yld i x H' H2 F' S' σ' [] hlt s' A' hy
    have ed : ts.drop i = t :: ts.drop (i + 1) := by
      rw [List.drop_eq_getElem_cons hlt]
      rw [List.getElem?_eq_getElem hlt] at ht
      rw [Option.some.inj ht]
    rw [ed] at q'
    unfold forL at q'
    split at q'
    · exact q'.elim
    · rename_i S3 e3
      refine ⟨[], F2, S', t, S3, A2, e3, fun σ3 A3 _ => ⟨F2, S3, A3, sOut.bindS (q'.mono s2) fun fl S4 F4 H4 s4 q4 => ?_⟩⟩
      cases fl with
      | nx => exact fun σ4 A4 => ⟨F4, S4, (s'.trans s2).trans s4, A4, q4⟩
      | ct => exact fun σ4 A4 => ⟨F4, S4, (s'.trans s2).trans s4, A4, q4⟩
      | bk => exact q4 H4 F4 (Same.refl F4)
      | rt x => exact q4 H4 F4 (Same.refl F4)
  · have e : i = ts.length := by omega
    subst e
    rw [List.drop_length] at q'
    exact .inl ⟨it.stop H' (s'.trans A'.a.fh), q' H' F' (Same.refl F') σ' A'⟩
theorem ds_while {d : Expr} {body : List Stmt} {ft : TF} {fb : SF} (n : Nat) (hp : PassesOwn (model X.prog X.w) X.A X.env X.xe) (hc : PT X d (rdT c ft)) (hb : PSs X body (rdS c fb)) : PS X (.While d body [] pos) (rdS c (whileF n ft fb)) := by
  refine ps_imp (ps_while hp hc hb) fun D σ H q => ?_
  obtain ⟨F, S, A, q⟩ := q
  refine ⟨fun m σ H => ∃ F' S', Same F F' ∧ AbsX c F' S' σ [] H ∧ sOut c F' D (whileL ft fb m S'), ⟨n, F, S, Same.refl F, A, q⟩, ?_⟩
  rintro m σ' H' ⟨F', S', s', A', q'⟩
  cases m with
  | zero => exact q'.elim
  | succ m =>
    refine ⟨[], F', S', A', sOut.bind q' fun k S1 F1 H1 s1 q1 A1 => ?_⟩
    cases k with
    | false => exact q1 H1 F1 (Same.refl F1) σ' A1
    | true =>
      rw [if_pos rfl] at q1 ⊢
      refine ⟨fun σ2 H2 => ∃ F' S', Same F F' ∧ AbsX c F' S' σ2 [] H2 ∧ sOut c F' D (whileL ft fb m S'), fun σ2 H2 q => ⟨m, Nat.lt_succ_self m, q⟩, F1, S1, A1, sOut.bindS q1 fun fl S4 F4 H4 s4 q4 => ?_⟩
      cases fl with
      | nx => exact fun σ4 A4 => ⟨F4, S4, (s'.trans s1).trans s4, A4, q4⟩
      | ct => exact fun σ4 A4 => ⟨F4, S4, (s'.trans s1).trans s4, A4, q4⟩
      | bk => exact q4 H4 F4 (Same.refl F4)
      | rt x => exact q4 H4 F4 (Same.refl F4)
end

/-! ### list methods on an own list -/
def MethR (c : Cfg) (r : V → List V → Hp → VK → Prop) (p : List T → List T → Option (List T × T)) : Prop :=
  ∀ (F H : Hp) (l : Addr) (vs us : List V) (ts as ts' : List T) (z : T) (Q : VK), Same F H → H l = some (.lst vs) → RepAll c.g F vs ts → RepAll c.g F us as → p ts as = some (ts', z) →
    (∀ v' vs', RepAll c.g F vs' ts' → Rep c.g F v' z → Q v' (upd H l (.lst vs'))) → r (.ref l) us H Q
def methF (i : Nat) (p : List T → List T → Option (List T × T)) (fa : AF) : EF := fun S => match S.lo[i]? with
  | some (.ow (.lst _)) => (fa S).bind fun os S1 => match vals os, S1.lo[i]? with
    | some us, some (.ow (.lst ts)) => match p ts us with
      | some (ts', z) => .ok (.sh z) (S1.put i (.ow (.lst ts')))
      | none => .stuck
    | _, _ => .stuck
  | _ => .stuck
section
variable {X : Cx} {c : Cfg} {e : Expr} {es : List Expr}
theorem methOut {i : Nat} {id : String} {r : V → List V → Hp → VK → Prop} {p : List T → List T → Option (List T × T)} {fa : AF} (hp : MethR c r p) {σ : L2.St} {H : Hp} {Q : VK} (q : rdE c (methF i p fa) σ H Q) : tBM X.K "list" r (tVar i) (rdA c fa) σ H Q := by
  obtain ⟨τ, F, S, A, q⟩ := q
  unfold methF at q
  split at q
  · rename_i t0 e0
    obtain ⟨o, h1, a, h2, ⟨u, hu, mk⟩, r2⟩ := A.slot e0
    subst h2
    refine ⟨_, h1, ?_, τ, F, S, A, rOut.bind q fun os S1 F1 H1 s1 q1 vs A1 r1 => ?_⟩
    · cases mk with
      | lst r => exact .inl ⟨rfl, _, .inl (.inl hu)⟩
    · split at q1
      · rename_i us ts e1 e2
        split at q1
        · rename_i ts' z e3
          obtain ⟨o, h1', a', h2', ⟨u', hu', mk'⟩, r2'⟩ := A1.slot e2
          subst h2'
          rw [h1] at h1'
          cases h1'
          cases mk' with
          | lst rl =>
            refine hp F1 H1 a _ _ _ _ _ _ _ A1.a.fh hu' rl (r1.vals e1) e3 fun v' vs' rv rz => ?_
            exact q1 _ F1 (Same.refl F1) v' ((A1.change e2 h1 (.lst rv)).pushSh rz)
        · exact q1.elim
      · exact q1.elim
  · exact q.elim
theorem de_meth {i : Nat} {x name : Str} {id : String} {r : V → List V → Hp → VK → Prop} {p : List T → List T → Option (List T × T)} {fa : AF} {p1 apos cpos : Pos} (slot : PySem.Slot "list" name id) (hty : typeOf (.builtin id) = pure (.type "method_descriptor")) (hm : MtR X id r) (hp : MethR c r p)
    (ho : PE X (.Name x p1) (tVar i)) (ha : PA X (e :: es) (rdA c fa))
    (hbase : attributeBase (.Name x p1) name X.env (eval (.Name x p1) X.env) = eval (.Name x p1) X.env := by rfl)
    (hfew : ((backTo cpos (starEach (e :: es) X.env)).all (fun x => !x.1) && (backToKw cpos (keywordEach [] X.env)).all (fun x => x.1.isSome)
      && decide ((e :: es).length + ([] : List Keyword).length + (if ([] : List Keyword).isEmpty then 0 else 1) < 30)) = true := by rfl)
    (hline : (apos.endLine == cpos.line) = true := by rfl) (hs : starEach (e :: es) X.env = (false, eval e X.env) :: starEach es X.env := by rfl) (hplain : (backTo cpos (starEach es X.env)).any (·.1) = false := by rfl) :
    PE X (.Call (.Attribute (.Name x p1) name apos) (e :: es) [] cpos) (rdE c (methF i p fa)) :=
  PE.imp (pe_bm PySem.F.plainAttrs_list slot hty hm ho ha hbase hfew hline hs hplain) fun _ _ _ q => methOut (X := X) (id := id) hp q
theorem de_meth0 {i : Nat} {x name : Str} {id : String} {r : V → List V → Hp → VK → Prop} {p : List T → List T → Option (List T × T)} {p1 apos cpos : Pos} (slot : PySem.Slot "list" name id) (hty : typeOf (.builtin id) = pure (.type "method_descriptor")) (hm : MtR X id r) (hp : MethR c r p)
    (ho : PE X (.Name x p1) (tVar i))
    (hbase : attributeBase (.Name x p1) name X.env (eval (.Name x p1) X.env) = eval (.Name x p1) X.env := by rfl) (hline : (apos.endLine == cpos.line) = true := by rfl) :
    PE X (.Call (.Attribute (.Name x p1) name apos) [] [] cpos) (rdE c (methF i p nilA)) :=
  PE.imp (pe_bm0 PySem.F.plainAttrs_list slot hty hm ho hbase hline) fun σ H Q q => by
    obtain ⟨v, h1, ty, τ, F, S, A, q2⟩ := methOut (X := X) (id := id) hp q
    exact ⟨v, h1, ty, q2 H F (Same.refl F) [] A .nil⟩
end
def apP (ts as : List T) : Option (List T × T) := match as with
  | [t] => if ts.length < sz then some (ts ++ [t], .non) else none
  | _ => none
def exP (ts as : List T) : Option (List T × T) := match as with
  | [.lst us] => if ts.length + us.length ≤ sz then some (ts ++ us, .non) else none
  | _ => none
def popP (ts as : List T) : Option (List T × T) := match as, ts[ts.length - 1]? with
  | [], some t => some (ts.dropLast, t)
  | _, _ => none
def popAtP (ts as : List T) : Option (List T × T) := match as with
  | [.int i] => match seqIndex? i ts.length with
    | some k => match ts[k]? with
      | some t => if -(2 ^ 63) ≤ i ∧ i < 2 ^ 63 then some (ts.eraseIdx k, t) else none
      | none => none
    | none => none
  | _ => none
theorem p_append {c : Cfg} : MethR c rAppend apP := by
  intro F H l vs us ts as ts' z Q s h r ra e k
  unfold apP at e
  split at e
  · split at e
    · rename_i hz
      cases e
      cases ra with
      | cons r1 r0 =>
        cases r0
        exact ⟨l, vs, _, rfl, rfl, h, by rw [r.length, ← sz_eq]; exact hz, k _ _ (r.append (.cons r1 .nil)) .non⟩
    · cases e
  · cases e
theorem p_extend {c : Cfg} : MethR c rExtend exP := by
  intro F H l vs us ts as ts' z Q s h r ra e k
  unfold exP at e
  split at e
  · split at e
    · rename_i hz
      cases e
      cases ra with
      | cons r1 r0 =>
        cases r0
        cases r1 with
        | lst e1 r1 => exact ⟨l, _, vs, _, rfl, rfl, h, s _ _ e1, by rw [r.length, r1.length, ← sz_eq]; exact hz, k _ _ (r.append r1) .non⟩
    · cases e
  · cases e
theorem RepAll.dropLast {g : Ga} {F : Hp} : ∀ {vs : List V} {ts : List T}, RepAll g F vs ts → RepAll g F vs.dropLast ts.dropLast
  | _, _, .nil => .nil
  | _, _, .cons a .nil => .nil
  | _, _, .cons a (.cons b r) => .cons a (RepAll.dropLast (.cons b r))
theorem p_pop {c : Cfg} : MethR c rPop popP := by
  intro F H l vs us ts as ts' z Q s h r ra e k
  unfold popP at e
  split at e
  · rename_i t e1
    cases e
    cases ra
    obtain ⟨v, h1, h2⟩ := r.get e1
    exact ⟨l, vs, v, rfl, rfl, h, by rw [r.length]; exact h1, k _ _ r.dropLast h2⟩
  · cases e
theorem p_popAt {c : Cfg} : MethR c rPopAt popAtP := by
  intro F H l vs us ts as ts' z Q s h r ra e k
  unfold popAtP at e
  split at e
  · rename_i i
    split at e
    · rename_i j e1
      split at e
      · rename_i t e2
        split at e
        · rename_i hh
          cases e
          cases ra with
          | cons r1 r0 =>
            cases r0
            cases r1
            obtain ⟨v, h1, h2⟩ := r.get e2
            exact ⟨l, vs, i, j, v, rfl, rfl, h, hh.1, hh.2, by rw [r.length]; exact e1, h1, k _ _ (r.erase j) h2⟩
        · cases e
      · cases e
    · cases e
  · cases e

/-! ### x[i] = v on an own list -/
def setIF (i : Nat) (fv fi : OF) : SF := fun S => (fv S).bind fun o S1 => match S1.lo[i]? with
  | some (.ow (.lst _)) => (fi S1).bind fun o' S2 => match o, o', S2.lo[i]? with
    | .val t, .val (.int k), some (.ow (.lst ts)) => match ixN ts.length k with
      | some j => .ok .nx (S2.put i (.ow (.lst (ts.set j t))))
      | none => .stuck
    | _, _, _ => .stuck
  | _ => .stuck
theorem sOut.bind2 {α : Type} {c : Cfg} {F : Hp} {D : Ends} {r : R α} {k : α → Sta → R TL.Flow} {σ τ : List (Option V)} {P1 : α → Sta → Hp → Hp → Prop} (h : sOut c F D (r.bind k)) (hτ : τ = [])
    (K : ∀ a S F' H', Same F F' → sOut c F' D (k a S) → P1 a S F' H') : rOut c F σ τ P1 r := by
  subst hτ
  exact sOut.bind h K
theorem ds_setI {X : Cx} {c : Cfg} {i : Nat} {x : Str} {a b : Expr} {fv fi : OF} {p1 pos pos' : Pos} (ho : PE X (.Name x p1) (tVar i)) (hv : PE X b (rdO c fv)) (hi : PE X a (rdO c fi))
    (ha : ∀ v, assign (.Subscript (.Name x p1) a pos) X.env v = (do
      let ov ← holding [v] (eval (.Name x p1) X.env)
      let iv ← holding [v, ov] (eval a X.env)
      standAt pos
      holding [v, ov, iv] (setItem ov iv v)
      release [v, ov, iv] []) := by intro _; rfl)
    (hs : swapsWithSole [.Subscript (.Name x p1) a pos] b pos'.line X.env = pure false := by rfl) (hw : swappedStores [.Subscript (.Name x p1) a pos] b X.env = pure none := by rfl)
    (h1 : (assignEach [.Subscript (.Name x p1) a pos] X.env).map (·.2) = [assign (.Subscript (.Name x p1) a pos) X.env] := by rfl) : PS X (.Assign [.Subscript (.Name x p1) a pos] b pos') (rdS c (setIF i fv fi)) := by
  refine ps_imp (ps_asg hv (pg_sub ho hi set_list ha) hs hw h1) fun D σ H q => ?_
  obtain ⟨F, S, A, q⟩ := q
  refine ⟨[], F, S, A, sOut.bind q fun o S1 F1 H1 s1 q1 v A1 r1 => ?_⟩
  split at q1
  · rename_i t0 e0
    obtain ⟨o2, h1, a2, h2, ⟨u, hu, mk⟩, r2⟩ := A1.slot e0
    subst h2
    refine ⟨_, h1, [], F1, S1, A1, sOut.bind q1 fun o' S2 F2 H2 s2 q2 w A2 r2 => ?_⟩
    split at q2
    · rename_i t k ts e2
      split at q2
      · rename_i j e3
        obtain ⟨o3, h3, a3, h4, ⟨u', hu', mk'⟩, r3⟩ := A2.slot e2
        subst h4
        rw [h1] at h3
        cases h3
        cases mk' with
        | lst rl =>
          cases r2
          exact ⟨_, _, k, j, rfl, rfl, hu', by rw [rl.length]; exact e3, q2 _ F2 (Same.refl F2) σ (A2.change e2 h1 (.lst (rl.set (r1.mono s2) j)))⟩
      · exact q2.elim
    · exact q2.elim
  · exact q1.elim
end TL

end
section
set_option Elab.async false
set_option linter.all false
set_option maxRecDepth 100000
set_option autoImplicit false
/-! TL9: the drawing list, defs and their calls -/
open PySem PySem.Spec PyProof.Rows L2
namespace TL
/-! ### the drawing list -/
def Nib.get (n : Nib) : Nat → Option T
  | 0 => some (.lst (n.cells.map T.int))
  | 1 => some (.int n.turn)
  | 2 => some (.int n.rest)
  | _ => none
def Nib.set (n : Nib) (k : Nat) (z : Int) : Option Nib := match k with
  | 1 => some { n with turn := z }
  | 2 => some { n with rest := z }
  | _ => none
def nibGet (i k : Nat) : EF := fun S => match S.lo[i]? with
  | some (.sh .nib) => match S.nb.get k with
    | some t => .ok (.sh t) S
    | none => .stuck
  | _ => .stuck
def nibSet (i k : Nat) (f : OF) : SF := fun S => (f S).bind fun o S1 => match o, S1.lo[i]? with
  | .val (.int z), some (.sh .nib) => match S1.nb.set k z with
    | some n => .ok .nx { S1 with nb := n }
    | none => .stuck
  | _, _ => .stuck
section
variable {X : Cx} {c : Cfg}
theorem AbsX.setNib {F H : Hp} {S : Sta} {σ τ : List (Option V)} {n : Nib} {p : Addr} (A : AbsX c F S σ τ H) (h : F p = some (.lst (n.cells.map V.int))) {x9 y9 : V} (hp9 : H c.g.nb = some (.lst [.ref p, x9, y9])) : AbsX c F { S with nb := n } σ τ (upd H c.g.nb (.lst [.ref p, .int n.turn, .int n.rest])) := by
  refine ⟨⟨fun b w q => ?_, A.a.fn, ⟨p, upd_same, h⟩, fun b w q n0 ne => ?_, A.a.fre, ?_, A.a.len, fun i s o h1 h2 => ?_, A.a.ds⟩, A.l⟩
  · rw [upd_ne (show b ≠ c.g.nb from fun z => by subst z; rw [A.a.fn] at q; cases q)]; exact A.a.fh b w q
  · rw [upd_ne ne]; exact A.a.keep b w q n0 ne
  · obtain ⟨c0, n1, _⟩ := A.a.nib
    exact ⟨A.a.ext.bs, A.a.ext.nt, tabs_chg A.a.ext.tabs n1 (fun ps z => nomatch z) (fun cc q z => by unfold LamX.CodeO at z; cases z), fun c0 x0 y0 h0 => by
      obtain ⟨x1, y1, h1⟩ := A.a.ext.cel c0 x0 y0 h0
      rw [hp9] at h1
      cases h1
      exact ⟨_, _, upd_same⟩⟩
  · have hh := A.a.sl i s o h1 h2
    cases s with
    | no => trivial
    | fu => exact hh
    | sh t => exact hh
    | ow t =>
      obtain ⟨a, e, ⟨u, hu, mk⟩, f, h0, nn⟩ := hh
      exact ⟨a, e, ⟨u, by rw [upd_ne nn]; exact hu, mk⟩, f, h0, nn⟩
theorem AbsX.nibAt {F H : Hp} {S : Sta} {σ τ : List (Option V)} {i : Nat} (A : AbsX c F S σ τ H) (e : S.lo[i]? = some (.sh .nib)) : σ[i]? = some (some (.ref c.g.nb)) ∧ ∃ p, H c.g.nb = some (.lst [.ref p, .int S.nb.turn, .int S.nb.rest]) ∧ F p = some (.lst (S.nb.cells.map V.int)) := by
  obtain ⟨o, h1, v, h2, r⟩ := A.slot e
  subst h2
  cases r
  exact ⟨h1, A.a.nib⟩
theorem de_nib {i k : Nat} {x : Str} {j : Nat} {p1 p2 pos : Pos} (h : PE X (.Name x p1) (tVar i)) (hk : k < 3 := by decide) : PE X (.Subscript (.Name x p1) (.Constant (.int (k : Int)) j p2) pos) (rdE c (nibGet i k)) := by
  refine PE.imp (pe_ix ix_seq h pe_int (fun _ _ => rfl)) fun σ H Q q => ?_
  obtain ⟨τ, F, S, A, q⟩ := q
  unfold nibGet at q
  split at q
  · rename_i e
    obtain ⟨h1, p, h2, h3⟩ := A.nibAt e
    split at q
    · rename_i t e2
      have q' : ∀ v, AbsX c F (S.push (.sh t)) σ (τ ++ [some v]) H → Q v H := q H F (Same.refl F)
      match k, e2 with
      | 0, e2 => cases e2; exact ⟨_, h1, .inl ⟨_, _, _, .ref p, rfl, rfl, .inl (.inl h2), rfl, q' _ (A.pushSh (.lst h3 (RepAll.of_ints _)))⟩⟩
      | 1, e2 => cases e2; exact ⟨_, h1, .inl ⟨_, _, _, .int S.nb.turn, rfl, rfl, .inl (.inl h2), rfl, q' _ (A.pushSh (.int _))⟩⟩
      | 2, e2 => cases e2; exact ⟨_, h1, .inl ⟨_, _, _, .int S.nb.rest, rfl, rfl, .inl (.inl h2), rfl, q' _ (A.pushSh (.int _))⟩⟩
    · exact q.elim
  · exact q.elim
theorem ds_nib {i k : Nat} {x : Str} {j : Nat} {b : Expr} {fv : OF} {p1 p2 pos pos' : Pos} (ho : PE X (.Name x p1) (tVar i)) (hv : PE X b (rdO c fv))
    (ha : ∀ v, assign (.Subscript (.Name x p1) (.Constant (.int (k : Int)) j p2) pos) X.env v = (do
      let ov ← holding [v] (eval (.Name x p1) X.env)
      let iv ← holding [v, ov] (eval (.Constant (.int (k : Int)) j p2) X.env)
      standAt pos
      holding [v, ov, iv] (setItem ov iv v)
      release [v, ov, iv] []) := by intro _; rfl)
    (hs : swapsWithSole [.Subscript (.Name x p1) (.Constant (.int (k : Int)) j p2) pos] b pos'.line X.env = pure false := by rfl) (hw : swappedStores [.Subscript (.Name x p1) (.Constant (.int (k : Int)) j p2) pos] b X.env = pure none := by rfl)
    (h1 : (assignEach [.Subscript (.Name x p1) (.Constant (.int (k : Int)) j p2) pos] X.env).map (·.2) = [assign (.Subscript (.Name x p1) (.Constant (.int (k : Int)) j p2) pos) X.env] := by rfl) :
    PS X (.Assign [.Subscript (.Name x p1) (.Constant (.int (k : Int)) j p2) pos] b pos') (rdS c (nibSet i k fv)) := by
  refine ps_imp (ps_asg hv (pg_sub ho pe_int set_list ha) hs hw h1) fun D σ H q => ?_
  obtain ⟨F, S, A, q⟩ := q
  refine ⟨[], F, S, A, sOut.bind q fun o S1 F1 H1 s1 q1 v A1 r1 => ?_⟩
  split at q1
  · rename_i z e
    split at q1
    · rename_i n e2
      obtain ⟨g1, p, h2, h3⟩ := A1.nibAt e
      cases r1
      have fin : ∀ n : Nib, n.cells = S1.nb.cells → AbsX c F1 { S1 with nb := n } σ [] (upd H1 c.g.nb (.lst [.ref p, .int n.turn, .int n.rest])) := fun n e => A1.setNib (by rw [e]; exact h3) h2
      match k, e2 with
      | 1, e2 => cases e2; exact ⟨_, g1, _, _, _, 1, rfl, rfl, h2, rfl, q1 _ F1 (Same.refl F1) σ (fin { S1.nb with turn := z } rfl)⟩
      | 2, e2 => cases e2; exact ⟨_, g1, _, _, _, 2, rfl, rfl, h2, rfl, q1 _ F1 (Same.refl F1) σ (fin { S1.nb with rest := z } rfl)⟩
    · exact q1.elim
  · exact q1.elim
end

/-! ### defs -/
inductive FR where
  | ok (x : Slot) (n : Nib) | exc (e : Ex) (n : Nib) | stuck
abbrev Fn := List T → Nib → FR
structure Post (g : Ga) (F H F' H' : Hp) (n : Nib) : Prop where
  sF : Same F F'
  fh : Same F' H'
  fn : F' g.nb = none
  nib : NibRel g F' H' n
  keep : ∀ a o, H a = some o → NT o → a ≠ g.nb → H' a = some o
  tabs : LamX.Tabs g.tb H'
  fre : ∀ a o, H a = some o → NT o → F a = none → F' a = none
  nt : ∀ a o, F' a = some o → NT o
  cel : CelS g H H'
def spOut (g : Ga) (F H : Hp) (Q : VK) (E : XK) : FR → Prop
  | .ok x n => x ≠ .fu → ∀ v F' H', Post g F H F' H' n → SlotRel g F' H' ⟨H, F, .non⟩ x (some v) → Q v H'
  | .exc e n => ∀ cls d F' H', Post g F H F' H' n → ExRel g H F' H' e cls d → E cls d H'
  | .stuck => False
def spT (g : Ga) (np : Nat) (f : Fn) : Sp := fun vs H Q E => ∃ F ts n, ts.length = np ∧ RepAll g F vs ts ∧ Same F H ∧ F g.nb = none ∧ NibRel g F H n ∧ LamX.Tabs g.tb H ∧ (∀ a o, F a = some o → NT o) ∧ spOut g F H Q E (f ts n)
def sta0 (n : Nat) (ts : List T) (nb : Nib) : Sta := ⟨ts.map Slot.sh ++ List.replicate (n - ts.length) .no, [], nb⟩
def fnEnd : R TL.Flow → FR
  | .ok (.rt .fu) _ => .stuck
  | .ok (.rt x) S => .ok x S.nb
  | .ok .nx S => .ok (.sh .non) S.nb
  | .exc e S => .exc e S.nb
  | _ => .stuck
def fnOf (n : Nat) (b : SF) : Fn := fun ts nb => fnEnd (b (sta0 n ts nb))
def callF (np : Nat) (f : Fn) (a : AF) : EF := fun S => (a S).bind fun os S1 => match vals os with
  | some ts => if ts.length = np then match f ts S1.nb with
    | .ok x n => .ok x { S1 with nb := n }
    | .exc e n => .exc e { S1 with nb := n }
    | .stuck => .stuck
    else .stuck
  | none => .stuck
theorem sta0_abs {g : Ga} {F H : Hp} {E : XK} {N : List Str} {vs : List V} {ts : List T} {n : Nib} (r : RepAll g F vs ts) (s : Same F H) (fn : F g.nb = none) (nb : NibRel g F H n) (tb : LamX.Tabs g.tb H) (nt : ∀ a o, F a = some o → NT o) : AbsX ⟨g, ⟨H, F, .non⟩, fun _ => E⟩ F (sta0 N.length ts n) (start N vs) [] H := by
  have l := r.length
  have le : (sta0 N.length ts n).lo.length = (start N vs).length := by
    show (ts.map Slot.sh ++ _).length = (vs.map some ++ _).length
    simp [l]
  refine ⟨⟨s, fn, nb, fun _ _ h _ _ => h, fun _ _ _ _ h => h, ⟨Same.refl F, nt, tb, CelS.refl H⟩, by show (_ ++ []).length = (_ ++ []).length; simpa using le, fun i x o h1 h2 => ?_, fun i j t u a h1 _ _ _ => ?_⟩, le⟩
  · have h1 : ((ts.map Slot.sh ++ List.replicate (N.length - ts.length) .no) ++ [])[i]? = some x := h1
    have h2 : ((vs.map some ++ List.replicate (N.length - vs.length) none) ++ [])[i]? = some o := h2
    rw [List.append_nil] at h1 h2
    by_cases hi : i < ts.length
    · rw [List.getElem?_append_left (by simpa using hi), List.getElem?_map] at h1
      rw [List.getElem?_append_left (by simpa [l] using hi), List.getElem?_map] at h2
      rw [List.getElem?_eq_getElem hi] at h1
      cases h1
      obtain ⟨v, e1, e2⟩ := r.get (List.getElem?_eq_getElem hi)
      rw [e1] at h2
      cases h2
      exact ⟨v, rfl, e2⟩
    · rw [List.getElem?_append_right (by simp; omega)] at h1
      have := List.mem_of_getElem? h1
      rw [List.mem_replicate] at this
      rw [this.2]
      trivial
  · have h1 : ((ts.map Slot.sh ++ List.replicate (N.length - ts.length) .no) ++ [])[i]? = some (.ow t) := h1
    rw [List.append_nil] at h1
    by_cases hi : i < ts.length
    · rw [List.getElem?_append_left (by simpa using hi), List.getElem?_map, List.getElem?_eq_getElem hi] at h1
      cases h1
    · rw [List.getElem?_append_right (by simp; omega)] at h1
      have := List.mem_of_getElem? h1
      rw [List.mem_replicate] at this
      cases this.2
theorem AbsX.post {g : Ga} {F F' H H' : Hp} {E : List (Option V) → XK} {S : Sta} {σ τ : List (Option V)} {fv : V} (A : AbsX ⟨g, ⟨H, F, fv⟩, E⟩ F' S σ τ H') : Post g F H F' H' S.nb :=
  ⟨A.a.ext.bs, A.a.fh, A.a.fn, A.a.nib, A.a.keep, A.a.ext.tabs, A.a.fre, A.a.ext.nt, A.a.ext.cel⟩
section
variable {P : Program} {w : World} {K : PySem.W.Frag} {mg : Str → Option Value} {base : Heap}
/-- a def by its body's reading -/
theorem fn_ok {g : Ga} {x qual : Str} {st : Stmt} {f : Addr} {fd : FuncData} {N ps : List Str} {k : Nat} {b : SF} (Fu : Fun K x qual st f fd) (S : FnScope N ps (defScope st))
    (hb : ∀ (cdv : Value) (A : Around) (outer : List Env) (s : Shared) (H F0 : Hp) (E : XK), Room k (A.deeper (envOfC qual (defScope st) s.heap.objs.size f cdv)) →
      PSs (cxOf (L2.CX P w) P w K mg base N qual (defScope st) f cdv A outer s H E) (defBody st) (rdS ⟨g, ⟨H, F0, .non⟩, fun _ => E⟩ b)) : FnOk P w K mg base (L2.CX P w) (k + 1) f fd ps (spT g ps.length (fnOf N.length b)) := by
  refine Fu.okX S (fun vs H Q E h => ?_) (fun cdv A outer s H vs Q E hr h => ?_)
  · obtain ⟨F, ts, n, hl, r, _⟩ := h
    rw [r.length, hl]
  · obtain ⟨F, ts, n, hl, r, s1, fn, nb, tb, nt, q⟩ := h
    refine ⟨_, hb cdv A outer s H F E hr, F, sta0 N.length ts n, sta0_abs r s1 fn nb tb nt, ?_⟩
    unfold fnOf at q
    cases e : b (sta0 N.length ts n) with
    | ok fl S1 =>
      rw [e] at q
      intro H' F' s2
      cases fl with
      | nx => exact fun σ' A' => q (fun z => nomatch z) .non F' H' A'.post ⟨.non, rfl, .non⟩
      | rt x =>
        refine fun v σ' A' => ?_
        have A2 : AbsX ⟨g, ⟨H, F, .non⟩, fun _ => E⟩ F' (S1.push x) σ' ([] ++ [some v]) H' := A'
        cases x with
        | fu => exact q.elim
        | no => exact q (fun z => nomatch z) v F' H' A2.pop.post A2.as.top
        | sh t => exact q (fun z => nomatch z) v F' H' A2.pop.post A2.as.top
        | ow t => exact q (fun z => nomatch z) v F' H' A2.pop.post A2.as.top
      | bk => exact q.elim
      | ct => exact q.elim
    | exc ex S1 =>
      rw [e] at q
      exact fun cls d σ' H' F' s2 A' er => q cls d F' H' A'.post er
    | stuck => rw [e] at q; exact q.elim
end
section
variable {X : Cx} {c : Cfg}
theorem Post.abs {F H F' H' : Hp} {n : Nib} {S : Sta} {σ τ : List (Option V)} (A : AbsX c F S σ τ H) (p : Post c.g F H F' H' n) : AbsX c F' { S with nb := n } σ τ H' := by
  refine ⟨⟨p.fh, p.fn, p.nib, fun a o h n0 ne => p.keep a o (A.a.keep a o h n0 ne) n0 ne, fun a o h n0 h2 => ?_, ⟨A.a.ext.bs.trans p.sF, p.nt, p.tabs, A.a.ext.cel.trans p.cel⟩, A.a.len, fun i s o h1 h2 => ?_, A.a.ds⟩, A.l⟩
  · by_cases ne : a = c.g.nb
    · subst ne; exact p.fn
    · exact p.fre a o (A.a.keep a o h n0 ne) n0 (A.a.fre a o h n0 h2)
  · have hh := A.a.sl i s o h1 h2
    cases s with
    | no => trivial
    | fu => exact hh
    | sh t => obtain ⟨v, e, r⟩ := hh; exact ⟨v, e, r.mono p.sF⟩
    | ow t =>
      obtain ⟨a, e, ⟨u, hu, mk⟩, f, h0, nn⟩ := hh
      exact ⟨a, e, ⟨u, p.keep a u hu mk.noT nn, mk.mono p.sF⟩, p.fre a u hu mk.noT f, h0, nn⟩
theorem Post.res {F H F' H' : Hp} {n : Nib} {S : Sta} {σ τ : List (Option V)} {x : Slot} {v : V} (A : AbsX c F S σ τ H) (p : Post c.g F H F' H' n) (hx : x ≠ .fu) (r : SlotRel c.g F' H' ⟨H, F, .non⟩ x (some v)) : AbsX c F' (Sta.push { S with nb := n } x) σ (τ ++ [some v]) H' := by
  have A1 := p.abs A
  cases x with
  | no => exact .mk' (A1.a.pushNo _) A1.l
  | fu => exact absurd rfl hx
  | sh t => obtain ⟨w, e, r⟩ := r; cases e; exact A1.pushSh r
  | ow t =>
    obtain ⟨a, e, ⟨u, hu, mk⟩, f, h0, nn⟩ := r
    cases e
    have hz : ∀ (i : Nat) (t' : T), S.z.sl[i]? = some (.ow t') → (σ ++ τ)[i]? = some (some (.ref a)) → False := fun i t' h1 h2 => by
      obtain ⟨a', e', ⟨u', hu', mk'⟩, _⟩ := A.a.sl i _ _ h1 h2
      cases e'
      obtain ⟨ps, e⟩ := (show Fr0 H a from h0) _ hu'
      exact mk'.noT ps e
    refine .mk' ⟨A1.a.fh, A1.a.fn, A1.a.nib, A1.a.keep, A1.a.fre, A1.a.ext, by have := A1.a.len; simp only [PS0.push, List.length_append, this, List.length_singleton], fun i s o h1 h2 => ?_, fun i j t1 t2 b h1 h2 h3 h4 => ?_⟩ A1.l
    · rcases getE_snoc h1 with ⟨l1, e1⟩ | ⟨l1, e1⟩
      · rw [getE_snoc_lt (A1.a.len ▸ l1)] at h2
        exact A1.a.sl i s o e1 h2
      · subst e1
        subst l1
        rw [A1.a.len, getE_snoc_last] at h2
        cases h2
        exact ⟨a, rfl, ⟨u, hu, mk⟩, f, A.a.fr0 h0, nn⟩
    · rcases getE_snoc h1 with ⟨l1, e1⟩ | ⟨l1, e1⟩
      · rcases getE_snoc h2 with ⟨l2, e2⟩ | ⟨l2, e2⟩
        · rw [getE_snoc_lt (A1.a.len ▸ l1)] at h3
          rw [getE_snoc_lt (A1.a.len ▸ l2)] at h4
          exact A1.a.ds i j t1 t2 b e1 e2 h3 h4
        · subst l2
          rw [A1.a.len, getE_snoc_last] at h4
          cases h4
          rw [getE_snoc_lt (A1.a.len ▸ l1)] at h3
          exact (hz i _ e1 h3).elim
      · subst l1
        rw [A1.a.len, getE_snoc_last] at h3
        cases h3
        rcases getE_snoc h2 with ⟨l2, e2⟩ | ⟨l2, e2⟩
        · rw [getE_snoc_lt (A1.a.len ▸ l2)] at h4
          exact (hz j _ e2 h4).elim
        · exact l2.symm
theorem ExRel.up {F F' H H' : Hp} {S : Sta} {σ τ : List (Option V)} {e : Ex} {cls : Value} {d : Option Addr} (r : ExRel c.g H F' H' e cls d) (A : AbsX c F S σ τ H) : ExRel c.g c.B.H F' H' e cls d := by
  obtain ⟨h1, a, fs, h2, h3, h4⟩ := r
  exact ⟨h1, a, fs, h2, A.a.fr0 h3, h4⟩
theorem callOut {np : Nat} {fn : Fn} {fa : AF} {σ : L2.St} {H : Hp} {Q : VK} (q : rdE c (callF np fn fa) σ H Q) : tCallS (spT c.g np fn) c.E (rdA c fa) σ H Q := by
  obtain ⟨τ, F, S, A, q⟩ := q
  refine ⟨τ, F, S, A, rOut.bind q fun os S1 F1 H1 s1 q1 vs A1 r1 => ?_⟩
  split at q1
  · rename_i ts e1
    split at q1
    · rename_i hl
      refine ⟨F1, ts, S1.nb, hl, r1.vals e1, A1.a.fh, A1.a.fn, A1.a.nib, A1.a.ext.tabs, A1.a.ext.nt, ?_⟩
      cases e2 : fn ts S1.nb with
      | ok x n =>
        rw [e2] at q1
        exact fun nf v F' H' p r => q1 H' F' p.sF v (p.res A1 nf r)
      | exc e n =>
        rw [e2] at q1
        exact fun cls d F' H' p r => q1 cls d H' F' p.sF (p.abs A1) (r.up A1)
      | stuck => rw [e2] at q1; exact q1.elim
    · exact q1.elim
  · exact q1.elim
variable {k : Nat} {f : Addr} {fd : FuncData} {ps : List Str} {fn : Fn} {x : Str} {p pos : Pos} {e : Expr} {es : List Expr}
theorem de_call {fa : AF} (F : FnOk X.prog X.w X.K X.mg X.base (L2.CX X.prog X.w) k f fd ps (spT c.g ps.length fn)) (hr : Room k X.A) (hg : Gl X x) (hm : X.mg x = some (.ref f)) (hk : PySem.W.keepIn X.K (.ref f) = true) (hb : Binds X.K fd ps []) (hx : ∀ σ, PassesAt (L2.CX X.prog X.w) X σ (c.E σ))
    (ha : PA X (e :: es) (rdA c fa)) (hdb : (x == ("__debug__" : Str)) = false := by decide) (he : starEach (e :: es) X.env = (false, eval e X.env) :: starEach es X.env := by rfl) (hpl : (backTo pos (starEach es X.env)).any (·.1) = false := by rfl) :
    PE X (.Call (.Name x p) (e :: es) [] pos) (rdE c (callF ps.length fn fa)) :=
  PE.imp (pe_callS F hr hg hm hk hb hx ha hdb he hpl) fun _ _ _ q => callOut q
end
theorem passS {X : Cx} {CX : CXT} {E : XK} (h : Passes CX X E) (σ : L2.St) : PassesAt CX X σ E := fun pins H s e s' I c => h pins σ H s e s' I c
/-- callees' exceptions in a def's own body, in a block within it -/
theorem pass_own {X : Cx} {E : XK} (hs : X.stack = X.env :: X.outer) (hf : X.env.frame = some X.env.locals) (hex : X.ex = []) {E₁ : Value → Shared → Prop}
    (hx : X.xe = fun e s' => wpAny (model X.prog X.w) X.A (leaving X.env e) (fun _ s'' => L2.CX X.prog X.w X.outer X.H_0 X.s_0 E e s'') E₁ s') : Passes (L2.CX X.prog X.w) X E := passes_call (takes_of hs hf hex hx) fun _ _ _ _ h => h
end TL

end
section
set_option Elab.async false
set_option linter.all false
set_option maxRecDepth 100000
set_option autoImplicit false
/-! TL10: calls with keywords; the law's head -/
open PySem PySem.Spec PyProof.Rows L2
namespace TL
/-- the keywords' values in the parameters' order -/
def prm {α : Type} (pm : List Nat) (l : List α) : List α := pm.filterMap fun i => l[i]?
theorem prm_length {α : Type} {l : List α} : ∀ {pm : List Nat}, (∀ i ∈ pm, i < l.length) → (prm pm l).length = pm.length
  | [], _ => rfl
  | i :: pm, h => by
    unfold prm
    rw [List.filterMap_cons, List.getElem?_eq_getElem (h i List.mem_cons_self)]
    show (_ :: _).length = _
    rw [List.length_cons, List.length_cons]
    exact congrArg (· + 1) (prm_length fun j hj => h j (List.mem_cons_of_mem _ hj))
theorem RepAll.prm {g : Ga} {F : Hp} {vs : List V} {ts : List T} (r : RepAll g F vs ts) : ∀ pm : List Nat, RepAll g F (TL.prm pm vs) (TL.prm pm ts)
  | [] => .nil
  | i :: pm => by
    unfold TL.prm
    rw [List.filterMap_cons, List.filterMap_cons]
    cases e : ts[i]? with
    | none =>
      have : vs[i]? = none := by rw [List.getElem?_eq_none_iff] at e ⊢; rw [r.length]; exact e
      rw [this]
      exact RepAll.prm r pm
    | some t =>
      obtain ⟨v, h1, h2⟩ := r.get e
      rw [h1]
      exact .cons h2 (RepAll.prm r pm)
theorem vals_prm {vs : List V} {us : List Value} (r : Vals vs us) : ∀ pm : List Nat, Vals (prm pm vs) (prm pm us)
  | [] => .nil
  | i :: pm => by
    unfold prm
    rw [List.filterMap_cons, List.filterMap_cons]
    cases e : vs[i]? with
    | none =>
      have : us[i]? = none := by rw [List.getElem?_eq_none_iff] at e ⊢; rw [← r.length]; exact e
      rw [this]
      exact vals_prm r pm
    | some t =>
      obtain ⟨v, h1, h2⟩ := r.get e
      rw [h1]
      exact .cons h2 (vals_prm r pm)
structure PmOk (pm : List Nat) (n : Nat) : Prop where
  len : pm.length = n
  lt : ∀ i ∈ pm, i < n
def BindsK (fd : FuncData) (ps ks : List Str) (pm : List Nat) : Prop := ∀ (s : Shared) (us ws : List Value), us.length + ws.length = ps.length → ws.length = ks.length → BindsTo s fd ⟨us, ks.zip ws⟩ (ps.zip (us ++ prm pm ws))
theorem bindsK {K : PySem.W.Frag} {x qual : Str} {st : Stmt} {f : Addr} {fd : FuncData} {ps ks : List Str} {pm : List Nat} (F : Fun K x qual st f fd)
    (h : ∀ (kV doc pm' : Value) (an : Option Addr) (cdv ct : Value) (us ws : List Value), us.length + ws.length = ps.length → ws.length = ks.length → bindArgs (PySem.W.fnOf x qual (defArgs st) (defBody st) (defScope st) .none kV doc pm' an cdv ct) ⟨us, ks.zip ws⟩ = pure (ps.zip (us ++ prm pm ws))) : BindsK fd ps ks pm := by
  obtain ⟨oc, od, kV, doc, pm', an, cdv, ct, osl, rfl, lk, hcd⟩ := F.ex
  exact fun s us ws h1 h2 => .of_eq (h kV doc pm' an cdv ct us ws h1 h2)
def appA (a b : AF) : AF := fun S => (a S).bind fun os S1 => (b S1).bind fun os' S2 => .ok (os ++ os') S2
section
variable {X : Cx} {c : Cfg} {k : Nat} {f : Addr} {fd : FuncData} {ps ks : List Str} {fn : Fn} {x : Str} {p pos kpos : Pos} {e : Expr} {es : List Expr} {kws : List Keyword} {nm : Option Str} {pm : List Nat}
theorem PK.imp {e : List Keyword} {t t' : TA} (h : PK X e t) (w : ∀ σ H Q, t' σ H Q → t σ H Q) : PK X e t' := ⟨fun p pins s σ H Q I q => h.run p pins s σ H Q I (w σ H Q q)⟩
theorem dk_nil : PK X [] (rdA c nilA) := by
  refine PK.imp pk_nil fun σ H Q q => ?_
  obtain ⟨τ, F, S, A, q⟩ := q
  exact q H F (Same.refl F) [] A .nil
theorem dk_cons {fe : OF} {r : AF} (h : PE X e (rdO c fe)) (hr : PK X kws (rdA c r)) : PK X (⟨nm, e, kpos⟩ :: kws) (rdA c (consA fe r)) := by
  refine PK.imp (pk_cons h hr) fun σ H Q q => ?_
  obtain ⟨τ, F, S, A, q⟩ := q
  refine ⟨τ, F, S, A, rOut.bind q fun o S1 F1 H1 s1 q1 v A1 r1 => ⟨τ, F1, S1, A1, rOut.bind q1 fun os S2 F2 H2 s2 q2 vs A2 r2 => ?_⟩⟩
  exact q2 H2 F2 (Same.refl F2) (v :: vs) A2 (.cons (r1.mono s2) r2)
theorem run_fnk' {pins : List (Addr × Obj)} {σ : L2.St} {H : Hp} {s : Shared} {sp : Sp} {Q : VK} {us ws : List Value} {vs zs : List V} {E : XK} (F : FnOk X.prog X.w X.K X.mg X.base (L2.CX X.prog X.w) k f fd ps sp) (hr : Room k X.A) (hb : BindsK fd ps ks pm) (hx : PassesAt (L2.CX X.prog X.w) X σ E) (hl : zs.length = ks.length)
    (hpm : PmOk pm ks.length) (I : Inv X pins σ H s) (r : Vals vs us) (rz : Vals zs ws) (h : sp (vs ++ prm pm zs) H Q E) : wpAny (model X.prog X.w) X.A (call (.ref f) us (ks.zip ws)) (EP X pins σ Q) X.xe s := by
  have r2 := r.append (vals_prm rz pm)
  have hl2 : (vs ++ prm pm zs).length = ps.length := F.len _ _ _ _ h
  have l1 := r.length
  have l2 := rz.length
  have l3 : (prm pm zs).length = pm.length := prm_length fun i hi => by rw [hl]; exact hpm.lt i hi
  have l4 := hpm.len
  rw [List.length_append] at hl2
  refine wpAny_call (codeAny_mono (F.run X.A X.stack s H ⟨us, ks.zip ws⟩ (us ++ prm pm ws) (vs ++ prm pm zs) Q E hr I.env0 (hb s us ws (by omega) (by omega)) r2 h) fun r s' hq => ?_)
  cases r with
  | error e => exact hx pins H s e s' I hq
  | ok fl =>
    cases fl with
    | ret u => exact I.after hq
    | next => exact False.elim hq
    | brk => exact False.elim hq
    | cont => exact False.elim hq
def tCallKW (sp : Sp) (n : Nat) (pm : List Nat) (E : L2.St → XK) (t tk : TA) : TE := fun σ H Q => t σ H fun vs H1 => tk σ H1 fun zs H2 => zs.length = n ∧ sp (vs ++ prm pm zs) H2 Q (E σ)
theorem pe_callKW0 {sp : Sp} {tk : TA} (F : FnOk X.prog X.w X.K X.mg X.base (L2.CX X.prog X.w) k f fd ps sp) (hr : Room k X.A) (hg : Gl X x) (hm : X.mg x = some (.ref f)) (hk : PySem.W.keepIn X.K (.ref f) = true) (hb : BindsK fd ps ks pm) (hpm : PmOk pm ks.length) (hx : ∀ σ, PassesAt (L2.CX X.prog X.w) X σ (c.E σ))
    (hkw : PK X kws tk) (hall : (backToKw pos (keywordEach kws X.env)).all (·.1.isSome) = true := by rfl) (hks : (backToKw pos (keywordEach kws X.env)).filterMap (·.1) = ks := by rfl)
    (hdb : (x == ("__debug__" : Str)) = false := by decide) (hpl : ((backTo pos (starEach [] X.env)).any (·.1) || (backToKw pos (keywordEach kws X.env)).any (·.1.isNone)) = false := by rfl) :
    PE X (.Call (.Name x p) [] kws pos) (tCallKW sp ks.length pm c.E tNil tk) := by
  refine ⟨fun pins s σ H Q I h => ?_⟩
  refine wpAny_Call_Name_kw (ld_glob I hg hm ?_ hdb)
  refine PySem.W.callWith_KW0 (h₀ := X.base) I.ok.mod.kin hk hall (thn (hkw.run pos pins s σ H _ I h) fun ws s2 ⟨zs, H2, I2, rz, q2⟩ => ⟨I2.kIn, ?_⟩) hpl
  rw [hks]
  exact run_fnk' F hr hb (hx σ) q2.1 hpm I2 .nil rz q2.2
theorem pe_callKW {sp : Sp} {t tk : TA} (F : FnOk X.prog X.w X.K X.mg X.base (L2.CX X.prog X.w) k f fd ps sp) (hr : Room k X.A) (hg : Gl X x) (hm : X.mg x = some (.ref f)) (hk : PySem.W.keepIn X.K (.ref f) = true) (hb : BindsK fd ps ks pm) (hpm : PmOk pm ks.length) (hx : ∀ σ, PassesAt (L2.CX X.prog X.w) X σ (c.E σ))
    (ha : PA X (e :: es) t) (hkw : PK X kws tk) (hall : (backToKw pos (keywordEach kws X.env)).all (·.1.isSome) = true := by rfl) (hks : (backToKw pos (keywordEach kws X.env)).filterMap (·.1) = ks := by rfl)
    (hdb : (x == ("__debug__" : Str)) = false := by decide) (he : starEach (e :: es) X.env = (false, eval e X.env) :: starEach es X.env := by rfl)
    (hpl : ((backTo pos (starEach (e :: es) X.env)).any (·.1) || (backToKw pos (keywordEach kws X.env)).any (·.1.isNone)) = false := by rfl) :
    PE X (.Call (.Name x p) (e :: es) kws pos) (tCallKW sp ks.length pm c.E t tk) := by
  refine ⟨fun pins s σ H Q I h => ?_⟩
  refine wpAny_Call_Name_kw (ld_glob I hg hm ?_ hdb)
  refine PySem.W.callWith_KW (h₀ := X.base) I.ok.mod.kin hk hall (thn (ha.run pos pins s σ H _ I h) fun us s1 ⟨vs, H1, I1, r, q⟩ => ?_) hpl he
  refine thn (hkw.run pos pins s1 σ H1 _ I1 q) fun ws s2 ⟨zs, H2, I2, rz, q2⟩ => ⟨I2.kIn, ?_⟩
  rw [hks]
  exact run_fnk' F hr hb (hx σ) q2.1 hpm I2 r rz q2.2
theorem OpdAll.append {g : Ga} {F : Hp} {σ : List (Option V)} : ∀ {os us : List Opd} {vs ws : List V}, OpdAll g F σ os vs → OpdAll g F σ us ws → OpdAll g F σ (os ++ us) (vs ++ ws)
  | _, _, _, _, .nil, q => q
  | _, _, _, _, .cons a b, q => .cons a (OpdAll.append b q)
theorem vals_app : ∀ (os us : List Opd), vals (os ++ us) = (vals os).bind fun a => (vals us).map (a ++ ·)
  | [], us => by cases h : vals us <;> simp [vals, h]
  | .val t :: os, us => by
    show (vals (os ++ us)).map _ = _
    rw [vals_app os us]
    cases h : vals os <;> cases h2 : vals us <;> simp [vals, h, h2]
  | .pl _ :: _, _ => rfl
def callKF (np nk : Nat) (pm : List Nat) (f : Fn) (a b : AF) : EF := fun S => (a S).bind fun os S1 => (b S1).bind fun us S2 => match vals os, vals us with
  | some ts, some zs => if ts.length + zs.length = np ∧ zs.length = nk then match f (ts ++ prm pm zs) S2.nb with
    | .ok x n => .ok x { S2 with nb := n }
    | .exc e n => .exc e { S2 with nb := n }
    | .stuck => .stuck
    else .stuck
  | _, _ => .stuck
theorem callKOut {np nk : Nat} {pm : List Nat} {fn : Fn} {fa fb : AF} (hpm : PmOk pm nk) {σ : L2.St} {H : Hp} {Q : VK} (q : rdE c (callKF np nk pm fn fa fb) σ H Q) : tCallKW (spT c.g np fn) nk pm c.E (rdA c fa) (rdA c fb) σ H Q := by
  obtain ⟨τ, F, S, A, q⟩ := q
  refine ⟨τ, F, S, A, rOut.bind q fun os S0 F0 H0 s0 q0 vs A0 r0 => ⟨τ, F0, S0, A0, rOut.bind q0 fun us S1 F1 H1 s1 q1 zs A1 r1 => ?_⟩⟩
  split at q1
  · rename_i ts us' e1 e2
    split at q1
    · rename_i hl
      have rz := r1.vals e2
      refine ⟨by rw [rz.length]; exact hl.2, F1, ts ++ prm pm us', S1.nb, by rw [List.length_append, prm_length (fun i hi => by rw [hl.2]; exact hpm.lt i hi), hpm.len, ← hl.2]; exact hl.1, ((r0.vals e1).mono s1).append (rz.prm pm), A1.a.fh, A1.a.fn, A1.a.nib, A1.a.ext.tabs, A1.a.ext.nt, ?_⟩
      cases e3 : fn (ts ++ prm pm us') S1.nb with
      | ok x n =>
        rw [e3] at q1
        exact fun nf v F' H' p r => q1 H' F' p.sF v (p.res A1 nf r)
      | exc e n =>
        rw [e3] at q1
        exact fun cls d F' H' p r => q1 cls d H' F' p.sF (p.abs A1) (r.up A1)
      | stuck => rw [e3] at q1; exact q1.elim
    · exact q1.elim
  · exact q1.elim
theorem de_callKW0 {fb : AF} (F : FnOk X.prog X.w X.K X.mg X.base (L2.CX X.prog X.w) k f fd ps (spT c.g ps.length fn)) (hr : Room k X.A) (hg : Gl X x) (hm : X.mg x = some (.ref f)) (hk : PySem.W.keepIn X.K (.ref f) = true) (hb : BindsK fd ps ks pm) (hpm : PmOk pm ks.length) (hx : ∀ σ, PassesAt (L2.CX X.prog X.w) X σ (c.E σ))
    (hkw : PK X kws (rdA c fb)) (hall : (backToKw pos (keywordEach kws X.env)).all (·.1.isSome) = true := by rfl) (hks : (backToKw pos (keywordEach kws X.env)).filterMap (·.1) = ks := by rfl)
    (hdb : (x == ("__debug__" : Str)) = false := by decide) (hpl : ((backTo pos (starEach [] X.env)).any (·.1) || (backToKw pos (keywordEach kws X.env)).any (·.1.isNone)) = false := by rfl) :
    PE X (.Call (.Name x p) [] kws pos) (rdE c (callKF ps.length ks.length pm fn nilA fb)) :=
  PE.imp (pe_callKW0 F hr hg hm hk hb hpm hx hkw hall hks hdb hpl) fun σ H Q q => by
    have q1 := callKOut hpm q
    obtain ⟨τ, F, S, A, q2⟩ := q1
    exact q2 H F (Same.refl F) [] A .nil
theorem de_callKW {fa fb : AF} (F : FnOk X.prog X.w X.K X.mg X.base (L2.CX X.prog X.w) k f fd ps (spT c.g ps.length fn)) (hr : Room k X.A) (hg : Gl X x) (hm : X.mg x = some (.ref f)) (hk : PySem.W.keepIn X.K (.ref f) = true) (hb : BindsK fd ps ks pm) (hpm : PmOk pm ks.length) (hx : ∀ σ, PassesAt (L2.CX X.prog X.w) X σ (c.E σ))
    (ha : PA X (e :: es) (rdA c fa)) (hkw : PK X kws (rdA c fb)) (hall : (backToKw pos (keywordEach kws X.env)).all (·.1.isSome) = true := by rfl) (hks : (backToKw pos (keywordEach kws X.env)).filterMap (·.1) = ks := by rfl)
    (hdb : (x == ("__debug__" : Str)) = false := by decide) (he : starEach (e :: es) X.env = (false, eval e X.env) :: starEach es X.env := by rfl)
    (hpl : ((backTo pos (starEach (e :: es) X.env)).any (·.1) || (backToKw pos (keywordEach kws X.env)).any (·.1.isNone)) = false := by rfl) :
    PE X (.Call (.Name x p) (e :: es) kws pos) (rdE c (callKF ps.length ks.length pm fn fa fb)) :=
  PE.imp (pe_callKW F hr hg hm hk hb hpm hx ha hkw hall hks hdb he hpl) fun _ _ _ q => callKOut hpm q
end

/-! ### the drawing list is made: [[int(c) for c in script[:n]], 0, 0] -/
def spCan (K : PySem.W.Frag) : Sp := fun vs H Q _ => ∃ (a : Addr) (ns : List Int), vs = [.ref a] ∧ SqL K H a (ns.map V.int) ∧ ns.length ≤ 63 ∧
  ∀ H' p q, Same H H' → H p = none → H q = none → p ≠ q → H' p = some (.lst [.ref q, .int 0, .int 0]) → H' q = some (.lst (ns.map V.int)) → Q (.ref p) H'
/-- from there on, whatever the list's place -/
def tNb (c : Addr → Cfg) (f : SF) : TS := fun D σ H => ∃ nb, rdS (c nb) f D σ H
theorem pss_nb {X : Cx} {c : Addr → Cfg} {f : SF} {sts : List Stmt} (h : ∀ nb, PSs X sts (rdS (c nb) f)) : PSs X sts (tNb c f) :=
  ⟨fun pins s σ H D I q => (let ⟨nb, q⟩ := q; (h nb).run pins s σ H D I q)⟩
end TL
namespace TL
theorem bt_len : bootBuiltins "len" = some (.builtin "len") := by decide +kernel
theorem bt_abs : bootBuiltins "abs" = some (.builtin "abs") := by decide +kernel
theorem bt_sum : bootBuiltins "sum" = some (.builtin "sum") := by decide +kernel
theorem bt_all : bootBuiltins "all" = some (.builtin "all") := by decide +kernel
theorem bt_any : bootBuiltins "any" = some (.builtin "any") := by decide +kernel
theorem bt_max : bootBuiltins "max" = some (.builtin "max") := by decide +kernel
theorem bt_min : bootBuiltins "min" = some (.builtin "min") := by decide +kernel
theorem bt_sorted : bootBuiltins "sorted" = some (.builtin "sorted") := by decide +kernel
theorem bt_int : bootBuiltins "int" = some (.type "int") := by decide +kernel
theorem bt_bool : bootBuiltins "bool" = some (.type "bool") := by decide +kernel
theorem bt_str : bootBuiltins "str" = some (.type "str") := by decide +kernel
theorem bt_list : bootBuiltins "list" = some (.type "list") := by decide +kernel
theorem bt_tuple : bootBuiltins "tuple" = some (.type "tuple") := by decide +kernel
theorem bt_dict : bootBuiltins "dict" = some (.type "dict") := by decide +kernel
theorem bt_set : bootBuiltins "set" = some (.type "set") := by decide +kernel
theorem hu65 {k : Nat} {A : Around} (hr : Room k A) : A.units + 65 < cLine := by have := hr.un; omega
theorem hu10 {k : Nat} {A : Around} (hr : Room k A) : A.units + 10 < cLine := by have := hr.un; omega
end TL
namespace TL
theorem cut_take (xs : List V) (m : Nat) : cutV xs none (some (m : Int)) = xs.take m := by
  unfold cutV
  rw [HT.sIx_none, HT.sIx_nat, List.drop_zero, Nat.sub_zero]
  by_cases h : m ≤ xs.length
  · rw [Nat.min_eq_left h]
  · rw [Nat.min_eq_right (by omega), List.take_of_length_le (Nat.le_refl _), List.take_of_length_le (by omega)]
def spCanN (m : Nat) (K : PySem.W.Frag) : Sp := fun vs H Q _ => ∃ (a : Addr) (ns : List Int), vs = [.ref a] ∧ SqL K H a (ns.map V.int) ∧ ns.length ≤ 1000 ∧
  ∀ H' p q, Same H H' → p ≠ q → H' p = some (.lst [.ref q, .int 0, .int 0]) → H' q = some (.lst ((ns.take m).map V.int)) → Q (.ref p) H'
theorem lst_new {H : Hp} {p : Addr} {o : HO} (h : H p = none) : Same H (upd H p o) := fun b x e => by
  rw [upd_ne (ne_of_none e h)]
  exact e
theorem can_lc {K : PySem.W.Frag} {te : TE} {H1 : Hp} {c D : Addr} {Q : Hp → Prop} {ns : List Int} (hl : ns.length ≤ 1000) (hc : H1 c = some (.lst (ns.map V.int))) (hD : H1 D = none) {σ : L2.St}
    (ht : ∀ (σ2 : L2.St) (i : Int) (H : Hp) (Q : VK), σ2[1]? = some (some (.int i)) → Q (.int i) H → te σ2 H Q) (h1 : 1 < σ.length) (q : ∀ H', Same H1 H' → H' D = some (.lst (ns.map V.int)) → Q H') :
    ∃ W : Nat → Nat → Hp → Prop, (∃ m, W 0 m (upd H1 D (.lst []))) ∧ ∀ i m H, W i m H →
  ((Itl K c).stop i H ∧ Q H) ∨ ((Itl K c).go i H ∧ ∃ Nx : Hp → Prop, (∀ H', Nx H' → ∃ m', m' < m ∧ W (i + 1) m' H') ∧ ∀ x H', (Itl K c).yld i H x H' → gName 1 x (wipe σ [1]) H' fun σ2 H2 => wipe σ2 [1] = wipe σ [1] ∧ tYes σ2 H2 fun b H3 =>
    if b = true then te σ2 H3 fun y H4 => ∃ acc, H4 D = some (.lst acc) ∧ acc.length < sizeLine ∧ Nx (upd H4 D (.lst (acc ++ [y]))) else Nx H3) := by
  have ncD : c ≠ D := fun z => by subst z; rw [hc] at hD; cases hD
  refine lc_list (K := K) (a := c) (xs := ns.map V.int) (fun i H => Same H1 H ∧ H D = some (.lst ((ns.take i).map V.int))) ⟨lst_new hD, by rw [upd_same]; rfl⟩ (fun i H _ p => .inl (.inl (p.1 _ _ hc))) (fun i x H hx p => ?_) (fun H p => ?_)
  · have hi : i < ns.length := by have := (List.getElem?_eq_some_iff.mp hx).1; simpa using this
    rw [List.getElem?_map, List.getElem?_eq_getElem hi] at hx
    cases hx
    refine ⟨?_, ?_⟩
    · show ((σ.set 1 none).set 1 _).set 1 none = σ.set 1 none
      rw [List.set_set, List.set_set]
    · show te (List.set (wipe σ [1]) 1 (some (.int ns[i]))) H _
      refine ht _ ns[i] _ _ ?_ ⟨_, p.2, ?_, ?_, ?_⟩
      · show ((σ.set 1 none).set 1 _)[1]? = _
        rw [List.getElem?_set_self (by rw [List.length_set]; exact h1)]
      · rw [List.length_map, List.length_take]
        exact small1000 (by omega)
      · exact fun b x e => by rw [upd_ne (ne_of_none e hD)]; exact p.1 b x e
      · rw [upd_same, List.take_add_one, List.getElem?_eq_getElem hi, List.map_append]; rfl
  · rw [List.length_map, List.take_of_length_le (Nat.le_refl _)] at p
    exact q H p.1 p.2
end TL

namespace TL
def spLaw (K : PySem.W.Frag) (tb : List (Addr × Str)) : Sp := fun vs H Q _ => ∃ (a : Addr) (ns : List Int), vs = [.ref a] ∧ SqL K H a (ns.map V.int) ∧ ns.length ≤ 63 ∧ (∀ z ∈ ns, Builtin.Int.intBits z ≤ 1048576) ∧ LamX.Tabs tb H ∧ ∀ H', Q (.bl true) H'
def cLaw (K : PySem.W.Frag) (ca : Nat → Addr) (tb : List (Addr × Str)) (E : XK) (nb : Addr) : Cfg := ⟨⟨K, nb, ca, tb⟩, ⟨fun _ => none, fun _ => none, .non⟩, fun _ => E⟩
theorem law_read {K : PySem.W.Frag} {ca : Nat → Addr} {tb : List (Addr × Str)} {E : XK} {m n : Nat} {f : SF} {D : Ends} {a : Addr} {H : Hp} {ns : List Int} (hn : n = n - 2 + 2) (hS : SqL K H a (ns.map V.int)) (hl : ns.length ≤ 63) (ht : LamX.Tabs tb H) (q : ∀ H', D.rt (.bl true) H')
    (hf : ∃ S', f ⟨.no :: .sh .nib :: List.replicate (n - 2) .no, [], ⟨ns.take m, 0, 0⟩⟩ = .ok (.rt (.sh (.bl true))) S') {σ : L2.St} (hσ : σ = some (.ref a) :: List.replicate (n - 1) none) :
    tSeq (tAsg (tCall (spCanN m K) [] E (tCons (tVar 0) tNil)) (gName 1)) (tNb (cLaw K ca tb E) f) D σ H := by
  subst hσ
  obtain ⟨S', hf⟩ := hf
  refine ⟨_, rfl, a, ns, rfl, hS, Nat.le_trans hl (by decide), fun H' p q' s npq h1 h2 => ?_⟩
  refine ⟨p, fun b => if b = q' then some (.lst ((ns.take m).map V.int)) else none, ⟨.no :: .sh .nib :: List.replicate (n - 2) .no, [], ⟨ns.take m, 0, 0⟩⟩, ?_, ?_⟩
  · have el : (n - 1) = (n - 2) + 1 := by omega
    rw [el, List.replicate_succ]
    show AbsX _ _ _ (some (.ref a) :: some (.ref p) :: List.replicate (n - 2) none) [] _
    refine ⟨⟨fun b x e => ?_, ?_, ⟨q', h1, ?_⟩, (fun _ _ e => nomatch e), (fun _ _ e => nomatch e), ⟨(fun _ _ e => nomatch e), fun b o e => ?_, ht.ext s, (fun _ _ _ e => nomatch e)⟩, ?_, fun i x o e1 e2 => ?_, fun i j t u b e1 _ _ _ => ?_⟩, ?_⟩
    · have e : (if b = q' then some (HO.lst ((ns.take m).map V.int)) else none) = some x := e
      by_cases hb : b = q'
      · rw [if_pos hb] at e
        rw [hb, h2]
        exact e
      · rw [if_neg hb] at e
        cases e
    · show (if p = q' then _ else none) = none
      rw [if_neg npq]
    · show (if q' = q' then _ else none) = _
      rw [if_pos rfl]
      rfl
    · have e : (if b = q' then some (HO.lst ((ns.take m).map V.int)) else none) = some o := e
      by_cases hb : b = q'
      · rw [if_pos hb] at e
        cases e
        exact fun _ z => nomatch z
      · rw [if_neg hb] at e
        cases e
    · show ((Slot.no :: Slot.sh .nib :: List.replicate (n - 2) Slot.no) ++ []).length = _
      simp
    · have e1 : ((Slot.no :: Slot.sh .nib :: List.replicate (n - 2) Slot.no) ++ [])[i]? = some x := e1
      rw [List.append_nil] at e1 e2
      match i, e1, e2 with
      | 0, e1, e2 => cases e1; trivial
      | 1, e1, e2 => cases e1; cases e2; exact ⟨_, rfl, .nib⟩
      | i + 2, e1, e2 =>
        have e1 : (List.replicate (n - 2) Slot.no)[i]? = some x := e1
        have := List.mem_of_getElem? e1
        rw [List.mem_replicate] at this
        rw [this.2]
        trivial
    · have e1 : ((Slot.no :: Slot.sh .nib :: List.replicate (n - 2) Slot.no) ++ [])[i]? = some (.ow t) := e1
      rw [List.append_nil] at e1
      match i, e1 with
      | 0, e1 => cases e1
      | 1, e1 => cases e1
      | i + 2, e1 =>
        have e1 : (List.replicate (n - 2) Slot.no)[i]? = some (.ow t) := e1
        have := List.mem_of_getElem? e1
        rw [List.mem_replicate] at this
        cases this.2
    · simp
  · rw [hf]
    intro H2 F2 s2 v σ2 A2
    have A3 : AbsX (cLaw K ca tb E p) F2 (S'.push (.sh (.bl true))) σ2 ([] ++ [some v]) H2 := A2
    have r := A3.topSh
    cases r
    exact q H2
end TL

end
section
set_option Elab.async false
set_option linter.all false
set_option maxRecDepth 100000
set_option autoImplicit false
/-! TL14: index, tuples in order, repr of a truth value -/
open PySem PySem.Spec PyProof.Rows L2
namespace TL
def rIdxT (K : PySem.W.Frag) : V → List V → Hp → VK → Prop := fun x xs H Q => ∃ (a : Addr) (ys : List V) (y : V) (j : Nat) (z : V), x = V.ref a ∧ xs = [y] ∧ SqT K H a ys ∧ flatV y = true ∧ ys.all flatV = true ∧ ys[j]? = some z ∧ eqV z y = true ∧
  (∀ (m : Nat) (z' : V), m < j → ys[m]? = some z' → eqV z' y = false) ∧ Q (.int (j : Nat)) H
section
variable {X : Cx}
theorem mt_idxT : MtR X "tuple.index" (rIdxT X.K) := by
  intro pins s σ H x xs v us Q I rx rxs h
  obtain ⟨a, ys, y, j, z, rfl, rfl, hs, fy, fys, hz, hzj, hno, q⟩ := h
  cases rx
  cases rxs with
  | cons ry rt =>
    rename_i uy ut
    cases rt
    obtain ⟨its, rv, pl, hlen⟩ := I.tuple hs
    obtain ⟨⟨cls, dd, data, sl⟩, ho, hc, n, hd⟩ := pl
    simp only at hc hd
    subst hc hd
    obtain ⟨u, hu, ru⟩ := rv.get hz
    obtain ⟨hjl, hje⟩ := List.getElem?_eq_some_iff.mp hu
    have hvl := rv.length
    have hj : j < its.toArray.size := by simpa using hjl
    refine call_meets PySem.F.slot_tuple_index ⟨_, ho, rfl⟩ PySem.F.entry_tuple_index (PySem.F.args_tuple_index_2 _ _)
      (TI.tuple_indexAt a its.toArray n dd sl uy (eqU y) j hj ?_ ?_) ⟨ho, fun u' hu' => mem_eqAt ry fy rv fys u' (by simpa using hu'), ?_⟩
    · have e1 : its.toArray[j] = u := by simpa using hje
      rw [e1, eqU_of ru (flat_at fys hz)]
      exact hzj
    · intro m hm hmj
      have hml : m < its.length := by simpa using hm
      have hmy : m < ys.length := by omega
      have hy' : ys[m]? = some ys[m] := List.getElem?_eq_getElem hmy
      obtain ⟨u2, hu2, ru2⟩ := rv.get hy'
      obtain ⟨_, hme⟩ := List.getElem?_eq_some_iff.mp hu2
      have e1 : its.toArray[m] = u2 := by simpa using hme
      rw [e1, eqU_of ru2 (flat_at fys hy')]
      exact hno m _ hmj hy'
    · exact ⟨.int (j : Nat), H, I.tok _, ⟨_, rfl⟩, q⟩
end
def idxP (ts : List T) (u : T) : Option Slot := if T.okAll 0 ts = true ∧ T.okD 0 u = true then (ts.findIdx? fun y => eqD y u).map fun j => .sh (.int (j : Nat)) else none
def idxF (fa fb : OF) : EF := fun S => (fa S).bind fun o S1 => match o.get S1 with
  | some (.lst _) => (fb S1).bind fun o' S2 => match o.get S2, o'.get S2 with
    | some (.lst ts), some u => res (idxP ts u) S2
    | _, _ => .stuck
  | some (.tup _) => (fb S1).bind fun o' S2 => match o.get S2, o'.get S2 with
    | some (.tup ts), some u => res (idxP ts u) S2
    | _, _ => .stuck
  | _ => .stuck
theorem idxP_at {g : Ga} {F : Hp} {vs : List V} {ts : List T} {w : V} {u : T} {z : Slot} (r : RepAll g F vs ts) (q : Rep g F w u) (h : idxP ts u = some z) : ∃ (j : Nat) (x : V), z = .sh (.int (j : Nat)) ∧ flatV w = true ∧ vs.all flatV = true ∧ vs[j]? = some x ∧ eqV x w = true ∧ ∀ (m : Nat) (z' : V), m < j → vs[m]? = some z' → eqV z' w = false := by
  unfold idxP at h
  split at h
  · rename_i hh
    obtain ⟨j, h1, h2⟩ := Option.map_eq_some_iff.mp h
    obtain ⟨h3, h4, h5⟩ := List.findIdx?_eq_some_iff_getElem.mp h1
    have hv : j < vs.length := by rw [r.length]; exact h3
    have okA : ∀ (ts : List T), T.okTs ts 0 = true → ∀ t ∈ ts, T.okT t 0 = true := by
      intro ts
      induction ts with
      | nil => intro _ t h; cases h
      | cons a l ih =>
        intro h t ht
        rw [T.okTs, Bool.and_eq_true] at h
        rcases List.mem_cons.mp ht with rfl | ht
        · exact h.1
        · exact ih h.2 t ht
    obtain ⟨t', e1, e2⟩ := r.getV (List.getElem?_eq_getElem hv)
    have e3 : t' = ts[j] := by rw [List.getElem?_eq_getElem h3] at e1; exact (Option.some.inj e1).symm
    subst e3
    refine ⟨j, vs[j], h2.symm, flat_of hh.2 q, flats_of hh.1 r, List.getElem?_eq_getElem hv, ?_, fun m z' hm hz' => ?_⟩
    · rw [eqV_d (okA ts hh.1 _ (List.getElem_mem h3)) hh.2 e2 q]; exact h4
    · obtain ⟨t2, f1, f2⟩ := r.getV hz'
      have hm2 : m < ts.length := by omega
      have f3 : t2 = ts[m] := by rw [List.getElem?_eq_getElem hm2] at f1; exact (Option.some.inj f1).symm
      subst f3
      rw [eqV_d (okA ts hh.1 _ (List.getElem_mem hm2)) hh.2 f2 q]
      have := h5 m hm
      simpa using this
  · cases h
theorem PRep.tupD {g : Ga} {F H : Hp} {v : V} {ts : List T} (s : Same F H) (h : PRep g F H v (.tup ts)) : ∃ a vs, v = .ref a ∧ SqD g.K H a vs ∧ RepAll g F vs ts := by
  rcases h with h | ⟨a, u, e, hu, h⟩
  · cases h with
    | tup e r => exact ⟨_, _, rfl, sameSqD s e, r⟩
  · cases h
theorem PE.either {X : Cx} {e : Expr} {t1 t2 t : TE} (h1 : PE X e t1) (h2 : PE X e t2) (w : ∀ σ H Q, t σ H Q → t1 σ H Q ∨ t2 σ H Q) : PE X e t :=
  ⟨fun pins s σ H Q I q => (w σ H Q q).elim (fun q => h1.run pins s σ H Q I q) fun q => h2.run pins s σ H Q I q⟩
theorem de_index {X : Cx} {c : Cfg} {o b : Expr} {fa fb : OF} {apos cpos : Pos} (hK : c.g.K = X.K) (ho : PE X o (rdO c fa)) (hb : PE X b (rdO c fb))
    (hbase : attributeBase o "index" X.env (eval o X.env) = eval o X.env := by rfl)
    (hfew : ((backTo cpos (starEach [b] X.env)).all (fun x => !x.1) && (backToKw cpos (keywordEach [] X.env)).all (fun x => x.1.isSome)
      && decide (([b] : List Expr).length + ([] : List Keyword).length + (if ([] : List Keyword).isEmpty then 0 else 1) < 30)) = true := by rfl)
    (hline : (apos.endLine == cpos.line) = true := by rfl) (hs : starEach [b] X.env = (false, eval b X.env) :: starEach [] X.env := by rfl) (hplain : (backTo cpos (starEach [] X.env)).any (·.1) = false := by rfl) :
    PE X (.Call (.Attribute o "index" apos) [b] [] cpos) (rdE c (idxF fa fb)) := by
  refine PE.either (pe_bm PySem.F.plainAttrs_list PySem.F.slot_list_index PySem.F.type_list_index mt_index ho (pa_cons hb pa_nil hs) hbase hfew hline hs hplain)
    (pe_bmT PySem.F.slot_tuple_index PySem.F.type_tuple_index mt_idxT ho (pa_cons hb pa_nil hs) hbase hfew hline hs hplain) fun σ H Q q => ?_
  obtain ⟨τ, F, S, A, q⟩ := q
  unfold idxF at q
  cases e : fa S with
  | stuck => rw [e] at q; exact q.elim
  | exc ex S1 => rw [e] at q; exact .inl ⟨τ, F, S, A, by rw [e]; exact q⟩
  | ok o S1 =>
    rw [e, R.bind_ok] at q
    split at q
    · rename_i t0 e0
      refine .inl ⟨τ, F, S, A, ?_⟩
      rw [e]
      intro H1 F1 s1 v A1 r1
      obtain ⟨a, vs, rfl, h1, _⟩ := (A1.opd r1 e0).lst A1.a.fh
      refine ⟨.inl ⟨rfl, vs, .inl (.inl h1)⟩, τ, F1, S1, A1, rOut.bind (q.mono s1) fun o' S2 F2 H2 s2 q2 w A2 r2 => ?_⟩
      split at q2
      · rename_i ts u g1 g2
        unfold res at q2
        split at q2
        · rename_i z hz
          obtain ⟨a', vs', e', h3, r3⟩ := (A2.opd (r1.mono s2) g1).lst A2.a.fh
          cases e'
          have ru : Rep c.g F2 w u := (A2.opd r2 g2).rep0 (by
            unfold idxP at hz
            split at hz
            · rename_i hh; exact hh.2
            · cases hz)
          obtain ⟨j, x, rfl, f1, f2, f3, f4, f5⟩ := idxP_at r3 ru hz
          exact ⟨a, vs', w, j, x, rfl, rfl, .inl (.inl h3), f1, f2, f3, f4, f5, q2 H2 F2 (Same.refl F2) _ (A2.pushSh (.int _))⟩
        · exact q2.elim
      · exact q2.elim
    · rename_i t0 e0
      refine .inr ⟨τ, F, S, A, ?_⟩
      rw [e]
      intro H1 F1 s1 v A1 r1
      obtain ⟨a, vs, rfl, h1, _⟩ := (A1.opd r1 e0).tupD A1.a.fh
      refine ⟨⟨a, vs, rfl, hK ▸ h1⟩, τ, F1, S1, A1, rOut.bind (q.mono s1) fun o' S2 F2 H2 s2 q2 w A2 r2 => ?_⟩
      split at q2
      · rename_i ts u g1 g2
        unfold res at q2
        split at q2
        · rename_i z hz
          obtain ⟨a', vs', e', h3, r3⟩ := (A2.opd (r1.mono s2) g1).tup A2.a.fh
          cases e'
          have ru : Rep c.g F2 w u := (A2.opd r2 g2).rep0 (by
            unfold idxP at hz
            split at hz
            · rename_i hh; exact hh.2
            · cases hz)
          obtain ⟨j, x, rfl, f1, f2, f3, f4, f5⟩ := idxP_at r3 ru hz
          exact ⟨a, vs', w, j, x, rfl, rfl, hK ▸ h3, f1, f2, f3, f4, f5, q2 H2 F2 (Same.refl F2) _ (A2.pushSh (.int _))⟩
        · exact q2.elim
      · exact q2.elim
    · exact q.elim
end TL

namespace TL
theorem lexAt_shift (e r : Nat → Bool) (z : Bool) : ∀ (k i : Nat), Ob.lexAt e r z (i + 1) k = Ob.lexAt (fun j => e (j + 1)) (fun j => r (j + 1)) z i k
  | 0, _ => rfl
  | k + 1, i => by rw [Ob.lexAt_succ, Ob.lexAt_succ, lexAt_shift e r z k (i + 1)]
theorem lexAt_gt : ∀ ns ms : List Int, Ob.lexAt (fun j => decide (ns.getD j 0 = ms.getD j 0)) (fun j => decide (ms.getD j 0 < ns.getD j 0)) (decide (ns.length > ms.length)) 0 (min ns.length ms.length) = HT.lexLt ms ns
  | [], [] => rfl
  | [], _ :: _ => by simp [Ob.lexAt_zero, HT.lexLt]
  | _ :: _, [] => by simp [Ob.lexAt_zero, HT.lexLt]
  | n :: ns, m :: ms => by
    have ih := lexAt_gt ns ms
    rw [HT.lexLt_cons, List.length_cons, List.length_cons, show min (ns.length + 1) (ms.length + 1) = min ns.length ms.length + 1 by omega, Ob.lexAt_succ, lexAt_shift]
    have e1 : decide (ns.length + 1 > ms.length + 1) = decide (ns.length > ms.length) := by simp
    rw [e1]
    show (if decide (n = m) = true then Ob.lexAt (fun j => decide (ns.getD j 0 = ms.getD j 0)) (fun j => decide (ms.getD j 0 < ns.getD j 0)) (decide (ns.length > ms.length)) 0 (min ns.length ms.length) else decide (m < n)) = _
    rw [ih]
    by_cases h : n = m
    · subst h; simp
    · have h2 : ¬ m = n := fun z => h z.symm
      simp [h, h2]
def rGtT (K : PySem.W.Frag) : R2 := fun x y H Q => ∃ a b ns ms, x = .ref a ∧ y = .ref b ∧ SqT K H a (ns.map V.int) ∧ SqT K H b (ms.map V.int) ∧ Q (.bl (HT.lexLt ms ns)) H
theorem op_gtT {X : Cx} (hu : X.A.units < cLine) : OpR X (compareOp .Gt) (rGtT X.K) := by
  intro pins s σ H x y v u Q I rx ry h
  obtain ⟨a, b, ns, ms, rfl, rfl, ha, hb, q⟩ := h
  cases rx
  cases ry
  obtain ⟨its, r1, p1, _⟩ := I.tuple ha
  obtain ⟨its2, r2, p2, _⟩ := I.tuple hb
  have i1 : IntsAre its ns := Vals.ints r1
  have i2 : IntsAre its2 ms := Vals.ints r2
  have e1 : its.toArray.size = ns.length := by rw [List.size_toArray]; exact i1.length
  have e2 : its2.toArray.size = ms.length := by rw [List.size_toArray]; exact i2.length
  have at1 : ∀ j (h1 : j < its.toArray.size), ∃ t, its.toArray[j] = .int (ns.getD j 0) t := fun j h1 => PyProof.Rows.IntsAre.int_at i1 _ _ (by simp at h1; simp [h1])
  have at2 : ∀ j (h1 : j < its2.toArray.size), ∃ t, its2.toArray[j] = .int (ms.getD j 0) t := fun j h1 => PyProof.Rows.IntsAre.int_at i2 _ _ (by simp at h1; simp [h1])
  have R := Ob.RcOp.tuples_gt (A := X.A) (s := s) (e := fun j => decide (ns.getD j 0 = ms.getD j 0)) (r := fun j => decide (ms.getD j 0 < ns.getD j 0)) p1 p2 hu (fun j h1 h2 => by
    obtain ⟨t, et⟩ := at1 j h1
    obtain ⟨t', et'⟩ := at2 j h2
    rw [et, et']
    have z : (ns.getD j 0 == ms.getD j 0) = decide (ns.getD j 0 = ms.getD j 0) := by
      by_cases q : ns.getD j 0 = ms.getD j 0
      · rw [decide_eq_true q]; exact beq_iff_eq.mpr q
      · rw [decide_eq_false q]; exact beq_eq_false_iff_ne.mpr q
    rw [← z]
    exact SeqAt.EqAt.int_int _ _ _ _) (fun j h1 h2 _ => by
    obtain ⟨t, et⟩ := at1 j h1
    obtain ⟨t', et'⟩ := at2 j h2
    rw [et, et']
    exact Ob.RcOp.gt_int _ _ _ _)
  rw [e1, e2, lexAt_gt] at R
  exact R X.prog X.w X.xe (EP X pins σ Q) ⟨.bl _, H, I, rfl, q⟩
/-- <, > of integers or of tuples of integers -/
def ordT (f : Int → Int → Bool) (g : List Int → List Int → Bool) : T → T → Option Slot
  | .int i, .int j => some (.sh (.bl (f i j)))
  | .tup ts, .tup us => (intsT ts).bind fun ns => (intsT us).map fun ms => .sh (.bl (g ns ms))
  | _, _ => none
abbrev ltA : T → T → Option Slot := ordT (fun i j => decide (i < j)) HT.lexLt
abbrev gtA : T → T → Option Slot := ordT (fun i j => decide (j < i)) fun ns ms => HT.lexLt ms ns
def rOrd (K : PySem.W.Frag) (f : Int → Int → Bool) (g : List Int → List Int → Bool) : R2 := fun x y H Q => rI0 (fun i j => .bl (f i j)) x y H Q ∨ ∃ a b ns ms, x = .ref a ∧ y = .ref b ∧ SqT K H a (ns.map V.int) ∧ SqT K H b (ms.map V.int) ∧ Q (.bl (g ns ms)) H
theorem op_ltA {X : Cx} (hu : X.A.units < cLine) : OpR X (compareOp .Lt) (rOrd X.K (fun i j => decide (i < j)) HT.lexLt) := .or op_lt (op_ltT hu)
theorem op_gtA {X : Cx} (hu : X.A.units < cLine) : OpR X (compareOp .Gt) (rOrd X.K (fun i j => decide (j < i)) fun ns ms => HT.lexLt ms ns) := .or op_gt (op_gtT hu)
theorem p_ord {X : Cx} {c : Cfg} (hK : c.g.K = X.K) (f : Int → Int → Bool) (g : List Int → List Int → Bool) : Op2 c (rOrd X.K f g) (ordT f g) := by
  intro F S σ τ H x y t u z Q A hx hy hz k
  unfold ordT at hz
  split at hz
  · cases hz
    rw [hx.int, hy.int]
    exact .inl ⟨_, _, rfl, rfl, fin_sh A k (.bl _)⟩
  · obtain ⟨ns, h1, h2⟩ := Option.bind_eq_some_iff.mp hz
    obtain ⟨ms, h3, h4⟩ := Option.map_eq_some_iff.mp h2
    subst h4
    obtain ⟨a, vs, rfl, h5, r5⟩ := hx.tup A.a.fh
    obtain ⟨b, ws, rfl, h6, r6⟩ := hy.tup A.a.fh
    rw [hK] at h5 h6
    rw [intsT_of h1] at r5
    rw [intsT_of h3] at r6
    rw [r5.ints] at h5
    rw [r6.ints] at h6
    exact .inr ⟨a, b, ns, ms, rfl, rfl, h5, h6, fin_sh A k (.bl _)⟩
  · cases hz
/-- repr of a truth value -/
def reprN : List T → Option Slot
  | [.bl b] => some (.sh (.str (if b then "True" else "False")))
  | _ => none
theorem call_reprB {X : Cx} : CallR X (.builtin "repr") (fun xs H Q => ∃ b, xs = [.bl b] ∧ Q (.str (if b then "True" else "False")) H) := by
  intro pins s σ H xs us Q I r h
  obtain ⟨b, rfl, q⟩ := h
  obtain ⟨u, rfl, rfl⟩ := vals1 r
  exact PySem.P.repr_of_bool ⟨.str _, H, I.tok _, ⟨_, rfl⟩, q⟩
theorem p_repr {c : Cfg} : OpN c (fun xs H Q => ∃ b, xs = [.bl b] ∧ Q (.str (if b then "True" else "False")) H) reprN := by
  intro F S σ τ H xs ts z Q A hx hz k
  unfold reprN at hz
  split at hz
  · cases hz
    obtain ⟨v, rfl, h⟩ := hx.one
    rw [h.bl]
    exact ⟨_, rfl, fin_sh A k (.str _)⟩
  · cases hz
theorem bt_repr : bootBuiltins "repr" = some (.builtin "repr") := by decide +kernel
theorem hu0 {k : Nat} {A : Around} (hr : Room k A) : A.units < cLine := hr.units0
end TL
namespace TL
/-- max of a list or tuple of integers -/
def rMaxA (K : PySem.W.Frag) : List V → Hp → VK → Prop := fun vs H Q => ∃ (a : Addr) (n : Int) (ns : List Int), vs = [V.ref a] ∧ (SqL K H a ((n :: ns).map V.int) ∨ SqT K H a ((n :: ns).map V.int)) ∧ Q (.int (PySem.W.maxOf n ns)) H
theorem cr_maxA {X : Cx} (hc : X.calm = true) (hu : X.A.units + 10 < cLine) : CallR X (.builtin "max") (rMaxA X.K) := by
  intro pins s σ H vs us Q I r h
  obtain ⟨a, n, ns, rfl, hs, q⟩ := h
  rw [Vals.ref1 r]
  have fin : ∀ {v : Value} {h' : Heap} {tk : Nat}, PySem.W.Holds h' v (PySem.W.maxOf n ns) → (∀ b o, s.heap.get? b = some o → h'.get? b = some o) → EP X pins σ Q v { s with heap := h', toks := tk } := fun {v h' tk} hh k => by
    refine ⟨_, H, I.kept (t' := tk) k, ?_, q⟩
    obtain ⟨as, hr⟩ := hh
    have hr : Reads h' v (.int (PySem.W.maxOf n ns)) as := hr
    cases hr
    exact ⟨_, rfl⟩
  rcases hs with hs | hs
  · obtain ⟨its, rv, hl, hz⟩ := I.list hs
    have hi := rv.ints
    exact PySem.W.max_list_datum (α := Int) (I.ok.hd hc) hl.isList (by rw [show its.toArray.toList = its by simp]; exact PySem.W.HoldAll.of_ints hi) (by show X.A.units + 1 + 0 < cLine; omega) fun i v h' tk _ hh k => fin hh k
  · obtain ⟨its, rv, hl, hz⟩ := I.tuple hs
    have hi := rv.ints
    exact PySem.W.max_tuple_datum (α := Int) (I.ok.hd hc) hl (by rw [show its.toArray.toList = its by simp]; exact PySem.W.HoldAll.of_ints hi) (by show X.A.units + 1 + 0 < cLine; omega) fun i v h' tk _ hh k => fin hh k
def maxAN : List T → Option Slot
  | [.lst ts] => (intsT ts).bind fun ns => match ns with
    | [] => none
    | x :: xs => some (.sh (.int (maxI x xs)))
  | [.tup ts] => (intsT ts).bind fun ns => match ns with
    | [] => none
    | x :: xs => some (.sh (.int (maxI x xs)))
  | _ => none
theorem p_maxA {X : Cx} {c : Cfg} (hK : c.g.K = X.K) : OpN c (rMaxA X.K) maxAN := by
  intro F S σ τ H xs ts z Q A hx hz k
  unfold maxAN at hz
  split at hz
  · obtain ⟨ns, h1, h2⟩ := Option.bind_eq_some_iff.mp hz
    cases ns with
    | nil => cases h2
    | cons n ns =>
      cases h2
      obtain ⟨v, rfl, h⟩ := hx.one
      obtain ⟨p, vs, rfl, h3, r⟩ := h.lst A.a.fh
      rw [intsT_of h1] at r
      rw [r.ints] at h3
      exact ⟨p, n, ns, rfl, .inl (.inl (.inl h3)), by rw [maxOf_eq]; exact fin_sh A k (.int _)⟩
  · obtain ⟨ns, h1, h2⟩ := Option.bind_eq_some_iff.mp hz
    cases ns with
    | nil => cases h2
    | cons n ns =>
      cases h2
      obtain ⟨v, rfl, h⟩ := hx.one
      obtain ⟨p, vs, rfl, h3, r⟩ := h.tup A.a.fh
      rw [intsT_of h1] at r
      rw [r.ints, hK] at h3
      exact ⟨p, n, ns, rfl, .inr h3, by rw [maxOf_eq]; exact fin_sh A k (.int _)⟩
  · cases hz
end TL

end
section
set_option Elab.async false
set_option linter.all false
set_option maxRecDepth 100000
set_option autoImplicit false
/-! TL11: running the semantic functions -/
open PySem PySem.Spec PyProof.Rows L2
namespace TL
@[simp] theorem R.bind_exc {α β : Type} (e : Ex) (S : Sta) (k : α → Sta → R β) : (R.exc e S).bind k = R.exc e S := rfl
section
variable (S : Sta) (i j k n np nk : Nat) (a b d : OF) (e e' e'' : EF) (t u : TF) (f g : SF) (r r' : AF) (it : IF) (tg : Tg) (p p' : T → T → Option Slot) (q : T → Option Slot) (ql : List T → Option Slot) (fn : Fn) (x y : T) (ts : List T)
@[simp] theorem con_ap : con x S = .ok (.sh x) S := rfl
@[simp] theorem opE_ap : opE e S = (e S).bind fun x S1 => match x.tree with
  | some t => .ok (.val t) S1
  | none => .stuck := rfl
@[simp] theorem nilA_ap : nilA S = .ok [] S := rfl
@[simp] theorem consA_ap : consA a r S = (a S).bind fun o S1 => (r S1).bind fun os S2 => .ok (o :: os) S2 := rfl
@[simp] theorem op2_ap : op2 p a b S = (a S).bind fun o S1 => (b S1).bind fun o' S2 => match o.get S2, o'.get S2 with
  | some t, some u => res (p t u) S2
  | _, _ => .stuck := rfl
@[simp] theorem op1_ap : op1 q a S = (a S).bind fun o S1 => match o.get S1 with
  | some t => res (q t) S1
  | _ => .stuck := rfl
@[simp] theorem opN_ap : opN ql r S = (r S).bind fun os S1 => match gets S1 os with
  | some ts => res (ql ts) S1
  | _ => .stuck := rfl
@[simp] theorem res_some (z : Slot) : res (some z) S = .ok z S := rfl
@[simp] theorem tst_ap : tst e S = (e S).bind fun x S1 => match x with
  | .sh (.bl b) => .ok b S1
  | _ => .stuck := rfl
@[simp] theorem chn_ap : chn p p' a b d S = (a S).bind fun o S1 => (b S1).bind fun o' S2 => match o.get S2, o'.get S2 with
  | some t, some u => match p t u with
    | some (.sh (.bl true)) => (d S2).bind fun o'' S3 => match o'.get S3, o''.get S3 with
      | some u, some w => res (p' u w) S3
      | _, _ => .stuck
    | some (.sh (.bl false)) => .ok (.sh (.bl false)) S2
    | _ => .stuck
  | _, _ => .stuck := rfl
@[simp] theorem andT_ap : andT t u S = (t S).bind fun k S1 => if k = true then u S1 else .ok false S1 := rfl
@[simp] theorem orT_ap : orT t u S = (t S).bind fun k S1 => if k = true then .ok true S1 else u S1 := rfl
@[simp] theorem notT_ap : notT t S = (t S).bind fun k S1 => .ok (!k) S1 := rfl
@[simp] theorem andE_ap : andE e e' S = (e S).bind fun x S1 => match x with
  | .sh (.bl true) => e' S1
  | .sh (.bl false) => .ok (.sh (.bl false)) S1
  | _ => .stuck := rfl
@[simp] theorem orE_ap : orE e e' S = (e S).bind fun x S1 => match x with
  | .sh (.bl false) => e' S1
  | .sh (.bl true) => .ok (.sh (.bl true)) S1
  | _ => .stuck := rfl
@[simp] theorem notE_ap : notE e S = (e S).bind fun x S1 => match x with
  | .sh (.bl k) => .ok (.sh (.bl (!k))) S1
  | _ => .stuck := rfl
@[simp] theorem ite3_ap : ite3 t e e' S = (t S).bind fun k S1 => if k = true then e S1 else e' S1 := rfl
@[simp] theorem lstF_ap : lstF r S = (r S).bind fun os S1 => match vals os with
  | some ts => if ts.length ≤ sz then .ok (.ow (.lst ts)) S1 else .stuck
  | none => .stuck := rfl
@[simp] theorem tupF_ap : tupF r S = (r S).bind fun os S1 => match vals os with
  | some ts => if ts.length ≤ sz then .ok (.sh (.tup ts)) S1 else .stuck
  | none => .stuck := rfl
@[simp] theorem seqF_ap : seqF f g S = (f S).bind fun fl S1 => match fl with
  | .nx => g S1
  | .rt x => .ok (.rt x) S1
  | .bk => .ok .bk S1
  | .ct => .ok .ct S1 := rfl
@[simp] theorem nxF_ap : nxF S = .ok .nx S := rfl
@[simp] theorem retF_ap : retF e S = (e S).bind fun x S1 => .ok (.rt x) S1 := rfl
@[simp] theorem retNF_ap : retNF S = .ok (.rt (.sh .non)) S := rfl
@[simp] theorem dropF_ap : dropF e S = (e S).bind fun _ S1 => .ok .nx S1 := rfl
@[simp] theorem ifF_ap : ifF t f g S = (t S).bind fun k S1 => if k = true then f S1 else g S1 := rfl
@[simp] theorem setF_ap : setF i e S = (e S).bind fun x S1 => if i < S1.lo.length then .ok .nx (S1.put i x) else .stuck := rfl
@[simp] theorem asgF_ap : asgF tg a S = (a S).bind fun o S1 => match o with
  | .val t => match tg.put t S1 with
    | some S2 => .ok .nx S2
    | none => .stuck
  | _ => .stuck := rfl
@[simp] theorem forF_ap : forF it tg f S = (it S).bind fun ts S1 => forL tg f ts S1 := rfl
@[simp] theorem forL_nil : forL tg f [] S = .ok .nx S := rfl
theorem forL_cons : forL tg f (x :: ts) S = match tg.put x S with
    | none => .stuck
    | some S1 => (f S1).bind fun fl S2 => match fl with
      | .nx => forL tg f ts S2
      | .ct => forL tg f ts S2
      | .bk => .ok .nx S2
      | .rt x => .ok (.rt x) S2 := rfl
@[simp] theorem callF_ap : callF np fn r S = (r S).bind fun os S1 => match vals os with
  | some ts => if ts.length = np then match fn ts S1.nb with
    | .ok x n => .ok x { S1 with nb := n }
    | .exc e n => .exc e { S1 with nb := n }
    | .stuck => .stuck
    else .stuck
  | none => .stuck := rfl
@[simp] theorem callKF_ap (pm : List Nat) : callKF np nk pm fn r r' S = (r S).bind fun os S1 => (r' S1).bind fun us S2 => match vals os, vals us with
  | some ts, some zs => if ts.length + zs.length = np ∧ zs.length = nk then match fn (ts ++ prm pm zs) S2.nb with
    | .ok x n => .ok x { S2 with nb := n }
    | .exc e n => .exc e { S2 with nb := n }
    | .stuck => .stuck
    else .stuck
  | _, _ => .stuck := rfl
@[simp] theorem seqI_ap : seqI a S = (a S).bind fun o S1 => match o with
  | .val (.lst ts) => .ok ts S1
  | .val (.tup ts) => .ok ts S1
  | _ => .stuck := rfl
@[simp] theorem enumI_ap : enumI a S = (a S).bind fun o S1 => match o with
  | .val (.lst ts) => .ok (enumT 0 ts) S1
  | .val (.tup ts) => .ok (enumT 0 ts) S1
  | _ => .stuck := rfl
@[simp] theorem rngI1_ap : rngI1 a S = (a S).bind fun o S1 => match o with
  | .val (.int n) => if -(2 ^ 62) ≤ n ∧ n < 2 ^ 62 then .ok (rgT 0 n) S1 else .stuck
  | _ => .stuck := rfl
@[simp] theorem yesT_ap : yesT S = .ok true S := rfl
@[simp] theorem slot_tree_sh : (Slot.sh x).tree = some x := rfl
@[simp] theorem slot_tree_ow : (Slot.ow x).tree = some x := rfl
@[simp] theorem opd_val : (Opd.val x).get S = some x := rfl
@[simp] theorem vals_nil : vals [] = some [] := rfl
@[simp] theorem vals_cons (os : List Opd) : vals (.val x :: os) = (vals os).map (x :: ·) := rfl
@[simp] theorem gets_nil : gets S [] = some [] := rfl
@[simp] theorem gets_cons (o : Opd) (os : List Opd) : gets S (o :: os) = (o.get S).bind fun t => (gets S os).map (t :: ·) := rfl
end
/-! the state as a literal -/
section
variable (l : List Slot) (gh : List Slot) (nb : Nib) (i : Nat) (t : T)
theorem var_sh (h : l[i]? = some (.sh t)) : var i ⟨l, gh, nb⟩ = .ok (.val t) ⟨l, gh, nb⟩ := by unfold var; simp [h]
theorem var_ow (h : l[i]? = some (.ow t)) : var i ⟨l, gh, nb⟩ = .ok (.pl i) ⟨l, gh, nb⟩ := by unfold var; simp [h]
theorem get_ow (h : l[i]? = some (.ow t)) : (Opd.pl i).get ⟨l, gh, nb⟩ = some t := by show (l[i]?).bind Slot.tree = _; rw [h]; rfl
theorem varE_sh (h : l[i]? = some (.sh t)) : varE i ⟨l, gh, nb⟩ = .ok (.sh t) ⟨l, gh, nb⟩ := by unfold varE; simp [h]
theorem varE_ow (h : l[i]? = some (.ow t)) : varE i ⟨l, gh, nb⟩ = .ok (.sh t) ⟨l.set i (.sh t), gh, nb⟩ := by unfold varE; simp [h, Sta.put]
theorem varR_sh (h : l[i]? = some (.sh t)) : varR i ⟨l, gh, nb⟩ = .ok (.sh t) ⟨l, gh, nb⟩ := by unfold varR; simp [h]
theorem varR_ow (h : l[i]? = some (.ow t)) : varR i ⟨l, gh, nb⟩ = .ok (.ow t) ⟨l.set i .no, gh, nb⟩ := by unfold varR; simp [h, Sta.put]
@[simp] theorem put_lit (x : Slot) : (Sta.mk l gh nb).put i x = ⟨l.set i x, gh, nb⟩ := rfl
@[simp] theorem push_lit (x : Slot) : (Sta.mk l gh nb).push x = ⟨l, gh ++ [x], nb⟩ := rfl
@[simp] theorem wipe_lit (own : List Nat) : (Sta.mk l gh nb).wipe own = ⟨noes l own, gh, nb⟩ := rfl
@[simp] theorem noes_nil : noes l [] = l := rfl
@[simp] theorem noes_cons (is : List Nat) : noes l (i :: is) = (noes l is).set i .no := rfl
@[simp] theorem put_nm : (Tg.nm i).put t ⟨l, gh, nb⟩ = if i < l.length then some ⟨l.set i (.sh t), gh, nb⟩ else none := rfl
@[simp] theorem put_tp (is : List Nat) (ts : List T) (S : Sta) : (Tg.tp is).put (.tup ts) S = putAll is ts S := rfl
@[simp] theorem put_tpw (is : List Nat) (ts : List T) (S : Sta) : (Tg.tp is).put (.wtp ts) S = putAll is ts S := rfl
@[simp] theorem put_tpl (is : List Nat) (ts : List T) (S : Sta) : (Tg.tp is).put (.lst ts) S = putAll is ts S := rfl
@[simp] theorem putAll_nil (S : Sta) : putAll [] [] S = some S := rfl
@[simp] theorem putAll_cons (is : List Nat) (ts : List T) : putAll (i :: is) (t :: ts) ⟨l, gh, nb⟩ = if i < l.length then putAll is ts ⟨l.set i (.sh t), gh, nb⟩ else none := rfl
end
/-! comprehensions -/
def compStep (own : List Nat) (tg : Tg) (tt : TF) (te : EF) (t : T) (S : Sta) : R (Option T) := match tg.put t S with
  | none => .stuck
  | some S1 => (tt S1).bind fun b S2 => if b = true then (te S2).bind fun x S3 => match x.tree with
      | none => .stuck
      | some y => .ok (some y) (S3.wipe own)
    else .ok none (S2.wipe own)
theorem compL_step {own : List Nat} {tg : Tg} {tt : TF} {te : EF} {t : T} {ts : List T} {S S' : Sta} {acc : List T} {v : Option T}
    (h : compStep own tg tt te t (S.push (.ow (.lst acc))) = .ok v (S'.push (.ow (.lst acc)))) (hw : S'.wipe own = S') (hl : acc.length < sz) :
    compL own tg tt te (t :: ts) (S.push (.ow (.lst acc))) = compL own tg tt te ts (S'.push (.ow (.lst (acc ++ v.toList)))) := by
  unfold compStep at h
  rw [compL]
  cases e : tg.put t (S.push (.ow (.lst acc))) with
  | none => rw [e] at h; cases h
  | some S1 =>
    rw [e] at h
    dsimp only at h ⊢
    cases e2 : tt S1 with
    | ok b S2 =>
      rw [e2] at h
      rw [R.bind_ok] at h ⊢
      cases b with
      | false =>
        rw [if_neg Bool.false_ne_true] at h ⊢
        injection h with h1 h2
        subst h1
        rw [h2]
        simp
      | true =>
        rw [if_pos rfl] at h ⊢
        cases e3 : te S2 with
        | ok x S3 =>
          rw [e3] at h
          rw [R.bind_ok] at h ⊢
          cases e4 : x.tree with
          | none => rw [e4] at h; cases h
          | some y =>
            rw [e4] at h
            dsimp only at h ⊢
            injection h with h1 h2
            subst h1
            have h3 : S3.gh = S'.gh ++ [.ow (.lst acc)] := congrArg Sta.gh h2
            have h4 : S3.popG = some (.ow (.lst acc), ⟨S3.lo, S'.gh, S3.nb⟩) := by
              unfold Sta.popG
              rw [h3]
              simp
            rw [h4]
            dsimp only
            rw [if_pos hl]
            have h5 : noes S3.lo own = S'.lo := congrArg Sta.lo h2
            have h6 : S3.nb = S'.nb := by have := congrArg Sta.nb h2; exact this
            show compL own tg tt te ts ⟨noes S3.lo own, S'.gh ++ _, S3.nb⟩ = _
            rw [h5, h6]
            rfl
        | exc => rw [e3] at h; cases h
        | stuck => rw [e3] at h; cases h
    | exc => rw [e2] at h; cases h
    | stuck => rw [e2] at h; cases h
theorem compL_run {own : List Nat} {tg : Tg} {tt : TF} {te : EF} {S : Sta} {v : T → Option T} (hw : S.wipe own = S) : ∀ (ts acc : List T), acc.length + ts.length ≤ sz →
    (∀ t ∈ ts, ∀ acc, compStep own tg tt te t (S.push (.ow (.lst acc))) = .ok (v t) (S.push (.ow (.lst acc)))) →
    compL own tg tt te ts (S.push (.ow (.lst acc))) = .ok () (S.push (.ow (.lst (acc ++ ts.filterMap v))))
  | [], acc, _, _ => by rw [List.filterMap_nil, List.append_nil]; rfl
  | t :: ts, acc, hl, h => by
    rw [List.length_cons] at hl
    rw [compL_step (h t List.mem_cons_self acc) hw (by omega), compL_run hw ts _ (by rw [List.length_append]; cases v t <;> simp <;> omega) fun t ht => h t (List.mem_cons_of_mem _ ht)]
    rw [List.filterMap_cons]
    cases v t <;> simp
theorem noes_noes (l : List Slot) (own : List Nat) : noes (noes l own) own = noes l own := by
  apply List.ext_getElem?
  intro j
  by_cases hj : j ∈ own
  · by_cases hl : j < l.length
    · have h1 : ∀ l : List Slot, j < l.length → (noes l own)[j]? = some .no := fun l hl => by
        have hl2 : j < (noes l own).length := by rw [noes_length]; exact hl
        rcases noes_get l (List.getElem?_eq_getElem hl2) with ⟨_, b⟩ | ⟨a, _⟩
        · rw [List.getElem?_eq_getElem hl2, b]
        · exact absurd hj a
      rw [h1 _ (by rw [noes_length]; exact hl), h1 _ hl]
    · rw [List.getElem?_eq_none (by rw [noes_length, noes_length]; omega), List.getElem?_eq_none (by rw [noes_length]; omega)]
  · by_cases hl : j < l.length
    · have h1 : ∀ l : List Slot, j < l.length → (noes l own)[j]? = l[j]? := fun l hl => by
        have hl2 : j < (noes l own).length := by rw [noes_length]; exact hl
        rcases noes_get l (List.getElem?_eq_getElem hl2) with ⟨a, _⟩ | ⟨_, b⟩
        · exact absurd a hj
        · rw [List.getElem?_eq_getElem hl2, b]
      rw [h1 _ (by rw [noes_length]; exact hl)]
    · rw [List.getElem?_eq_none (by rw [noes_length, noes_length]; omega), List.getElem?_eq_none (by rw [noes_length]; omega)]
theorem backs_noes (l : List Slot) (own : List Nat) : backs (noes l own) l own = l := by
  apply List.ext_getElem?
  intro j
  by_cases hl : j < l.length
  · have hl2 : j < (backs (noes l own) l own).length := by rw [backs_length, noes_length]; exact hl
    rcases backs_get (noes l own) l (List.getElem?_eq_getElem hl2) with ⟨a, b⟩ | ⟨a, b⟩
    · rw [List.getElem?_eq_getElem hl2, b, List.getD_eq_getElem?_getD, List.getElem?_eq_getElem hl]; rfl
    · rw [List.getElem?_eq_getElem hl2, ← b]
      have hl3 : j < (noes l own).length := by rw [noes_length]; exact hl
      rcases noes_get l (List.getElem?_eq_getElem hl3) with ⟨c, _⟩ | ⟨_, d⟩
      · exact absurd c a
      · rw [List.getElem?_eq_getElem hl3, d]
  · rw [List.getElem?_eq_none (by rw [backs_length, noes_length]; omega), List.getElem?_eq_none (by omega)]
theorem wipe_wipe (S : Sta) (own : List Nat) : (S.wipe own).wipe own = S.wipe own := by unfold Sta.wipe; rw [noes_noes]
theorem wipe_back (S : Sta) (own : List Nat) : (S.wipe own).back S own = S := by unfold Sta.wipe Sta.back; rw [backs_noes]
theorem compF_run {own : List Nat} {it : IF} {tg : Tg} {tt : TF} {te : EF} {S S1 : Sta} {ts : List T} (v : T → Option T) (hi : it S = .ok ts S1) (hf : (own.all fun i => Slot.free S1.lo[i]?) = true) (hs : (tg.slots.all fun i => own.contains i) = true) (hl : ts.length ≤ sz)
    (h : ∀ t ∈ ts, ∀ acc, compStep own tg tt te t ((S1.wipe own).push (.ow (.lst acc))) = .ok (v t) ((S1.wipe own).push (.ow (.lst acc)))) :
    compF own it tg tt te S = .ok (.ow (.lst (ts.filterMap v))) S1 := by
  unfold compF
  rw [hi, R.bind_ok, hf, hs, compL_run (wipe_wipe S1 own) ts [] (by simpa using hl) h]
  simp [wipe_back]
end TL
namespace TL
/-! rows of naturals -/
def tn (p : List Nat) : List T := p.map fun (n : Nat) => T.int (n : Int)
@[simp] theorem tn_length (p : List Nat) : (tn p).length = p.length := List.length_map _
@[simp] theorem tn_nil : tn [] = [] := rfl
@[simp] theorem tn_cons (a : Nat) (p : List Nat) : tn (a :: p) = .int (a : Int) :: tn p := rfl
theorem tn_append (p q : List Nat) : tn (p ++ q) = tn p ++ tn q := List.map_append
theorem atI_n {α : Type} {xs : List α} {i : Nat} {x : α} (h : xs[i]? = some x) : atI xs (i : Int) = some x := by
  have hi : i < xs.length := (List.getElem?_eq_some_iff.mp h).1
  unfold atI ixN
  rw [if_pos (by omega), if_pos (by omega)]
  simpa using h
theorem tn_get {p : List Nat} {i n : Nat} (h : p[i]? = some n) : (tn p)[i]? = some (.int (n : Int)) := by
  unfold tn
  rw [List.getElem?_map, h]
  rfl
theorem ix_tup {ts : List T} {i : Nat} {t : T} (h : ts[i]? = some t) : ixT (.tup ts) (.int (i : Int)) = some (.sh t) := by
  show (atI ts (i : Int)).map Slot.sh = _
  rw [atI_n h]; rfl
theorem ix_lst {ts : List T} {i : Nat} {t : T} (h : ts[i]? = some t) : ixT (.lst ts) (.int (i : Int)) = some (.sh t) := by
  show (atI ts (i : Int)).map Slot.sh = _
  rw [atI_n h]; rfl
theorem eqv_int (a b : Int) : PyData.eqv (.int a) (.int b) = decide (a = b) := by
  show (a == b) = _
  rw [Bool.eq_iff_iff]; simp
theorem okTs_tn (p : List Nat) (n : Nat) : T.okTs (tn p) n = true := by
  induction p with
  | nil => rfl
  | cons a p ih => rw [tn_cons, T.okTs, T.okT, ih]; rfl
theorem eqvAll_tn : ∀ p q : List Nat, PyData.eqvAll (T.dAll (tn p)) (T.dAll (tn q)) = decide (p = q)
  | [], [] => by simp [T.dAll, PyData.eqvAll]
  | [], _ :: _ => by simp [T.dAll, PyData.eqvAll]
  | _ :: _, [] => by simp [T.dAll, PyData.eqvAll]
  | a :: p, b :: q => by
    simp only [tn_cons, T.dAll, T.d, PyData.eqvAll, eqvAll_tn p q, eqv_int]
    rw [Bool.eq_iff_iff]
    simp only [Bool.and_eq_true, decide_eq_true_eq, List.cons.injEq]
    constructor
    · rintro ⟨h1, h2⟩; exact ⟨by omega, h2⟩
    · rintro ⟨h1, h2⟩; exact ⟨by omega, h2⟩
theorem eq_int (a b : Int) : eqT (.int a) (.int b) = some (.sh (.bl (decide (a = b)))) := by
  unfold eqT
  rw [if_pos ⟨rfl, rfl⟩]
  show some (Slot.sh (T.bl (PyData.eqv (.int a) (.int b)))) = _
  rw [eqv_int]
theorem ne_int (a b : Int) : neT (.int a) (.int b) = some (.sh (.bl (!decide (a = b)))) := by
  unfold neT
  rw [if_pos ⟨rfl, rfl⟩]
  show some (Slot.sh (T.bl (!PyData.eqv (.int a) (.int b)))) = _
  rw [eqv_int]
theorem eqD_tup (p q : List Nat) : eqD (.tup (tn p)) (.tup (tn q)) = decide (p = q) := by
  show PyData.eqvAll _ _ = _
  exact eqvAll_tn p q
theorem eqD_lst (p q : List Nat) : eqD (.lst (tn p)) (.lst (tn q)) = decide (p = q) := by
  show PyData.eqvAll _ _ = _
  exact eqvAll_tn p q
theorem okD_tup (p : List Nat) (n : Nat) : T.okD (n + 1) (.tup (tn p)) = true := by show T.okTs (tn p) n = true; exact okTs_tn p n
theorem okD_lst (p : List Nat) (n : Nat) : T.okD (n + 1) (.lst (tn p)) = true := by show T.okTs (tn p) n = true; exact okTs_tn p n
theorem eq_tup (p q : List Nat) : eqT (.tup (tn p)) (.tup (tn q)) = some (.sh (.bl (decide (p = q)))) := by
  unfold eqT
  rw [if_pos ⟨okD_tup p 59, okD_tup q 59⟩, eqD_tup]
theorem eq_lst (p q : List Nat) : eqT (.lst (tn p)) (.lst (tn q)) = some (.sh (.bl (decide (p = q)))) := by
  unfold eqT
  rw [if_pos ⟨okD_lst p 59, okD_lst q 59⟩, eqD_lst]
theorem ne_tup (p q : List Nat) : neT (.tup (tn p)) (.tup (tn q)) = some (.sh (.bl (!decide (p = q)))) := by
  unfold neT
  rw [if_pos ⟨okD_tup p 59, okD_tup q 59⟩, eqD_tup]
/-- lists of rows -/
def tr (ps : List (List Nat)) : List T := ps.map fun p => T.tup (tn p)
@[simp] theorem tr_length (p : List (List Nat)) : (tr p).length = p.length := List.length_map _
theorem okTs_tr (ps : List (List Nat)) (n : Nat) : T.okTs (tr ps) (n + 1) = true := by
  induction ps with
  | nil => rfl
  | cons a p ih =>
    show (T.okT (.tup (tn a)) (n + 1) && T.okTs (tr p) (n + 1)) = true
    rw [ih]
    exact (Bool.and_true _).trans (okD_tup a n)
theorem any_tr (q : List Nat) (ps : List (List Nat)) : ((tr ps).any fun y => eqD y (.tup (tn q))) = decide (q ∈ ps) := by
  induction ps with
  | nil => simp [tr]
  | cons a p ih =>
    show (eqD (.tup (tn a)) (.tup (tn q)) || (tr p).any fun y => eqD y (.tup (tn q))) = _
    rw [ih, eqD_tup, Bool.eq_iff_iff]
    simp only [Bool.or_eq_true, decide_eq_true_eq, List.mem_cons]
    exact ⟨fun h => h.elim (fun h => .inl h.symm) .inr, fun h => h.elim (fun h => .inl h.symm) .inr⟩
theorem any_tn (b : Nat) (p : List Nat) : ((tn p).any fun y => eqD y (.int (b : Int))) = decide (b ∈ p) := by
  induction p with
  | nil => simp
  | cons a p ih =>
    show (PyData.eqv (.int (a : Int)) (.int (b : Int)) || (tn p).any fun y => eqD y (.int (b : Int))) = _
    rw [ih, eqv_int, Bool.eq_iff_iff]
    simp only [Bool.or_eq_true, decide_eq_true_eq, List.mem_cons]
    exact ⟨fun h => h.elim (fun h => .inl (by omega)) .inr, fun h => h.elim (fun h => .inl (by omega)) .inr⟩
theorem rg_tn (n : Nat) : rgT 0 (n : Int) = tn (List.range n) := by
  unfold rgT tn
  simp
theorem isN_int_int (z : Int) : isN ["int"] (.int z) = some (.sh (.bl true)) := by
  simp only [isN, tyN, Option.bind_some, show kitN "int" ["int"] = some true by decide +kernel]; rfl
theorem isN_int_bool (z : Int) : isN ["bool"] (.int z) = some (.sh (.bl false)) := by
  simp only [isN, tyN, Option.bind_some, show kitN "int" ["bool"] = some false by decide +kernel]; rfl
theorem isN_lst (z : List T) : isN ["list", "tuple"] (.lst z) = some (.sh (.bl true)) := by
  simp only [isN, tyN, Option.bind_some, show kitN "list" ["list", "tuple"] = some true by decide +kernel]; rfl
theorem isN_tup (z : List T) : isN ["list", "tuple"] (.tup z) = some (.sh (.bl true)) := by
  simp only [isN, tyN, Option.bind_some, show kitN "tuple" ["list", "tuple"] = some true by decide +kernel]; rfl
theorem filterMap_const {α β : Type} (b : β) : ∀ l : List α, (l.filterMap fun _ => some b) = List.replicate l.length b
  | [] => rfl
  | _ :: l => by rw [List.filterMap_cons]; simp [filterMap_const b l, List.replicate_succ]
theorem boolsT_rep (n : Nat) : boolsT (List.replicate n (T.bl true)) = some (List.replicate n true) := by
  have := boolsT_map (List.replicate n true)
  rwa [List.map_replicate] at this
theorem allN_rep (n : Nat) : allN [.lst (List.replicate n (T.bl true))] = some (.sh (.bl true)) := by
  show (boolsT _).map _ = _
  rw [boolsT_rep]
  simp
end TL
namespace TL
@[simp] theorem setIF_ap (i : Nat) (fv fi : OF) (S : Sta) : setIF i fv fi S = (fv S).bind fun o S1 => match S1.lo[i]? with
  | some (.ow (.lst _)) => (fi S1).bind fun o' S2 => match o, o', S2.lo[i]? with
    | .val t, .val (.int k), some (.ow (.lst ts)) => match ixN ts.length k with
      | some j => .ok .nx (S2.put i (.ow (.lst (ts.set j t))))
      | none => .stuck
    | _, _, _ => .stuck
  | _ => .stuck := rfl
@[simp] theorem methF_ap (i : Nat) (p : List T → List T → Option (List T × T)) (fa : AF) (S : Sta) : methF i p fa S = match S.lo[i]? with
  | some (.ow (.lst _)) => (fa S).bind fun os S1 => match vals os, S1.lo[i]? with
    | some us, some (.ow (.lst ts)) => match p ts us with
      | some (ts', z) => .ok (.sh z) (S1.put i (.ow (.lst ts')))
      | none => .stuck
    | _, _ => .stuck
  | _ => .stuck := rfl
@[simp] theorem parF_ap (i j : Nat) (f g : EF) (S : Sta) : parF i j f g S = (f S).bind fun x S1 => match g (S1.push x) with
  | .ok y S2 => match S2.popG with
    | some (x', S3) => if i < S3.lo.length ∧ j < S3.lo.length then .ok .nx ((S3.put j y).put i x') else .stuck
    | none => .stuck
  | .exc e S2 => match S2.popG with
    | some (_, S3) => .exc e S3
    | none => .stuck
  | .stuck => .stuck := rfl
theorem ixN_n {n i : Nat} (h : i < n) : ixN n (i : Int) = some i := by
  unfold ixN
  rw [if_pos (by omega), if_pos (by omega)]
  simp
theorem tn_set (p : List Nat) (i n : Nat) : (tn p).set i (.int (n : Int)) = tn (p.set i n) := by
  unfold tn
  rw [List.map_set]
@[simp] theorem popG_snoc (l gh : List Slot) (nb : Nib) (x : Slot) : Sta.popG ⟨l, gh ++ [x], nb⟩ = some (x, ⟨l, gh, nb⟩) := Sta.popG_push ⟨l, gh, nb⟩ x
@[simp] theorem popG_one (l : List Slot) (nb : Nib) (x : Slot) : Sta.popG ⟨l, [x], nb⟩ = some (x, ⟨l, [], nb⟩) := Sta.popG_push ⟨l, [], nb⟩ x
theorem ap_ok {ts : List T} {t : T} (h : ts.length < sz) : apP ts [t] = some (ts ++ [t], .non) := by
  show (if ts.length < sz then some (ts ++ [t], T.non) else none) = _
  rw [if_pos h]
theorem ex_ok {ts us : List T} (h : ts.length + us.length ≤ sz) : exP ts [.lst us] = some (ts ++ us, .non) := by
  show (if ts.length + us.length ≤ sz then some (ts ++ us, T.non) else none) = _
  rw [if_pos h]
theorem gt_nat (a b : Nat) : gtA (.int (a : Int)) (.int (b : Int)) = some (.sh (.bl (decide (b < a)))) := by
  show some (Slot.sh (T.bl (decide ((b : Int) < a)))) = _
  simp
end TL
namespace TL
theorem rngI1_n {a : OF} {S S1 : Sta} {n : Nat} (h : a S = .ok (.val (.int (n : Int))) S1) (hn : n ≤ 1000000) : rngI1 a S = .ok (tn (List.range n)) S1 := by
  unfold rngI1
  rw [h, R.bind_ok]
  show (if -(2 ^ 62) ≤ (n : Int) ∧ (n : Int) < 2 ^ 62 then R.ok (rgT 0 (n : Int)) S1 else R.stuck) = _
  rw [if_pos ⟨by omega, by omega⟩, rg_tn]
theorem len_sz {n : Nat} (h : n ≤ 100000) : n ≤ sz := Nat.le_trans h (by decide)
theorem lt_sz {n : Nat} (h : n ≤ 100000) : n < sz := Nat.lt_of_le_of_lt h (by decide)
end TL

end
section
set_option Elab.async false
set_option linter.all false
set_option maxRecDepth 100000
set_option autoImplicit false
/-! TL12: a number is drawn -/
open PySem PySem.Spec PyProof.Rows L2
namespace TL
@[simp] theorem nibGet_ap (i k : Nat) (S : Sta) : nibGet i k S = match S.lo[i]? with
  | some (.sh .nib) => match S.nb.get k with
    | some t => .ok (.sh t) S
    | none => .stuck
  | _ => .stuck := rfl
@[simp] theorem nibSet_ap (i k : Nat) (f : OF) (S : Sta) : nibSet i k f S = (f S).bind fun o S1 => match o, S1.lo[i]? with
  | .val (.int z), some (.sh .nib) => match S1.nb.set k z with
    | some n => .ok .nx { S1 with nb := n }
    | none => .stuck
  | _, _ => .stuck := rfl
theorem lg {x : Int} {k : Nat} (h : x.natAbs < 2 ^ k) : x.natAbs.log2 ≤ k := by
  by_cases h0 : x.natAbs = 0
  · rw [h0]; exact Nat.zero_le _
  · exact Nat.le_of_lt ((Nat.log2_lt h0).mpr h)
theorem mul_ok {i j : Int} (h : i.natAbs.log2 + j.natAbs.log2 < 134000000) : mulT (.int i) (.int j) = some (.sh (.int (i * j))) := by
  show (if i.natAbs.log2 + j.natAbs.log2 < 134000000 then some (Slot.sh (T.int (i * j))) else none) = _
  rw [if_pos h]
theorem mul_sm {i j : Int} {a b : Nat} (ha : i.natAbs < 2 ^ a) (hb : j.natAbs < 2 ^ b) (h : a + b < 134000000) : mulT (.int i) (.int j) = some (.sh (.int (i * j))) :=
  mul_ok (by have := lg ha; have := lg hb; omega)
theorem mod_ok {i j : Int} (h : 0 < j) : modT (.int i) (.int j) = some (.sh (.int (i % j))) := by
  show (if 0 < j then some (Slot.sh (T.int (i % j))) else none) = _
  rw [if_pos h]
theorem fdiv_ok {i j : Int} (h : 0 < j) (h2 : j.natAbs < 2 ^ 8000) : fdivT (.int i) (.int j) = some (.sh (.int (i / j))) := by
  show (if 0 < j ∧ j.natAbs.log2 < 9000 then some (Slot.sh (T.int (i / j))) else none) = _
  rw [if_pos ⟨h, by have := lg h2; omega⟩]
theorem pow_ok {i : Int} {j : Nat} (h : i.natAbs < 2 ^ 64) (h2 : j ≤ 100) : powT (.int i) (.int (j : Int)) = some (.sh (.int (i ^ j))) := by
  show (if 0 ≤ (j : Int) ∧ (j : Int) ≤ 1000000 ∧ i.natAbs < 2 ^ 64 then some (Slot.sh (T.int (i ^ (j : Int).toNat))) else none) = _
  rw [if_pos ⟨by omega, by omega, h⟩]
  simp
def drawMix (b1 c1 p1 p2 e a2 c2 p3 : Int) : SF := (seqF (setF 5 (op2 modT (opE (opN intN (consA (opE (op2 powT (opE (op2 addT (opE (op2 addT (opE (op2 modT (opE (opN intN (consA (var 4) (nilA)))) (opE (con (.int p1))))) (opE (op2 mulT (opE (con (.int c1))) (var 3))))) (opE (con (.int b1))))) (opE (con (.int 5))))) (nilA)))) (opE (con (.int p2))))) (seqF (setF 5 (op2 modT (opE (opN intN (consA (opE (op2 powT (opE (op2 addT (opE (op2 addT (opE (op2 mulT (var 5) (opE (op2 addT (opE (op2 mulT (opE (con (.int 2))) (var 3))) (opE (con (.int e))))))) (opE (op2 mulT (opE (op2 mulT (opE (con (.int a2))) (var 3))) (var 3))))) (opE (con (.int c2))))) (opE (con (.int 3))))) (nilA)))) (opE (con (.int p3))))) (retF (op2 modT (opE (opN intN (consA (opE (op2 fdivT (var 5) (opE (con (.int 64))))) (nilA)))) (var 1)))))
def drawHeld : SF := (seqF (setF 2 (op2 addT (opE (op2 mulT (opE (con (.int 2))) (opE (op2 subT (opE (opN absN (consA (var 4) (nilA)))) (opE (op2 powT (opE (con (.int 10))) (opE (con (.int 18))))))))) (opE (opN intN (consA (opE (op2 ltA (var 4) (opE (con (.int 0))))) (nilA)))))) (seqF (nibSet 0 2 (opE (op2 fdivT (opE (opN intN (consA (var 2) (nilA)))) (var 1)))) (retF (op2 modT (opE (opN intN (consA (var 2) (nilA)))) (var 1)))))
def drawB (a b p1 c1 b1 p2 e a2 c2 p3 : Int) : SF := seqF (ifF (tst (op2 gtA (opE (nibGet 0 2)) (opE (con (.int 0))))) (seqF (setF 2 (nibGet 0 2)) (seqF (nibSet 0 2 (opE (op2 fdivT (opE (opN intN (consA (var 2) (nilA)))) (var 1)))) (retF (op2 modT (opE (opN intN (consA (var 2) (nilA)))) (var 1))))) (nxF)) (seqF (setF 3 (nibGet 0 1)) (seqF (nibSet 0 1 (opE (op2 addT (var 3) (opE (con (.int 1)))))) (seqF (setF 4 (op2 addT (opE (op2 mulT (opE (con (.int a))) (var 3))) (opE (con (.int b))))) (seqF (ifF (tst (op2 neT (opE (nibGet 0 0)) (opE (lstF (nilA))))) (setF 4 (op2 ixT (opE (nibGet 0 0)) (opE (op2 modT (opE (opN intN (consA (var 3) (nilA)))) (opE (opN lenN (consA (opE (nibGet 0 0)) (nilA)))))))) (nxF)) (seqF (ifF (andT (tst (op2 ltA (var 3) (opE (opN lenN (consA (opE (nibGet 0 0)) (nilA)))))) (tst (op2 geT (opE (opN absN (consA (var 4) (nilA)))) (opE (op2 powT (opE (con (.int 10))) (opE (con (.int 18)))))))) drawHeld (nxF)) (drawMix b1 c1 p1 p2 e a2 c2 p3))))))
structure NbOk (k : Nat) (nb : Nib) : Prop where
  t0 : 0 ≤ nb.turn
  tk : nb.turn ≤ k
  r0 : 0 ≤ nb.rest
  bits : ∀ z ∈ nb.cells, Builtin.Int.intBits z ≤ 1048576
theorem NbOk.mono {k j : Nat} {nb : Nib} (h : NbOk k nb) (hj : k ≤ j) : NbOk j nb := ⟨h.t0, by have := h.tk; omega, h.r0, h.bits⟩
theorem mod_nat {i : Int} {m : Nat} (h : 0 < m) : ∃ r : Nat, i % (m : Int) = (r : Int) ∧ r < m := by
  have h1 : 0 ≤ i % (m : Int) := Int.emod_nonneg _ (by omega)
  have h2 : i % (m : Int) < m := Int.emod_lt_of_pos _ (by omega)
  exact ⟨(i % (m : Int)).toNat, by omega, by omega⟩
theorem run_mix {b1 c1 p1 p2 e a2 c2 p3 : Int} {m : Nat} {x y : Slot} {t cell : Int} {nb : Nib} (hm : 0 < m) (ht0 : 0 ≤ t) (ht : t < 2 ^ 18)
    (hb1 : 0 ≤ b1 ∧ b1 < 2 ^ 20) (hc1 : 0 ≤ c1 ∧ c1 < 2 ^ 20) (hp1 : 0 < p1 ∧ p1 < 2 ^ 32) (hp2 : 0 < p2 ∧ p2 < 2 ^ 32) (he : 0 ≤ e ∧ e < 2 ^ 20) (ha2 : 0 ≤ a2 ∧ a2 < 2 ^ 20) (hc2 : 0 ≤ c2 ∧ c2 < 2 ^ 20) (hp3 : 0 < p3) :
    ∃ (r : Nat) (S : Sta), r < m ∧ S.nb = nb ∧ drawMix b1 c1 p1 p2 e a2 c2 p3 ⟨[.sh .nib, .sh (.int (m : Int)), x, .sh (.int t), .sh (.int cell), y], [], nb⟩ = .ok (.rt (.sh (.int (r : Int)))) S := by
  obtain ⟨i1, h1⟩ : ∃ z, z = cell % p1 := ⟨_, rfl⟩
  have h1a : 0 ≤ i1 := by rw [h1]; exact Int.emod_nonneg _ (by omega)
  have h1b : i1 < p1 := by rw [h1]; exact Int.emod_lt_of_pos _ hp1.1
  have h2 : 0 ≤ c1 * t := Int.mul_nonneg hc1.1 ht0
  have h2b : c1 * t ≤ 2 ^ 20 * 2 ^ 18 := Int.mul_le_mul (by omega) (by omega) ht0 (by omega)
  obtain ⟨m1, h3⟩ : ∃ z, z = (i1 + c1 * t + b1) ^ 5 % p2 := ⟨_, rfl⟩
  have h3a : 0 ≤ m1 := by rw [h3]; exact Int.emod_nonneg _ (by omega)
  have h3b : m1 < p2 := by rw [h3]; exact Int.emod_lt_of_pos _ hp2.1
  have h4 : 0 ≤ m1 * (2 * t + e) := Int.mul_nonneg h3a (by omega)
  have h4b : m1 * (2 * t + e) ≤ 2 ^ 32 * 2 ^ 22 := Int.mul_le_mul (by omega) (by omega) (by omega) (by omega)
  have h5 : 0 ≤ a2 * t := Int.mul_nonneg ha2.1 ht0
  have h5b : a2 * t ≤ 2 ^ 20 * 2 ^ 18 := Int.mul_le_mul (by omega) (by omega) ht0 (by omega)
  have h6 : 0 ≤ a2 * t * t := Int.mul_nonneg h5 ht0
  have h6b : a2 * t * t ≤ 2 ^ 38 * 2 ^ 18 := Int.mul_le_mul (by omega) (by omega) ht0 (by omega)
  obtain ⟨m2, h7⟩ : ∃ z, z = (m1 * (2 * t + e) + a2 * t * t + c2) ^ 3 % p3 := ⟨_, rfl⟩
  obtain ⟨r, hr, hrm⟩ := mod_nat (i := m2 / 64) hm
  refine ⟨r, ⟨[.sh .nib, .sh (.int (m : Int)), x, .sh (.int t), .sh (.int cell), .sh (.int m2)], [], nb⟩, hrm, rfl, ?_⟩
  have e1 := mul_sm (i := c1) (j := t) (a := 64) (b := 64) (by omega) (by omega) (by omega)
  have e2 : powT (.int (i1 + c1 * t + b1)) (.int 5) = some (.sh (.int ((i1 + c1 * t + b1) ^ 5))) := pow_ok (i := i1 + c1 * t + b1) (j := 5) (by omega) (by omega)
  have e3 := mul_sm (i := 2) (j := t) (a := 64) (b := 64) (by omega) (by omega) (by omega)
  have e4 := mul_sm (i := m1) (j := 2 * t + e) (a := 64) (b := 64) (by omega) (by omega) (by omega)
  have e5 := mul_sm (i := a2) (j := t) (a := 64) (b := 64) (by omega) (by omega) (by omega)
  have e6 := mul_sm (i := a2 * t) (j := t) (a := 64) (b := 64) (by omega) (by omega) (by omega)
  have e7 : powT (.int (m1 * (2 * t + e) + a2 * t * t + c2)) (.int 3) = some (.sh (.int ((m1 * (2 * t + e) + a2 * t * t + c2) ^ 3))) := pow_ok (i := m1 * (2 * t + e) + a2 * t * t + c2) (j := 3) (by omega) (by omega)
  have e8 := fdiv_ok (i := m2) (j := 64) (by omega) (Nat.lt_of_lt_of_le (show (64 : Int).natAbs < 2 ^ 7 by decide) (Nat.pow_le_pow_right (by omega) (by omega)))
  have e9 := mod_ok (i := cell) hp1.1
  have e10 := mod_ok (i := (i1 + c1 * t + b1) ^ 5) hp2.1
  have e11 := mod_ok (i := (m1 * (2 * t + e) + a2 * t * t + c2) ^ 3) hp3
  have e12 := mod_ok (i := m2 / 64) (j := (m : Int)) (by omega)
  rw [← h1] at e9
  rw [← h3] at e10
  rw [← h7] at e11
  rw [hr] at e12
  simp [drawMix, var_sh, varE_sh, intN, e9, e1, addT, e2, e10, e3, e4, e5, e6, e7, e11, e8, e12]

theorem run_held {m : Nat} {x y : Slot} {t cell : Int} {nb : Nib} (hm : 0 < m) (hm2 : m ≤ 1000000000) (hb : Builtin.Int.intBits cell ≤ 1048576) (h18 : 10 ^ 18 ≤ (if cell < 0 then -cell else cell)) :
    ∃ (r : Nat) (S : Sta) (z : Int), r < m ∧ 0 ≤ z ∧ S.nb = { nb with rest := z } ∧ drawHeld ⟨[.sh .nib, .sh (.int (m : Int)), x, .sh (.int t), .sh (.int cell), y], [], nb⟩ = .ok (.rt (.sh (.int (r : Int)))) S := by
  obtain ⟨w, hw⟩ : ∃ w : Int, w = (if cell < 0 then -cell else cell) := ⟨_, rfl⟩
  have hw2 : w.natAbs = cell.natAbs := by rw [hw]; split <;> omega
  obtain ⟨u, hu⟩ : ∃ u : Int, u = (if cell < 0 then 1 else 0) := ⟨_, rfl⟩
  have hu2 : 0 ≤ u := by rw [hu]; split <;> omega
  rw [← hw] at h18
  have hn : cell.natAbs < 2 ^ 1048576 := PySem.intBits_le_iff.mp hb
  have e1 : powT (.int 10) (.int 18) = some (.sh (.int (10 ^ 18))) := pow_ok (i := 10) (j := 18) (by omega) (by omega)
  have e2 : mulT (.int 2) (.int (w - 10 ^ 18)) = some (.sh (.int (2 * (w - 10 ^ 18)))) := mul_sm (a := 2) (b := 1048576) (by decide) (Nat.lt_of_le_of_lt (by omega) hn) (by omega)
  have hz : 0 ≤ 2 * (w - 10 ^ 18) + u := by omega
  obtain ⟨r, hr, hrm⟩ := mod_nat (i := 2 * (w - 10 ^ 18) + u) hm
  have e3 := mod_ok (i := 2 * (w - 10 ^ 18) + u) (j := (m : Int)) (by omega)
  rw [hr] at e3
  have e4 := fdiv_ok (i := 2 * (w - 10 ^ 18) + u) (j := (m : Int)) (by omega) (Nat.lt_of_lt_of_le (show (m : Int).natAbs < 2 ^ 30 by omega) (Nat.pow_le_pow_right (by omega) (by omega)))
  have e5 : absN [.int cell] = some (.sh (.int w)) := by rw [hw]; rfl
  have e6 : ltA (.int cell) (.int 0) = some (.sh (.bl (decide (cell < 0)))) := rfl
  have e7 : intN [.bl (decide (cell < 0))] = some (.sh (.int u)) := by
    rw [hu]
    show some (Slot.sh (T.int (if decide (cell < 0) = true then 1 else 0))) = _
    simp
  refine ⟨r, ⟨[.sh .nib, .sh (.int (m : Int)), .sh (.int (2 * (w - 10 ^ 18) + u)), .sh (.int t), .sh (.int cell), y], [], { nb with rest := (2 * (w - 10 ^ 18) + u) / m }⟩, _, hrm, Int.ediv_nonneg hz (by omega), rfl, ?_⟩
  have e8 : intN [.int (2 * (w - 10 ^ 18) + u)] = some (.sh (.int (2 * (w - 10 ^ 18) + u))) := rfl
  generalize (10 : Int) ^ 18 = T18 at *
  simp [drawHeld, var_sh, varE_sh, e5, e1, subT, e2, e6, e7, addT, e8, e4, e3, Nib.set]
theorem eqvAll_nil (xs : List T) : PyData.eqvAll (T.dAll xs) (T.dAll []) = decide (xs = []) := by
  cases xs <;> simp [T.dAll, PyData.eqvAll]
theorem okTs_ints (ns : List Int) (n : Nat) : T.okTs (ns.map T.int) n = true := by
  induction ns with
  | nil => rfl
  | cons a p ih => rw [List.map_cons, T.okTs, T.okT, ih]; rfl
theorem ne_nil (ns : List Int) : neT (.lst (ns.map T.int)) (.lst []) = some (.sh (.bl (!decide (ns = [])))) := by
  unfold neT
  rw [if_pos ⟨by show T.okTs _ 59 = true; exact okTs_ints ns 59, rfl⟩]
  show some (Slot.sh (T.bl (!PyData.eqvAll (T.dAll (ns.map T.int)) (T.dAll [])))) = _
  rw [eqvAll_nil]
  cases ns <;> simp
theorem run_draw {a b p1 c1 b1 p2 e a2 c2 p3 : Int} {m k : Nat} {x2 x3 x4 x5 : Slot} {nb : Nib} (h : NbOk k nb) (hk : k ≤ 100000) (hm : 0 < m) (hm2 : m ≤ 1000000000) (ha : 0 ≤ a ∧ a < 2 ^ 20)
    (hb1 : 0 ≤ b1 ∧ b1 < 2 ^ 20) (hc1 : 0 ≤ c1 ∧ c1 < 2 ^ 20) (hp1 : 0 < p1 ∧ p1 < 2 ^ 32) (hp2 : 0 < p2 ∧ p2 < 2 ^ 32) (he : 0 ≤ e ∧ e < 2 ^ 20) (ha2 : 0 ≤ a2 ∧ a2 < 2 ^ 20) (hc2 : 0 ≤ c2 ∧ c2 < 2 ^ 20) (hp3 : 0 < p3) :
    ∃ (r : Nat) (S : Sta), r < m ∧ NbOk (k + 1) S.nb ∧ drawB a b p1 c1 b1 p2 e a2 c2 p3 ⟨[.sh .nib, .sh (.int (m : Int)), x2, x3, x4, x5], [], nb⟩ = .ok (.rt (.sh (.int (r : Int)))) S := by
  obtain ⟨cells, turn, rest⟩ := nb
  obtain ⟨t0, tk, r0, bits⟩ := h
  dsimp only at t0 tk r0 bits
  by_cases hr : 0 < rest
  · obtain ⟨r, hr1, hrm⟩ := mod_nat (i := rest) hm
    have e3 := mod_ok (i := rest) (j := (m : Int)) (by omega)
    rw [hr1] at e3
    have e4 := fdiv_ok (i := rest) (j := (m : Int)) (by omega) (Nat.lt_of_lt_of_le (show (m : Int).natAbs < 2 ^ 30 by omega) (Nat.pow_le_pow_right (by omega) (by omega)))
    refine ⟨r, ⟨[.sh .nib, .sh (.int (m : Int)), .sh (.int rest), x3, x4, x5], [], ⟨cells, turn, rest / m⟩⟩, hrm, ⟨t0, by dsimp only; omega, Int.ediv_nonneg r0 (by omega), bits⟩, ?_⟩
    have e5 : gtA (.int rest) (.int 0) = some (.sh (.bl true)) := by
      show some (Slot.sh (T.bl (decide ((0 : Int) < rest)))) = _
      rw [decide_eq_true hr]
    simp [drawB, var_sh, varE_sh, e5, e4, e3, Nib.set, Nib.get, intN]
  · have e5 : gtA (.int rest) (.int 0) = some (.sh (.bl false)) := by
      show some (Slot.sh (T.bl (decide ((0 : Int) < rest)))) = _
      rw [decide_eq_false hr]
    have hr0 : rest = 0 := by omega
    subst hr0
    have e6 := mul_sm (i := a) (j := turn) (a := 64) (b := 64) (by omega) (by omega) (by omega)
    have ok1 : NbOk (k + 1) ⟨cells, turn + 1, 0⟩ := ⟨by dsimp only; omega, by dsimp only; omega, Int.le_refl 0, bits⟩
    by_cases hc : cells = []
    · subst hc
      have e7 : neT (.lst (([] : List Int).map T.int)) (.lst []) = some (.sh (.bl false)) := ne_nil []
      rw [List.map_nil] at e7
      obtain ⟨r, S, hrm, hS, eS⟩ := run_mix (x := x2) (y := x5) (t := turn) (cell := a * turn + b) (nb := ⟨[], turn + 1, 0⟩) hm t0 (by omega) hb1 hc1 hp1 hp2 he ha2 hc2 hp3
      refine ⟨r, S, hrm, hS ▸ ok1, ?_⟩
      have e8 : ltA (.int turn) (.int 0) = some (.sh (.bl false)) := by
        show some (Slot.sh (T.bl (decide (turn < 0)))) = _
        rw [decide_eq_false (by omega)]
      simp [drawB, var_sh, varE_sh, e5, e6, Nib.set, Nib.get, addT, e7, lenN, e8, eS]
    · have hl : 0 < cells.length := List.length_pos_iff.mpr hc
      have e7 : neT (.lst (cells.map T.int)) (.lst []) = some (.sh (.bl true)) := by rw [ne_nil, decide_eq_false hc]; rfl
      obtain ⟨j, hj, hjm⟩ := mod_nat (i := turn) hl
      have e9 := mod_ok (i := turn) (j := (cells.length : Int)) (by omega)
      rw [hj] at e9
      have g : cells[j]? = some cells[j] := List.getElem?_eq_getElem hjm
      have g2 : (cells.map T.int)[j]? = some (.int cells[j]) := by rw [List.getElem?_map, g]; rfl
      have e10 := ix_lst g2
      have hbit := bits _ (List.getElem_mem hjm)
      generalize cells[j] = cell at g g2 e10 hbit
      have e8 : ltA (.int turn) (.int (cells.length : Int)) = some (.sh (.bl (decide (turn < cells.length)))) := rfl
      have e11 : powT (.int 10) (.int 18) = some (.sh (.int (10 ^ 18))) := pow_ok (i := 10) (j := 18) (by omega) (by omega)
      obtain ⟨r, S, hrm, hS, eS⟩ := run_mix (x := x2) (y := x5) (t := turn) (cell := cell) (nb := ⟨cells, turn + 1, 0⟩) hm t0 (by omega) hb1 hc1 hp1 hp2 he ha2 hc2 hp3
      have e12 : absN [.int cell] = some (.sh (.int (if cell < 0 then -cell else cell))) := rfl
      by_cases h1 : turn < cells.length
      · by_cases h2 : 10 ^ 18 ≤ (if cell < 0 then -cell else cell)
        · obtain ⟨r, S, z, hrm, hz, hS, eS⟩ := run_held (x := x2) (y := x5) (t := turn) (cell := cell) (nb := ⟨cells, turn + 1, 0⟩) hm hm2 hbit h2
          refine ⟨r, S, hrm, hS ▸ ⟨ok1.t0, ok1.tk, hz, bits⟩, ?_⟩
          have e13 : geT (.int (if cell < 0 then -cell else cell)) (.int (10 ^ 18)) = some (.sh (.bl true)) := by
            show some (Slot.sh (T.bl (decide ((10 : Int) ^ 18 ≤ _)))) = _
            rw [decide_eq_true h2]
          generalize (if cell < 0 then -cell else cell) = W at *
          generalize (10 : Int) ^ 18 = T18 at *
          rw [decide_eq_true h1] at e8
          simp [drawB, var_sh, varE_sh, e5, e6, Nib.set, Nib.get, addT, e7, lenN, e8, intN, e9, e10, e12, e11, e13, eS]
        · refine ⟨r, S, hrm, hS ▸ ok1, ?_⟩
          have e13 : geT (.int (if cell < 0 then -cell else cell)) (.int (10 ^ 18)) = some (.sh (.bl false)) := by
            show some (Slot.sh (T.bl (decide ((10 : Int) ^ 18 ≤ _)))) = _
            rw [decide_eq_false h2]
          generalize (if cell < 0 then -cell else cell) = W at *
          generalize (10 : Int) ^ 18 = T18 at *
          rw [decide_eq_true h1] at e8
          simp [drawB, var_sh, varE_sh, e5, e6, Nib.set, Nib.get, addT, e7, lenN, e8, intN, e9, e10, e12, e11, e13, eS]
      · refine ⟨r, S, hrm, hS ▸ ok1, ?_⟩
        rw [decide_eq_false h1] at e8
        simp [drawB, var_sh, varE_sh, e5, e6, Nib.set, Nib.get, addT, e7, lenN, e8, intN, e9, e10, eS]
end TL
namespace TL
@[simp] theorem slF_ap (p : T → Option Int → Option Int → Option Slot) (fa : OF) (lo hi : BF) (S : Sta) : slF p fa lo hi S = (fa S).bind fun o S1 => (lo S1).bind fun l S2 => (hi S2).bind fun u S3 => match o.get S3 with
  | some t => res (p t l u) S3
  | none => .stuck := rfl
@[simp] theorem noB_ap (S : Sta) : noB S = .ok none S := rfl
@[simp] theorem someB_ap (f : OF) (S : Sta) : someB f S = (f S).bind fun o S1 => match o with
  | .val (.int i) => .ok (some i) S1
  | _ => .stuck := rfl
theorem cutT_take (xs : List T) (m : Nat) : cutT xs none (some (m : Int)) = xs.take m := by
  unfold cutT
  rw [HT.sIx_none, HT.sIx_nat, List.drop_zero, Nat.sub_zero]
  by_cases h : m ≤ xs.length
  · rw [Nat.min_eq_left h]
  · rw [Nat.min_eq_right (by omega), List.take_of_length_le (Nat.le_refl _), List.take_of_length_le (by omega)]
theorem tn_take (p : List Nat) (i : Nat) : (tn p).take i = tn (p.take i) := by unfold tn; rw [List.map_take]
end TL
namespace TL
theorem compL_map {α : Type} {own : List Nat} {tg : Tg} {tt : TF} {te : EF} {S : Sta} {f : α → T} {v : α → Option T} (hw : S.wipe own = S) : ∀ (l : List α) (acc : List T), acc.length + l.length ≤ sz →
    (∀ a ∈ l, ∀ acc, compStep own tg tt te (f a) (S.push (.ow (.lst acc))) = .ok (v a) (S.push (.ow (.lst acc)))) →
    compL own tg tt te (l.map f) (S.push (.ow (.lst acc))) = .ok () (S.push (.ow (.lst (acc ++ l.filterMap v))))
  | [], acc, _, _ => by rw [List.filterMap_nil, List.append_nil]; rfl
  | t :: ts, acc, hl, h => by
    rw [List.length_cons] at hl
    rw [List.map_cons, compL_step (h t List.mem_cons_self acc) hw (by omega), compL_map hw ts _ (by rw [List.length_append]; cases v t <;> simp <;> omega) fun t ht => h t (List.mem_cons_of_mem _ ht)]
    rw [List.filterMap_cons]
    cases v t <;> simp
theorem compF_map {α : Type} {own : List Nat} {it : IF} {tg : Tg} {tt : TF} {te : EF} {S S1 : Sta} (l : List α) (f : α → T) (v : α → Option T) (hi : it S = .ok (l.map f) S1) (hf : (own.all fun i => Slot.free S1.lo[i]?) = true) (hs : (tg.slots.all fun i => own.contains i) = true) (hl : l.length ≤ sz)
    (h : ∀ a ∈ l, ∀ acc, compStep own tg tt te (f a) ((S1.wipe own).push (.ow (.lst acc))) = .ok (v a) ((S1.wipe own).push (.ow (.lst acc)))) :
    compF own it tg tt te S = .ok (.ow (.lst (l.filterMap v))) S1 := by
  unfold compF
  rw [hi, R.bind_ok, hf, hs, compL_map (wipe_wipe S1 own) l [] (by simpa using hl) h]
  simp [wipe_back]
theorem filterMap_if {α β : Type} (p : α → Bool) (f : α → β) : ∀ l : List α, (l.filterMap fun a => if p a = true then some (f a) else none) = (l.filter p).map f
  | [] => rfl
  | a :: l => by
    rw [List.filterMap_cons, List.filter_cons, filterMap_if p f l]
    by_cases h : p a = true
    · rw [if_pos h, if_pos h]; rfl
    · rw [if_neg h, if_neg h]
end TL

end
section
set_option Elab.async false
set_option linter.all false
set_option maxRecDepth 100000
set_option autoImplicit false
open PySem PySem.Spec PyProof.Rows L2
namespace TL
theorem compStep_filter {own : List Nat} {tg : Tg} {tt : TF} {te : EF} {t y : T} {S S1 W : Sta} {k : Bool} (h1 : tg.put t S = some S1) (h2 : tt S1 = .ok k S1) (h3 : te S1 = .ok (.sh y) S1) (h4 : S1.wipe own = W) : compStep own tg tt te t S = .ok (if k = true then some y else none) W := by
  unfold compStep
  rw [h1]
  dsimp only
  rw [h2, R.bind_ok]
  cases k with
  | true =>
    rw [if_pos rfl, if_pos rfl, h3, R.bind_ok, ← h4]
    rfl
  | false =>
    rw [if_neg Bool.false_ne_true, if_neg Bool.false_ne_true, ← h4]
theorem compStep_map {own : List Nat} {tg : Tg} {te : EF} {t y : T} {S S1 S2 W : Sta} {x : Slot} (h1 : tg.put t S = some S1) (h3 : te S1 = .ok x S2) (hx : x.tree = some y) (h4 : S2.wipe own = W) : compStep own tg yesT te t S = .ok (some y) W := by
  unfold compStep
  rw [h1]
  dsimp only
  rw [yesT_ap, R.bind_ok, if_pos rfl, h3, R.bind_ok, hx, ← h4]
theorem consA_run {f : OF} {r : AF} {S S1 S2 : Sta} {o : Opd} {os : List Opd} (h : f S = .ok o S1) (hr : r S1 = .ok os S2) : consA f r S = .ok (o :: os) S2 := by rw [consA_ap, h, R.bind_ok, hr, R.bind_ok]
theorem argV {l gh : List Slot} {nb : Nib} {i : Nat} {t : T} (h : l[i]? = some (.sh t)) : opE (varE i) ⟨l, gh, nb⟩ = .ok (.val t) ⟨l, gh, nb⟩ := by rw [opE_ap, varE_sh _ _ _ _ _ h]; rfl
theorem opE_run {e : EF} {S S1 : Sta} {x : Slot} {t : T} (h : e S = .ok x S1) (hx : x.tree = some t) : opE e S = .ok (.val t) S1 := by rw [opE_ap, h, R.bind_ok, hx]
theorem callF_run {np : Nat} {fn : Fn} {r : AF} {S S1 : Sta} {os : List Opd} {ts : List T} {x : Slot} {n : Nib} (h : r S = .ok os S1) (hv : vals os = some ts) (hl : ts.length = np) (hf : fn ts S1.nb = .ok x n) : callF np fn r S = .ok x { S1 with nb := n } := by
  rw [callF_ap, h, R.bind_ok, hv]
  dsimp only
  rw [if_pos hl, hf]
theorem setF_run {i : Nat} {e : EF} {S S1 : Sta} {x : Slot} (h : e S = .ok x S1) (hi : i < S1.lo.length) : setF i e S = .ok .nx (S1.put i x) := by rw [setF_ap, h, R.bind_ok, if_pos hi]
theorem op2_run {p : T → T → Option Slot} {a b : OF} {S S1 S2 : Sta} {o o' : Opd} {t u : T} {z : Slot} (h : a S = .ok o S1) (h' : b S1 = .ok o' S2) (g : o.get S2 = some t) (g' : o'.get S2 = some u) (hp : p t u = some z) : op2 p a b S = .ok z S2 := by
  rw [op2_ap, h, R.bind_ok, h', R.bind_ok, g, g']
  dsimp only
  rw [hp, res_some]
end TL

end
section
set_option Elab.async false
set_option linter.all false
set_option maxRecDepth 100000
set_option autoImplicit false
/-! TL15: the runner -/
open PySem PySem.Spec PyProof.Rows L2
namespace TL
section
variable (S : Sta) (i j k n np nk : Nat) (a b d : OF) (e e' e'' : EF) (t u : TF) (f g : SF) (r r' : AF) (it : IF) (tg : Tg) (p p' : T → T → Option Slot) (q : T → Option Slot) (ql : List T → Option Slot) (fn : Fn) (x y : T) (z : Slot) (ts us : List T) (o o' : Opd) (os os' : List Opd)
theorem w_okB {α β : Type} (a : α) (S : Sta) (k : α → Sta → R β) : (R.ok a S).bind k = k a S := rfl
theorem w_con : con x S = .ok (.sh x) S := rfl
def kOpE : Slot → Sta → R Opd := fun x S1 => match x.tree with
  | some t => .ok (.val t) S1
  | none => .stuck
theorem w_opE : opE e S = (e S).bind kOpE := rfl
theorem kOpE_sh : kOpE (.sh x) S = .ok (.val x) S := rfl
theorem kOpE_ow : kOpE (.ow x) S = .ok (.val x) S := rfl
theorem w_nilA : nilA S = .ok [] S := rfl
def kCons (r : AF) : Opd → Sta → R (List Opd) := fun o S1 => (r S1).bind fun os S2 => .ok (o :: os) S2
def kCons2 (o : Opd) : List Opd → Sta → R (List Opd) := fun os S2 => .ok (o :: os) S2
theorem w_consA : consA a r S = (a S).bind (kCons r) := rfl
theorem kCons_ap : kCons r o S = (r S).bind (kCons2 o) := rfl
theorem kCons2_ap : kCons2 o os S = .ok (o :: os) S := rfl
def gOp2 (p : T → T → Option Slot) (o o' : Option T) (S : Sta) : R Slot := match o, o' with
  | some t, some u => res (p t u) S
  | _, _ => .stuck
def kOp2 (p : T → T → Option Slot) (b : OF) : Opd → Sta → R Slot := fun o S1 => (b S1).bind fun o' S2 => match o.get S2, o'.get S2 with
  | some t, some u => res (p t u) S2
  | _, _ => .stuck
def kOp2' (p : T → T → Option Slot) (o : Opd) : Opd → Sta → R Slot := fun o' S2 => match o.get S2, o'.get S2 with
  | some t, some u => res (p t u) S2
  | _, _ => .stuck
theorem w_op2 : op2 p a b S = (a S).bind (kOp2 p b) := rfl
theorem kOp2_ap : kOp2 p b o S = (b S).bind (kOp2' p o) := rfl
theorem kOp2'_ap : kOp2' p o o' S = gOp2 p (o.get S) (o'.get S) S := rfl
theorem gOp2_ap : gOp2 p (some x) (some y) S = res (p x y) S := rfl
def gOp1 (q : T → Option Slot) (o : Option T) (S : Sta) : R Slot := match o with
  | some t => res (q t) S
  | _ => .stuck
def kOp1 (q : T → Option Slot) : Opd → Sta → R Slot := fun o S1 => gOp1 q (o.get S1) S1
theorem w_op1 : op1 q a S = (a S).bind (kOp1 q) := rfl
theorem kOp1_ap : kOp1 q o S = gOp1 q (o.get S) S := rfl
theorem gOp1_ap : gOp1 q (some x) S = res (q x) S := rfl
def gOpN (ql : List T → Option Slot) (o : Option (List T)) (S : Sta) : R Slot := match o with
  | some ts => res (ql ts) S
  | _ => .stuck
def kOpN (ql : List T → Option Slot) : List Opd → Sta → R Slot := fun os S1 => gOpN ql (gets S1 os) S1
theorem w_opN : opN ql r S = (r S).bind (kOpN ql) := rfl
theorem kOpN_ap : kOpN ql os S = gOpN ql (gets S os) S := rfl
theorem gOpN_ap : gOpN ql (some ts) S = res (ql ts) S := rfl
theorem w_res : res (some z) S = .ok z S := rfl
def kTst : Slot → Sta → R Bool := fun x S1 => match x with
  | .sh (.bl b) => .ok b S1
  | _ => .stuck
theorem w_tst : tst e S = (e S).bind kTst := rfl
theorem kTst_ap (b : Bool) : kTst (.sh (.bl b)) S = .ok b S := rfl
def gChn2 (p' : T → T → Option Slot) (o o' : Option T) (S : Sta) : R Slot := gOp2 p' o o' S
def kChn3 (p' : T → T → Option Slot) (o' : Opd) : Opd → Sta → R Slot := fun o'' S3 => gOp2 p' (o'.get S3) (o''.get S3) S3
def hChn (p' : T → T → Option Slot) (d : OF) (o' : Opd) (S2 : Sta) : Option Slot → R Slot := fun z => match z with
    | some (.sh (.bl true)) => (d S2).bind (kChn3 p' o')
    | some (.sh (.bl false)) => .ok (.sh (.bl false)) S2
    | _ => .stuck
def gChn (p p' : T → T → Option Slot) (d : OF) (o' : Opd) (x y : Option T) (S2 : Sta) : R Slot := match x, y with
  | some t, some u => hChn p' d o' S2 (p t u)
  | _, _ => .stuck
def kChn (p p' : T → T → Option Slot) (b d : OF) : Opd → Sta → R Slot := fun o S1 => (b S1).bind fun o' S2 => gChn p p' d o' (o.get S2) (o'.get S2) S2
def kChn2 (p p' : T → T → Option Slot) (d : OF) (o : Opd) : Opd → Sta → R Slot := fun o' S2 => gChn p p' d o' (o.get S2) (o'.get S2) S2
theorem w_chn : chn p p' a b d S = (a S).bind (kChn p p' b d) := by
  unfold chn kChn gChn hChn kChn3 gOp2
  rfl
theorem kChn_ap : kChn p p' b d o S = (b S).bind (kChn2 p p' d o) := rfl
theorem kChn2_ap : kChn2 p p' d o o' S = gChn p p' d o' (o.get S) (o'.get S) S := rfl
theorem gChn_ap : gChn p p' d o (some x) (some y) S = hChn p' d o S (p x y) := rfl
theorem hChn_t : hChn p' d o S (some (.sh (.bl true))) = (d S).bind (kChn3 p' o) := rfl
theorem hChn_f : hChn p' d o S (some (.sh (.bl false))) = .ok (.sh (.bl false)) S := rfl
theorem kChn3_ap : kChn3 p' o o' S = gOp2 p' (o.get S) (o'.get S) S := rfl
def kAndT (u : TF) : Bool → Sta → R Bool := fun k S1 => if k = true then u S1 else .ok false S1
def kOrT (u : TF) : Bool → Sta → R Bool := fun k S1 => if k = true then .ok true S1 else u S1
def kNotT : Bool → Sta → R Bool := fun k S1 => .ok (!k) S1
theorem w_andT : andT t u S = (t S).bind (kAndT u) := rfl
theorem kAndT_t : kAndT u true S = u S := rfl
theorem kAndT_f : kAndT u false S = .ok false S := rfl
theorem w_orT : orT t u S = (t S).bind (kOrT u) := rfl
theorem kOrT_t : kOrT u true S = .ok true S := rfl
theorem kOrT_f : kOrT u false S = u S := rfl
theorem w_notT : notT t S = (t S).bind kNotT := rfl
theorem kNotT_ap (b : Bool) : kNotT b S = .ok (!b) S := rfl
def kAndE (e' : EF) : Slot → Sta → R Slot := fun x S1 => match x with
  | .sh (.bl true) => e' S1
  | .sh (.bl false) => .ok (.sh (.bl false)) S1
  | _ => .stuck
def kOrE (e' : EF) : Slot → Sta → R Slot := fun x S1 => match x with
  | .sh (.bl false) => e' S1
  | .sh (.bl true) => .ok (.sh (.bl true)) S1
  | _ => .stuck
def kNotE : Slot → Sta → R Slot := fun x S1 => match x with
  | .sh (.bl k) => .ok (.sh (.bl (!k))) S1
  | _ => .stuck
theorem w_andE : andE e e' S = (e S).bind (kAndE e') := rfl
theorem kAndE_t : kAndE e' (.sh (.bl true)) S = e' S := rfl
theorem kAndE_f : kAndE e' (.sh (.bl false)) S = .ok (.sh (.bl false)) S := rfl
theorem w_orE : orE e e' S = (e S).bind (kOrE e') := rfl
theorem kOrE_t : kOrE e' (.sh (.bl true)) S = .ok (.sh (.bl true)) S := rfl
theorem kOrE_f : kOrE e' (.sh (.bl false)) S = e' S := rfl
theorem w_notE : notE e S = (e S).bind kNotE := rfl
theorem kNotE_ap (b : Bool) : kNotE (.sh (.bl b)) S = .ok (.sh (.bl (!b))) S := rfl
def kIte3 (e e' : EF) : Bool → Sta → R Slot := fun k S1 => if k = true then e S1 else e' S1
theorem w_ite3 : ite3 t e e' S = (t S).bind (kIte3 e e') := rfl
theorem kIte3_t : kIte3 e e' true S = e S := rfl
theorem kIte3_f : kIte3 e e' false S = e' S := rfl
def gLst (o : Option (List T)) (S : Sta) : R Slot := match o with
  | some ts => if ts.length ≤ sz then .ok (.ow (.lst ts)) S else .stuck
  | none => .stuck
def gTup (o : Option (List T)) (S : Sta) : R Slot := match o with
  | some ts => if ts.length ≤ sz then .ok (.sh (.tup ts)) S else .stuck
  | none => .stuck
def kLst : List Opd → Sta → R Slot := fun os S1 => gLst (vals os) S1
def kTup : List Opd → Sta → R Slot := fun os S1 => gTup (vals os) S1
theorem w_lstF : lstF r S = (r S).bind kLst := rfl
theorem kLst_ap : kLst os S = gLst (vals os) S := rfl
theorem w_tupF : tupF r S = (r S).bind kTup := rfl
theorem kTup_ap : kTup os S = gTup (vals os) S := rfl
theorem gLst_ap (h : ts.length ≤ 100000) : gLst (some ts) S = .ok (.ow (.lst ts)) S := if_pos (len_sz h)
theorem gTup_ap (h : ts.length ≤ 100000) : gTup (some ts) S = .ok (.sh (.tup ts)) S := if_pos (len_sz h)
def kSeq (g : SF) : Flow → Sta → R Flow := fun fl S1 => match fl with
  | .nx => g S1
  | .rt x => .ok (.rt x) S1
  | .bk => .ok .bk S1
  | .ct => .ok .ct S1
theorem w_seq : seqF f g S = (f S).bind (kSeq g) := rfl
theorem kSeq_nx : kSeq g .nx S = g S := rfl
theorem kSeq_rt : kSeq g (.rt z) S = .ok (.rt z) S := rfl
theorem kSeq_bk : kSeq g .bk S = .ok .bk S := rfl
theorem kSeq_ct : kSeq g .ct S = .ok .ct S := rfl
theorem w_nxF : nxF S = .ok .nx S := rfl
theorem w_bkF : bkF S = .ok .bk S := rfl
theorem w_ctF : ctF S = .ok .ct S := rfl
def kRet : Slot → Sta → R Flow := fun x S1 => .ok (.rt x) S1
theorem w_retF : retF e S = (e S).bind kRet := rfl
theorem kRet_ap : kRet z S = .ok (.rt z) S := rfl
theorem w_retNF : retNF S = .ok (.rt (.sh .non)) S := rfl
def kDrop : Slot → Sta → R Flow := fun _ S1 => .ok .nx S1
theorem w_dropF : dropF e S = (e S).bind kDrop := rfl
theorem kDrop_ap : kDrop z S = .ok .nx S := rfl
def kIfF (f g : SF) : Bool → Sta → R Flow := fun k S1 => if k = true then f S1 else g S1
theorem w_ifF : ifF t f g S = (t S).bind (kIfF f g) := rfl
theorem kIfF_t : kIfF f g true S = f S := rfl
theorem kIfF_f : kIfF f g false S = g S := rfl
def kSet (i : Nat) : Slot → Sta → R Flow := fun x S1 => if i < S1.lo.length then .ok .nx (S1.put i x) else .stuck
theorem w_setF : setF i e S = (e S).bind (kSet i) := rfl
theorem kSet_ap (l gh : List Slot) (nb : Nib) : kSet i z ⟨l, gh, nb⟩ = if i < l.length then .ok .nx ⟨l.set i z, gh, nb⟩ else .stuck := rfl
def gAsg (o : Option Sta) : R Flow := match o with
  | some S2 => .ok .nx S2
  | none => .stuck
def kAsg (tg : Tg) : Opd → Sta → R Flow := fun o S1 => match o with
  | .val t => gAsg (tg.put t S1)
  | _ => .stuck
theorem w_asgF : asgF tg a S = (a S).bind (kAsg tg) := rfl
theorem kAsg_ap : kAsg tg (.val x) S = gAsg (tg.put x S) := rfl
theorem gAsg_ap : gAsg (some S) = .ok .nx S := rfl
def kFor (tg : Tg) (f : SF) : List T → Sta → R Flow := fun ts S1 => forL tg f ts S1
theorem w_forF : forF it tg f S = (it S).bind (kFor tg f) := rfl
theorem kFor_ap : kFor tg f ts S = forL tg f ts S := rfl
def kForL (tg : Tg) (f : SF) (ts : List T) : Flow → Sta → R Flow := fun fl S2 => match fl with
      | .nx => forL tg f ts S2
      | .ct => forL tg f ts S2
      | .bk => .ok .nx S2
      | .rt x => .ok (.rt x) S2
def gForL (tg : Tg) (f : SF) (ts : List T) (o : Option Sta) : R Flow := match o with
    | none => .stuck
    | some S1 => (f S1).bind (kForL tg f ts)
theorem w_forL : forL tg f (x :: ts) S = gForL tg f ts (tg.put x S) := rfl
theorem w_forL0 : forL tg f [] S = .ok .nx S := rfl
theorem gForL_ap : gForL tg f ts (some S) = (f S).bind (kForL tg f ts) := rfl
theorem kForL_nx : kForL tg f ts .nx S = forL tg f ts S := rfl
theorem kForL_ct : kForL tg f ts .ct S = forL tg f ts S := rfl
theorem kForL_bk : kForL tg f ts .bk S = .ok .nx S := rfl
theorem kForL_rt : kForL tg f ts (.rt z) S = .ok (.rt z) S := rfl
def gFR (S1 : Sta) (o : FR) : R Slot := match o with
    | .ok x n => .ok x { S1 with nb := n }
    | .exc e n => .exc e { S1 with nb := n }
    | .stuck => .stuck
def gCall (np : Nat) (fn : Fn) (o : Option (List T)) (S1 : Sta) : R Slot := match o with
  | some ts => if ts.length = np then gFR S1 (fn ts S1.nb) else .stuck
  | none => .stuck
def kCall (np : Nat) (fn : Fn) : List Opd → Sta → R Slot := fun os S1 => gCall np fn (vals os) S1
theorem w_callF : callF np fn r S = (r S).bind (kCall np fn) := rfl
theorem kCall_ap : kCall np fn os S = gCall np fn (vals os) S := rfl
theorem gCall_ap (l gh : List Slot) (nb : Nib) (h : ts.length = np) : gCall np fn (some ts) ⟨l, gh, nb⟩ = gFR ⟨l, gh, nb⟩ (fn ts nb) := if_pos h
theorem gFR_ok (l gh : List Slot) (nb nb' : Nib) : gFR ⟨l, gh, nb⟩ (.ok z nb') = .ok z ⟨l, gh, nb'⟩ := rfl
theorem gFR_exc (l gh : List Slot) (nb nb' : Nib) (ex : Ex) : gFR ⟨l, gh, nb⟩ (.exc ex nb') = .exc ex ⟨l, gh, nb'⟩ := rfl
def gSeqI (o : Opd) (S1 : Sta) : R (List T) := match o with
  | .val (.lst ts) => .ok ts S1
  | .val (.tup ts) => .ok ts S1
  | _ => .stuck
def kSeqI : Opd → Sta → R (List T) := gSeqI
theorem w_seqI : seqI a S = (a S).bind kSeqI := rfl
theorem kSeqI_l : kSeqI (.val (.lst ts)) S = .ok ts S := rfl
theorem kSeqI_t : kSeqI (.val (.tup ts)) S = .ok ts S := rfl
def kEnumI : Opd → Sta → R (List T) := fun o S1 => match o with
  | .val (.lst ts) => .ok (enumT 0 ts) S1
  | .val (.tup ts) => .ok (enumT 0 ts) S1
  | _ => .stuck
theorem w_enumI : enumI a S = (a S).bind kEnumI := rfl
theorem kEnumI_l : kEnumI (.val (.lst ts)) S = .ok (enumT 0 ts) S := rfl
theorem kEnumI_t : kEnumI (.val (.tup ts)) S = .ok (enumT 0 ts) S := rfl
def kZip (b : OF) : Opd → Sta → R (List T) := fun o S1 => (b S1).bind fun o' S2 => match o, o' with
  | .val (.lst ts), .val (.lst us) => .ok (zipT ts us) S2
  | .val (.tup ts), .val (.tup us) => .ok (zipT ts us) S2
  | _, _ => .stuck
def kZip2 (o : Opd) : Opd → Sta → R (List T) := fun o' S2 => match o, o' with
  | .val (.lst ts), .val (.lst us) => .ok (zipT ts us) S2
  | .val (.tup ts), .val (.tup us) => .ok (zipT ts us) S2
  | _, _ => .stuck
theorem w_zipI : zipI a b S = (a S).bind (kZip b) := rfl
theorem kZip_ap : kZip b o S = (b S).bind (kZip2 o) := rfl
theorem kZip2_l : kZip2 (.val (.lst ts)) (.val (.lst us)) S = .ok (zipT ts us) S := rfl
theorem kZip2_t : kZip2 (.val (.tup ts)) (.val (.tup us)) S = .ok (zipT ts us) S := rfl
def kRng : Opd → Sta → R (List T) := fun o S1 => match o with
  | .val (.int n) => if -(2 ^ 62) ≤ n ∧ n < 2 ^ 62 then .ok (rgT 0 n) S1 else .stuck
  | _ => .stuck
theorem w_rngI1 : rngI1 a S = (a S).bind kRng := rfl
theorem kRng_n (h : n ≤ 1000000) : kRng (.val (.int (n : Int))) S = .ok (tn (List.range n)) S := by
  unfold kRng
  dsimp only
  rw [if_pos ⟨by omega, by omega⟩, rg_tn]
theorem w_yesT : yesT S = .ok true S := rfl
end
section
variable (l : List Slot) (gh : List Slot) (nb : Nib) (i : Nat) (t : T)
def gVar (i : Nat) (s : Option Slot) (S : Sta) : R Opd := match s with
  | some (.sh t) => .ok (.val t) S
  | some (.ow _) => .ok (.pl i) S
  | _ => .stuck
def gVarE (i : Nat) (s : Option Slot) (S : Sta) : R Slot := match s with
  | some (.sh t) => .ok (.sh t) S
  | some (.ow t) => .ok (.sh t) (S.put i (.sh t))
  | _ => .stuck
def gVarR (i : Nat) (s : Option Slot) (S : Sta) : R Slot := match s with
  | some (.sh t) => .ok (.sh t) S
  | some (.ow t) => .ok (.ow t) (S.put i .no)
  | _ => .stuck
theorem w_var : var i ⟨l, gh, nb⟩ = gVar i l[i]? ⟨l, gh, nb⟩ := rfl
theorem w_varE : varE i ⟨l, gh, nb⟩ = gVarE i l[i]? ⟨l, gh, nb⟩ := rfl
theorem w_varR : varR i ⟨l, gh, nb⟩ = gVarR i l[i]? ⟨l, gh, nb⟩ := rfl
theorem gVar_sh (S : Sta) : gVar i (some (.sh t)) S = .ok (.val t) S := rfl
theorem gVar_ow (S : Sta) : gVar i (some (.ow t)) S = .ok (.pl i) S := rfl
theorem gVarE_sh (S : Sta) : gVarE i (some (.sh t)) S = .ok (.sh t) S := rfl
theorem gVarE_ow : gVarE i (some (.ow t)) ⟨l, gh, nb⟩ = .ok (.sh t) ⟨l.set i (.sh t), gh, nb⟩ := rfl
theorem gVarR_sh (S : Sta) : gVarR i (some (.sh t)) S = .ok (.sh t) S := rfl
theorem gVarR_ow : gVarR i (some (.ow t)) ⟨l, gh, nb⟩ = .ok (.ow t) ⟨l.set i .no, gh, nb⟩ := rfl
theorem get_pl : (Opd.pl i).get ⟨l, gh, nb⟩ = (l[i]?).bind Slot.tree := rfl
theorem get_val (S : Sta) : (Opd.val t).get S = some t := rfl
theorem tree_sh : (some (Slot.sh t)).bind Slot.tree = some t := rfl
theorem tree_ow : (some (Slot.ow t)).bind Slot.tree = some t := rfl
def gMeth (i : Nat) (p : List T → List T → Option (List T × T)) (us : Option (List T)) (s : Option Slot) (S1 : Sta) : R Slot := match us, s with
    | some us, some (.ow (.lst ts)) => match p ts us with
      | some (ts', z) => .ok (.sh z) (S1.put i (.ow (.lst ts')))
      | none => .stuck
    | _, _ => .stuck
def kMeth (i : Nat) (p : List T → List T → Option (List T × T)) : List Opd → Sta → R Slot := fun os S1 => gMeth i p (vals os) S1.lo[i]? S1
def gMeth0 (i : Nat) (p : List T → List T → Option (List T × T)) (fa : AF) (S : Sta) (s : Option Slot) : R Slot := match s with
  | some (.ow (.lst _)) => (fa S).bind (kMeth i p)
  | _ => .stuck
theorem w_methF (p : List T → List T → Option (List T × T)) (fa : AF) : methF i p fa ⟨l, gh, nb⟩ = gMeth0 i p fa ⟨l, gh, nb⟩ l[i]? := by
  rw [methF_ap]
  dsimp only
  generalize l[i]? = s
  match s with
  | none => rfl
  | some .no => rfl
  | some .fu => rfl
  | some (.sh _) => rfl
  | some (.ow (.lst _)) => rfl
  | some (.ow .non) => rfl
  | some (.ow (.bl _)) => rfl
  | some (.ow (.int _)) => rfl
  | some (.ow (.str _)) => rfl
  | some (.ow (.tup _)) => rfl
  | some (.ow (.wtp _)) => rfl
  | some (.ow (.dic _)) => rfl
  | some (.ow (.obj _ _)) => rfl
  | some (.ow (.exo _ _)) => rfl
  | some (.ow (.fn _)) => rfl
  | some (.ow .nib) => rfl
theorem gMeth0_ap (p : List T → List T → Option (List T × T)) (fa : AF) (ts : List T) : gMeth0 i p fa ⟨l, gh, nb⟩ (some (.ow (.lst ts))) = (fa ⟨l, gh, nb⟩).bind (kMeth i p) := rfl
theorem kMeth_ap (p : List T → List T → Option (List T × T)) (os : List Opd) : kMeth i p os ⟨l, gh, nb⟩ = gMeth i p (vals os) l[i]? ⟨l, gh, nb⟩ := rfl
def hMeth (i : Nat) (S1 : Sta) (o : Option (List T × T)) : R Slot := match o with
      | some (ts', z) => .ok (.sh z) (S1.put i (.ow (.lst ts')))
      | none => .stuck
theorem gMeth_ap (p : List T → List T → Option (List T × T)) (us ts : List T) (S : Sta) : gMeth i p (some us) (some (.ow (.lst ts))) S = hMeth i S (p ts us) := rfl
theorem hMeth_ap (ts : List T) (z : T) : hMeth i ⟨l, gh, nb⟩ (some (ts, z)) = .ok (.sh z) ⟨l.set i (.ow (.lst ts)), gh, nb⟩ := rfl
def gSetI (i : Nat) (v x : Opd) (s : Option Slot) (S2 : Sta) : R Flow := match v, x, s with
    | .val t, .val (.int k), some (.ow (.lst ts)) => match ixN ts.length k with
      | some j => .ok .nx (S2.put i (.ow (.lst (ts.set j t))))
      | none => .stuck
    | _, _, _ => .stuck
def kSetI2 (i : Nat) (v : Opd) : Opd → Sta → R Flow := fun o' S2 => gSetI i v o' S2.lo[i]? S2
def gSetI0 (i : Nat) (fi : OF) (v : Opd) (s : Option Slot) (S1 : Sta) : R Flow := match s with
  | some (.ow (.lst _)) => (fi S1).bind (kSetI2 i v)
  | _ => .stuck
def kSetI (i : Nat) (fi : OF) : Opd → Sta → R Flow := fun o S1 => gSetI0 i fi o S1.lo[i]? S1
theorem w_setIF (fv fi : OF) (S : Sta) : setIF i fv fi S = (fv S).bind (kSetI i fi) := by
  unfold setIF kSetI gSetI0 kSetI2 gSetI
  rfl
theorem kSetI_ap (fi : OF) (o : Opd) : kSetI i fi o ⟨l, gh, nb⟩ = gSetI0 i fi o l[i]? ⟨l, gh, nb⟩ := rfl
theorem gSetI0_ap (fi : OF) (o : Opd) (ts : List T) (S : Sta) : gSetI0 i fi o (some (.ow (.lst ts))) S = (fi S).bind (kSetI2 i o) := rfl
theorem kSetI2_ap (o o' : Opd) : kSetI2 i o o' ⟨l, gh, nb⟩ = gSetI i o o' l[i]? ⟨l, gh, nb⟩ := rfl
def hSetI (i : Nat) (t : T) (ts : List T) (S2 : Sta) (o : Option Nat) : R Flow := match o with
      | some j => .ok .nx (S2.put i (.ow (.lst (ts.set j t))))
      | none => .stuck
theorem gSetI_ap (k : Int) (ts : List T) (S : Sta) : gSetI i (.val t) (.val (.int k)) (some (.ow (.lst ts))) S = hSetI i t ts S (ixN ts.length k) := rfl
theorem hSetI_ap (ts : List T) (j : Nat) : hSetI i t ts ⟨l, gh, nb⟩ (some j) = .ok .nx ⟨l.set i (.ow (.lst (ts.set j t))), gh, nb⟩ := rfl
def gPar2 (i j : Nat) (y : Slot) (o : Option (Slot × Sta)) : R Flow := match o with
    | some (x', S3) => if i < S3.lo.length ∧ j < S3.lo.length then .ok .nx ((S3.put j y).put i x') else .stuck
    | none => .stuck
def gParX (e : Ex) (o : Option (Slot × Sta)) : R Flow := match o with
    | some (_, S3) => .exc e S3
    | none => .stuck
def gPar (i j : Nat) (r : R Slot) : R Flow := match r with
  | .ok y S2 => gPar2 i j y S2.popG
  | .exc e S2 => gParX e S2.popG
  | .stuck => .stuck
def kPar (i j : Nat) (g : EF) : Slot → Sta → R Flow := fun x S1 => gPar i j (g (S1.push x))
theorem w_parF (j : Nat) (f g : EF) (S : Sta) : parF i j f g S = (f S).bind (kPar i j g) := by
  unfold parF kPar gPar gPar2 gParX
  rfl
theorem kPar_ap (j : Nat) (g : EF) (x : Slot) : kPar i j g x ⟨l, gh, nb⟩ = gPar i j (g ⟨l, gh ++ [x], nb⟩) := rfl
theorem gPar_ap (j : Nat) (y x : Slot) : gPar i j (.ok y ⟨l, gh ++ [x], nb⟩) = if i < l.length ∧ j < l.length then .ok .nx ⟨(l.set j y).set i x, gh, nb⟩ else .stuck := by
  show gPar2 i j y (Sta.popG ⟨l, gh ++ [x], nb⟩) = _
  rw [popG_snoc]; rfl
theorem gPar_exc (j : Nat) (e : Ex) (x : Slot) : gPar i j (.exc e ⟨l, gh ++ [x], nb⟩) = .exc e ⟨l, gh, nb⟩ := by
  show gParX e (Sta.popG ⟨l, gh ++ [x], nb⟩) = _
  rw [popG_snoc]; rfl
theorem gPar_exc1 (j : Nat) (e : Ex) (x : Slot) : gPar i j (.exc e ⟨l, [x], nb⟩) = .exc e ⟨l, [], nb⟩ := gPar_exc l [] nb i j e x
theorem gPar_one (j : Nat) (y x : Slot) : gPar i j (.ok y ⟨l, [x], nb⟩) = if i < l.length ∧ j < l.length then .ok .nx ⟨(l.set j y).set i x, [], nb⟩ else .stuck := gPar_ap l [] nb i j y x
theorem nil_app (x : Slot) : ([] : List Slot) ++ [x] = [x] := rfl
end
end TL

end
section
set_option Elab.async false
set_option linter.all false
set_option maxRecDepth 100000
set_option autoImplicit false
set_option maxHeartbeats 2000000
/-! TL16: raise, try, errors as values -/
open PySem PySem.Spec PyProof.Rows L2
namespace TL
theorem exv_ok {P : Program} {w : World} {H : Hp} {h : Heap} {a C d : Addr} {oe : Obj} {vs : Array Value} (e : h.get? a = some oe) (z : Zc (.ref C) (some d) oe) (hd : oe.data = .fields vs) : ObjOk P w H h a (EXV C d a) :=
  ⟨⟨oe, vs, e, z, hd⟩, ⟨oe, e⟩, fun _ _ ⟨o, v, q, r⟩ k => ⟨o, v, k o q, r⟩⟩
section
variable {X : Cx} {pins : List (Addr × Obj)} {σ : L2.St} {H : Hp} {s : Shared}
/-- a standing object is tracked from now on -/
theorem inv_track {a : Addr} {o : HO} (I : Inv X pins σ H s) (na : H a = none) (n0 : X.s_0.heap.get? a = none) (nL : X.env.locals ≠ a) (nC : ∀ y c, X.env.cells.lookup y = some c → c ≠ a) (nP : ∀ p ∈ X.pn ++ pins, p.1 ≠ a)
    (new : ObjOk X.prog X.w (upd H a o) s.heap a o) : Inv X pins σ (upd H a o) s := by
  have ne0 : ∀ b u, X.s_0.heap.get? b = some u → b ≠ a := fun b u e z => by
    rw [z, n0] at e
    cases e
  refine ⟨I.ok, I.os, I.bare, ⟨I.base.keep, I.base.slot, fun b u e n hq => ?_, I.base.there, fun b xs e => ?_, fun b u xs e => ?_, fun b ps e => ?_⟩, I.loc, I.cell, ?_, fun x c e => ?_, fun p hp => ?_, HOk.laidN I.hok (fun _ _ q => q) na new, I.len⟩
  · rw [upd_ne (ne0 b u e)]
    exact I.base.free b u e n hq
  · have q := I.base.tups b xs e
    rw [upd_ne (ne_of_none q na)]
    exact q
  · have q := I.base.frzs b u xs e
    rw [upd_ne (ne_of_none q na)]
    exact q
  · obtain ⟨m, q⟩ := I.base.tbls b ps e
    exact ⟨m, by rw [upd_ne (ne_of_none q na)]; exact q⟩
  · rw [upd_ne nL]
    exact I.free
  · rw [upd_ne (nC x c e)]
    exact I.freeC x c e
  · obtain ⟨e, n, ne, nf, d⟩ := I.pin p hp
    exact ⟨e, by rw [upd_ne (nP p hp)]; exact n, ne, nf, d⟩
def wAsT (K : PySem.W.Frag) (c : Value) (i : Nat) (ts : TS) (Wout : WX) (D : Ends) : WX := fun cls d σ H =>
  ∃ b, PySem.W.exmOne K cls c = some b ∧ (b = true → ∃ C dd, cls = .ref C ∧ d = some dd ∧ ∀ a, H a = none → ts { nx := fun σ' H' => D.nx (σ'.set i none) H', rt := D.rt, bk := fun σ' H' => D.bk (σ'.set i none) H', ct := fun σ' H' => D.ct (σ'.set i none) H' } (σ.set i (some (.ref a))) (upd H a (EXV C dd a))) ∧
    (b = false → Wout cls d σ H)
variable {x n : Str} {c : Value} {i : Nat} {body suite : List Stmt} {b₀ : Stmt} {np pos pos' : Pos} {tb : WX → TS} {ts : TS} {Wout : WX}
/-- try: .. except x as n: suite, the error tracked from the suite on -/
theorem ps_try_asT (hs : X.stack = X.env :: X.outer) (hf : X.env.frame = some X.env.locals) (hex : X.ex = []) (hN : X.N.Nodup) (hi : X.N[i]? = some n) (hln : X.env.kindOf n = some .local) (hc : Names X x c) (tk : Takes X Wout)
    (hb : ∀ (W : WX) (pn : List (Addr × Obj)) (xe : Value → Shared → Prop), Takes (X.tr pn xe) W → PassesOwn (model X.prog X.w) X.A X.env xe → PSs (X.tr pn xe) body (tb W))
    (hsu : ∀ (a : Addr) (pn : List (Addr × Obj)), PSs (X.suite a pn) (b₀ :: suite) ts) :
    PS X (.Try body [.ExceptHandler (some (.Name x np)) (some n) (b₀ :: suite) pos'] [] [] pos) (fun D σ H => tb (wAsT X.K c i ts Wout D) D σ H) := by
  refine ⟨fun pins s σ H D I h => ?_⟩
  have ok := I.ok
  have hfr : X.A.frames = some (X.env :: X.outer) := by rw [ok.frames, hs]
  have hloc : Loc X.env.scope n := .inl hln
  refine wpAny_Try_except ?_
  refine wpAny_mono ((hb (wAsT X.K c i ts Wout D) (X.pn ++ pins) (fun e s₁ => wpAny (model X.prog X.w) X.A (noteFrame e X.env) (fun _ s₂ => wpAny (model X.prog X.w) X.A (setFlight e none) (fun _ s₃ =>
    wpAny (model X.prog X.w) X.A (handleBy e X.env [.ExceptHandler (some (.Name x np)) (some n) (b₀ :: suite) pos']) (SP X pins D) X.xe s₃) X.xe s₂) X.xe s₁) (fun u s' xx => ?_) PassesOwn.looking).run [] s σ H D (I.toTry _) h) (fun f s1 hsp => ?_) (fun e s1 he => he)
  · -- the catch
    obtain ⟨a, B, sI, pins', σ', H', cls, d, rfl, J', nb, up, sky, na, os, ag, b, hb1, hyes, hno⟩ := xx
    have J : Inv X pins σ' H' sI := J'.ofTry ok
    have sky' : Sky B (X.env :: X.outer) a (Zc cls d) X.env.locals s'.heap := by rw [← hs]; exact sky
    show wpAny (model X.prog X.w) X.A (noteFrame (.ref a) X.env) _ _ _
    refine Sky.land Zc.steady hfr hf sky' fun h3 fl3 up3 => ?_
    have J3 : Inv X pins σ' H' { s' with heap := h3 } := J.landed nb fl3.1 (up.trans up3) os ag
    obtain ⟨oe3, vs3, he3, hz3, hd3⟩ := fl3.there
    have notFr : ∀ {h : Heap} {o : Obj} {vs : Array Value}, h.FunFrames B (X.env :: X.outer) → h.get? a = some o → o.data = .fields vs → a ∉ frs (X.env :: X.outer) := fun {h o vs} ff e dd hm => by
      obtain ⟨_, o', e', hnf⟩ := ff.mem hm
      rw [e] at e'; cases e'
      exact hnf _ dd
    have nfr := notFr fl3.2.2.1 he3 hd3
    have nL : a ≠ X.env.locals := fun z => nfr (List.mem_filterMap.mpr ⟨X.env, List.mem_cons_self, by rw [hf, z]⟩)
    have nF : a ∉ X.fs := fun hm => by
      obtain ⟨e, he, q⟩ := List.mem_filterMap.mp hm
      exact nfr (List.mem_filterMap.mpr ⟨e, List.mem_cons_of_mem _ he, q⟩)
    have S3 := J3.suite he3 hd3 na nL nF
    have nfr' : a ∉ frs X.stack := by rw [hs]; exact nfr
    have nI : sI.heap.get? a = none := by
      cases e : sI.heap.get? a with
      | none => rfl
      | some o =>
        have := nb a o e nfr'
        rw [fl3.2.1] at this
        cases this
    have n0 : X.s_0.heap.get? a = none := by
      cases e : X.s_0.heap.get? a with
      | none => rfl
      | some o =>
        obtain ⟨o', q⟩ := J.base.there a o e (by rw [hex]; exact fun z => nomatch z)
        rw [nI] at q
        cases q
    refine wpAny_handleBy_cons (codeAny_handlers_test ?_) (by intro q; cases q)
    have LT : PySem.W.Looks (model X.prog X.w) h3 (typeOf (.ref a)) cls := fun A Q E s k q => wpAny_typeOf_ref (k _ _ he3) (by rw [hz3.1]; exact q)
    have LM := PySem.W.exm_one (M := model X.prog X.w) (J3.kIn) LT hb1
    have test : ∀ {Q : Value → Shared → Prop} {E : Value → Shared → Prop}, Q c { s' with heap := h3 } → wpAny (model X.prog X.w) (X.A.mark (some (.ref a))) (eval (.Name x np) X.env) Q E { s' with heap := h3 } := fun {Q E} q => by
      obtain ⟨hg, hdbg, hm | ⟨hm, hv, hnn⟩⟩ := hc
      · exact ld_glob (X := X.suite a ((a, oe3) :: (X.pn ++ pins))) S3 hg hm q hdbg
      · exact ld_blt (X := X.suite a ((a, oe3) :: (X.pn ++ pins))) S3 hg hm hv q hnn hdbg
    refine test (LM.here ?_)
    cases b with
    | true =>
      refine codeAny_handlers_suite_as ?_
      refine HandSPX.lands_againZ fl3 fun h4 fl4 up4 => ?_
      have J4 : Inv X pins σ' H' { s' with heap := h4 } := J.landed nb fl4.1 ((up.trans up3).trans up4) os ag
      obtain ⟨oe4, vs4, he4, hz4, hd4⟩ := fl4.there
      obtain ⟨C, dd, ec, ed, hyes2⟩ := hyes rfl
      subst ec
      subst ed
      have T4 : Inv X pins σ' (upd H' a (EXV C dd a)) { s' with heap := h4 } := inv_track J4 na n0 (Ne.symm nL) (fun y c0 e z => by
          obtain ⟨v, o, ho, hdv⟩ := J4.cell y c0 e
          rw [z] at ho
          rw [show ({ s' with heap := h4 } : Shared).heap.get? a = h4.get? a from rfl, he4] at ho
          cases ho
          rw [hd4] at hdv
          cases hdv) (fun p hp z => by
          obtain ⟨e, _⟩ := J.pin p hp
          rw [z, nI] at e
          cases e) (exv_ok he4 hz4 hd4)
      have S4 : Inv (X.suite a (X.pn ++ pins)) [] σ' (upd H' a (EXV C dd a)) { s' with heap := h4 } :=
        ⟨T4.ok.suite _ _, T4.os, T4.bare, T4.base, T4.loc, T4.cell, T4.free, T4.freeC, fun p hp => T4.pin p (by rw [List.append_nil] at hp; exact hp), T4.hok, T4.len⟩
      refine store_ok (X := X.suite a (X.pn ++ pins)) (v := .ref a) S4 hN hi hloc rfl (fun s5 S5 => ?_) (.inr hln)
      refine wpAny_mono ((hsu a (X.pn ++ pins)).run [] s5 _ _ _ S5 (hyes2 a na)) (fun f s6 hsp => ?_) (fun _ _ z => False.elim z)
      have end_ : ∀ {σ6 : L2.St} {H6 : Hp} {Q : Shared → Prop}, Inv (X.suite a (X.pn ++ pins)) [] σ6 H6 s6 → (∀ s7, Inv X pins (σ6.set i none) H6 s7 → Q s7) →
          wpAny (model X.prog X.w) X.A (do bindName X.env n .none; unbindBehindTheSuite X.env n pos') (fun _ s7 => Q s7) X.xe s6 := fun {σ6 H6 Q} S6 hq =>
            gone_ok (X := X) (pins := pins) ⟨ok, S6.os, S6.bare, S6.base, S6.loc, S6.cell, S6.free, S6.freeC, fun p hp => S6.pin p (List.mem_append_left _ hp), S6.hok, S6.len⟩ hN hi hln hq
      cases f with
      | next =>
        obtain ⟨σ6, H6, S6, q6⟩ := hsp
        exact end_ S6 fun s7 J7 => ⟨_, _, J7, q6⟩
      | brk =>
        obtain ⟨σ6, H6, S6, q6⟩ := hsp
        exact end_ S6 fun s7 J7 => ⟨_, _, J7, q6⟩
      | cont =>
        obtain ⟨σ6, H6, S6, q6⟩ := hsp
        exact end_ S6 fun s7 J7 => ⟨_, _, J7, q6⟩
      | ret u =>
        obtain ⟨v6, σ6, H6, S6, r6, q6⟩ := hsp
        exact end_ S6 fun s7 J7 => ⟨_, _, _, J7, r6, q6⟩
    | false =>
      show wpAny _ X.A (handleBy (.ref a) X.env []) _ _ _
      refine wpAny_handleBy_nil ?_
      obtain ⟨k1, k2, k3, oe, vs, T, oT, ts', he, hz, hd, h1, hr⟩ := id fl3
      unfold PySem.passOn
      refine wpAny_bind (wpAny_field he hd h1 ?_)
      rw [if_neg (show ¬ ((Value.ref T == Value.none) = true) from by simp)]
      have fin : wpAny (model X.prog X.w) X.A (setFlight (.ref a) X.env.frame) (fun _ s4 => wpAny (model X.prog X.w) X.A (throw (.ref a) : Sem PySem.Flow) (SP X pins D) X.xe s4) X.xe { s' with heap := h3 } := by
        rw [hf]
        refine HandSPX.setFlight_upZ fl3 fun h4 hh4 up4 => wpAny_throw (tk _ _ ?_)
        exact ⟨a, B, sI, pins, σ', H', cls, d, rfl, J, nb, (up.trans up3).trans up4, .inr (.inr (by rw [hs]; exact hh4)), na, os, ag, hno rfl⟩
      first
        | exact wpAny_bind (wpAny_pure (wpAny_bind fin))
        | exact wpAny_bind fin
  · cases f with
    | next =>
      obtain ⟨σ', H', J', q⟩ := hsp
      exact wpAny_execs_nil ⟨σ', H', J'.ofTry ok, q⟩
    | brk =>
      obtain ⟨σ', H', J', q⟩ := hsp
      exact ⟨σ', H', J'.ofTry ok, q⟩
    | cont =>
      obtain ⟨σ', H', J', q⟩ := hsp
      exact ⟨σ', H', J'.ofTry ok, q⟩
    | ret u =>
      obtain ⟨v, σ', H', J', r, q⟩ := hsp
      exact ⟨v, σ', H', J'.ofTry ok, r, q⟩
end
end TL

end
section
set_option Elab.async false
set_option linter.all false
set_option maxRecDepth 100000
set_option autoImplicit false
set_option maxHeartbeats 2000000
/-! TL16b: readings of raise, try; isinstance and fields of errors -/
open PySem PySem.Spec PyProof.Rows L2
namespace TL
section
variable {c : Cfg} {F F' H H' : Hp} {S : Sta} {σ τ : List (Option V)} {i : Nat} {o : Option V}
/-- what is new in the heap alone -/
theorem AbsX.st (A : AbsX c F S σ τ H) (st : Same H H') : AbsX c F S σ τ H' := by
  obtain ⟨cc, n1, n2⟩ := A.a.nib
  refine ⟨⟨A.a.fh.trans st, A.a.fn, ⟨cc, st _ _ n1, n2⟩, fun a w q n0 n => st _ _ (A.a.keep a w q n0 n), A.a.fre, A.a.ext.st st, A.a.len, fun i s q h1 h2 => ?_, A.a.ds⟩, A.l⟩
  have h := A.a.sl i s q h1 h2
  cases s with
  | no => trivial
  | fu => exact h
  | sh t => exact h
  | ow t1 =>
    obtain ⟨a, e, ⟨w, hw, mk⟩, r⟩ := h
    exact ⟨a, e, ⟨w, st _ _ hw, mk⟩, r⟩
theorem AbsX.clear (A : AbsX c F S σ τ H) : AbsX c F (S.put i .no) (σ.set i o) τ H := by
  have l : (S.put i .no).lo.length = (σ.set i o).length := by show (S.lo.set i .no).length = _; rw [List.length_set, List.length_set, A.l]
  refine ⟨A.a.mix rfl ?_ fun j s q h1 h2 => ?_, l⟩
  · show ((S.put i .no).lo ++ S.gh).length = _
    rw [List.length_append, List.length_append, l, A.gl]
  · have h1 : (S.lo.set i .no ++ S.gh)[j]? = some s := h1
    by_cases hj : j < S.lo.length
    · rw [List.getElem?_append_left (by rw [List.length_set]; exact hj)] at h1
      rw [List.getElem?_append_left (by rw [List.length_set, ← A.l]; exact hj)] at h2
      by_cases e : i = j
      · subst e
        rw [List.getElem?_set_self hj] at h1
        cases h1
        exact .inl ⟨(fun t z => nomatch z), trivial⟩
      · rw [List.getElem?_set_ne e] at h1 h2
        refine .inr ⟨?_, ?_⟩
        · show (S.lo ++ S.gh)[j]? = _
          rw [List.getElem?_append_left hj]; exact h1
        · rw [List.getElem?_append_left (by rw [← A.l]; exact hj)]; exact h2
    · rw [List.getElem?_append_right (by rw [List.length_set]; omega), List.length_set] at h1
      rw [List.getElem?_append_right (by rw [List.length_set, ← A.l]; omega), List.length_set] at h2
      refine .inr ⟨?_, ?_⟩
      · show (S.lo ++ S.gh)[j]? = _
        rw [List.getElem?_append_right (by omega)]; exact h1
      · rw [List.getElem?_append_right (by rw [← A.l]; omega)]; exact h2
theorem AbsX.cfg {c' : Cfg} (A : AbsX c F S σ τ H) (hg : c'.g = c.g) (hb : c'.B = c.B) : AbsX c' F S σ τ H := by
  refine ⟨?_, A.l⟩
  rw [hg, hb]
  exact A.a
/-- an error caught: its dict and itself are frozen -/
theorem AbsX.caught {e : Ex} {C d a : Addr} (A : AbsX c F S σ τ H) (r : ExRel c.g c.B.H F H e (.ref C) (some d)) (na : H a = none) : ∃ F', Same F F' ∧ AbsX c F' (S.push (.sh (.exo e.cls e.fs))) σ (τ ++ [some (.ref a)]) (upd H a (EXV C d a)) := by
  obtain ⟨h1, d', fs, h2, h3, h4, h5⟩ := r
  cases h2
  have hC : C = c.g.ca e.cls := by cases h1; rfl
  subst hC
  have grown : ∃ F1, Same F F1 ∧ F1 d = some (.xd fs) ∧ AbsX c F1 S σ τ H := by
    cases hd : F d with
    | some u =>
      have := A.a.fh _ _ hd
      rw [h4] at this
      cases this
      exact ⟨F, Same.refl F, hd, A⟩
    | none =>
      have s1 : Same F (upd F d (.xd fs)) := fun b w q => by rw [upd_ne (ne_of_none q hd)]; exact q
      have s2 : Same (upd F d (.xd fs)) H := fun b w q => by
        by_cases hb : b = d
        · subst hb; rw [upd_same] at q; cases q; exact h4
        · rw [upd_ne hb] at q; exact A.a.fh b w q
      obtain ⟨cc, n1, n2⟩ := A.a.nib
      have nd : d ≠ c.g.nb := fun z => by
        rw [← z, h4] at n1
        cases n1
      refine ⟨_, s1, upd_same, ?_, A.l⟩
      refine A.a.grow s1 s2 (by rw [upd_ne (Ne.symm nd)]; exact A.a.fn) (nt_upd A.a.ext.nt fun _ z => nomatch z) (fun b q1 q2 => ?_) fun i t b g1 g2 => ?_
      · by_cases hb : b = d
        · subst hb; exact h3
        · rw [upd_ne hb] at q2; exact absurd q1 q2
      · obtain ⟨b', e', ⟨w, hw, mk⟩, f, _⟩ := A.a.sl i _ _ g1 g2
        cases e'
        rw [upd_ne (fun z => by rw [z, h4] at hw; cases hw; cases mk)]
        exact f
  obtain ⟨F1, s1, hd, A1⟩ := grown
  obtain ⟨F2, s2, A2⟩ := A1.a.newT (u := EXV (c.g.ca e.cls) d a) (t := .exo e.cls e.fs) (fun F' s q => .exo q (s _ _ hd) ((h5.mono s1).mono s)) (fun _ z => by unfold EXV at z; cases z) na
  exact ⟨F2, s1.trans s2, .mk' A2 A1.l⟩
end
/-- try: b except .. as (slot i): h -/
def tryF (ctch : Nat → Option Bool) (i : Nat) (b h : SF) : SF := fun S => match b S with
  | .ok fl S1 => .ok fl S1
  | .exc e S1 => match ctch e.cls with
    | some true => if i < S1.lo.length then match h (S1.put i (.sh (.exo e.cls e.fs))) with
        | .ok fl S2 => .ok fl (S2.put i .no)
        | _ => .stuck
      else .stuck
    | some false => .exc e S1
    | none => .stuck
  | .stuck => .stuck
section
variable {X : Cx} {c : Cfg} {x n : Str} {cv : Value} {i : Nat} {body suite : List Stmt} {b₀ : Stmt} {np pos pos' : Pos} {b h : SF} {ctch : Nat → Option Bool}
def Cfg.tr (c : Cfg) (W : WX) : Cfg := { c with E := fun σ cls d H => W cls d σ H }
theorem ds_try (hs : X.stack = X.env :: X.outer) (hf : X.env.frame = some X.env.locals) (hex : X.ex = []) (hN : X.N.Nodup) (hi : X.N[i]? = some n) (hln : X.env.kindOf n = some .local) (hc : Names X x cv)
    (hcat : ∀ k b, ctch k = some b → PySem.W.exmOne X.K (.ref (c.g.ca k)) cv = some b) (tk : Takes X (fun cls d σ H => c.E σ cls d H))
    (hb : ∀ (W : WX) (pn : List (Addr × Obj)) (xe : Value → Shared → Prop), Takes (X.tr pn xe) W → PassesOwn (model X.prog X.w) X.A X.env xe → PSs (X.tr pn xe) body (rdS (c.tr W) b))
    (hsu : ∀ (a : Addr) (pn : List (Addr × Obj)), PSs (X.suite a pn) (b₀ :: suite) (rdS c.c0 h)) :
    PS X (.Try body [.ExceptHandler (some (.Name x np)) (some n) (b₀ :: suite) pos'] [] [] pos) (rdS c (tryF ctch i b h)) := by
  refine ps_imp (ps_try_asT (tb := fun W => rdS (c.tr W) b) (ts := rdS c.c0 h) (Wout := fun cls d σ H => c.E σ cls d H) hs hf hex hN hi hln hc tk hb hsu) fun D σ H q => ?_
  obtain ⟨F, S, A, q⟩ := q
  refine ⟨F, S, A.cfg rfl rfl, ?_⟩
  unfold tryF at q
  cases e : b S with
  | ok fl S1 =>
    rw [e] at q
    intro H' F' s
    have q := q H' F' s
    cases fl with
    | nx => exact fun σ' A' => q σ' (A'.cfg rfl rfl)
    | rt x => exact fun v σ' A' => q v σ' (A'.cfg rfl rfl)
    | bk => exact fun σ' A' => q σ' (A'.cfg rfl rfl)
    | ct => exact fun σ' A' => q σ' (A'.cfg rfl rfl)
  | stuck => rw [e] at q; exact q.elim
  | exc ex S1 =>
    rw [e] at q
    dsimp only at q
    intro cls d σ1 H' F' s A1 er
    have A1 : AbsX c F' S1 σ1 [] H' := A1.cfg rfl rfl
    split at q
    · rename_i ec
      obtain ⟨g1, d', fs, g2, g3, g4, g5⟩ := id er
      refine ⟨true, by rw [g1]; exact hcat _ _ ec, fun _ => ⟨c.g.ca ex.cls, d', g1, g2, fun a na => ?_⟩, fun z => nomatch z⟩
      subst g1
      subst g2
      split at q
      · rename_i hi2
        obtain ⟨F2, s2, A2⟩ := A1.caught er na
        have A3 := A2.assign (i := i) (by rw [← A1.l]; exact hi2)
        refine ⟨F2, _, A3.cfg rfl rfl, ?_⟩
        split at q
        · rename_i fl S2 e2
          rw [e2]
          intro H3 F3 s3
          have q := q H3 F3 ((s.trans s2).trans s3)
          cases fl with
          | nx => exact fun σ' A' => q _ ((A'.cfg (c' := c) rfl rfl).clear)
          | rt x =>
            refine fun v σ' A' => q v (σ'.set i none) ?_
            have A4 : AbsX c F3 (S2.push x) σ' ([] ++ [some v]) H3 := A'.cfg rfl rfl
            have A5 := A4.clear (i := i) (o := none)
            exact A5
          | bk => exact fun σ' A' => q _ ((A'.cfg (c' := c) rfl rfl).clear)
          | ct => exact fun σ' A' => q _ ((A'.cfg (c' := c) rfl rfl).clear)
        · exact q.elim
      · exact q.elim
    · rename_i ec
      obtain ⟨g1, _⟩ := id er
      exact ⟨false, by rw [g1]; exact hcat _ _ ec, (fun z => nomatch z), fun _ => q cls d σ1 H' F' s A1 er⟩
    · exact q.elim
end

/-! ### raise C(e, ..) -/
/-- C's __init__ stores its parameters in the fields of these names -/
def spInit (K : PySem.W.Frag) (C : Addr) (fl : List Str) : Sp := fun vs H Q _ => ∃ (a : Addr) (ys : List V), vs = .ref a :: ys ∧ ys.length = fl.length ∧ H a = some (exo a C none) ∧
  ∀ (d : Addr) (H' : Hp), H d = none → d ≠ a → H' a = some (exo a C (some d)) → H' d = some (exd d (fl.zip ys).reverse) → (∀ b, b ≠ a → b ≠ d → H' b = H b) → Q .non H'
theorem init1_read {K : PySem.W.Frag} {C : Addr} {f : Str} {N : List Str} {vs : List V} {H : Hp} {Q : VK} {E : XK} (T : OexC K C) (hno : PySem.W.findIn K (.ref C) f = some none) (h : spInit K C [f] vs H Q E) :
    tOst K f (tVar 0) (tVar 1) { nx := fun _ H' => Q .non H', rt := Q } (start N vs) H := by
  obtain ⟨a, ys, rfl, hl, ha, q⟩ := h
  match ys, hl with
  | [y], _ =>
    refine ⟨y, rfl, .ref a, rfl, a, C, rfl, T, hno, .inl ⟨ha, fun dx n ne => ?_⟩⟩
    exact q dx _ n ne upd_same (by rw [upd_ne ne, upd_same]; rfl) fun b h1 h2 => by rw [upd_ne h1, upd_ne h2]
theorem init2_read {K : PySem.W.Frag} {C : Addr} {f f2 : Str} {N : List Str} {vs : List V} {H : Hp} {Q : VK} {E : XK} (T : OexC K C) (hno : PySem.W.findIn K (.ref C) f = some none) (hno2 : PySem.W.findIn K (.ref C) f2 = some none) (h : spInit K C [f, f2] vs H Q E) :
    tSeq (tOst K f (tVar 0) (tVar 1)) (tOst K f2 (tVar 0) (tVar 2)) { nx := fun _ H' => Q .non H', rt := Q } (start N vs) H := by
  obtain ⟨a, ys, rfl, hl, ha, q⟩ := h
  match ys, hl with
  | [y, y2], _ =>
    refine ⟨y, rfl, .ref a, rfl, a, C, rfl, T, hno, .inl ⟨ha, fun dx n ne => ?_⟩⟩
    refine ⟨y2, rfl, .ref a, rfl, a, C, rfl, T, hno2, .inr ⟨dx, [(f, y)], upd_same, by rw [upd_ne ne, upd_same], by show 1 ≤ 900; decide, ?_⟩⟩
    exact q dx _ n ne (by rw [upd_ne (Ne.symm ne), upd_same]) (by rw [upd_same]; rfl) fun b h1 h2 => by rw [upd_ne h2, upd_ne h1, upd_ne h2]
theorem repF_zip {g : Ga} {F : Hp} : ∀ {fl : List Str} {vs : List V} {ts : List T}, RepAll g F vs ts → RepF g F (fl.zip vs) (fl.zip ts)
  | [], _, _, _ => .nil
  | _ :: _, _, _, .nil => .nil
  | _ :: fl, _, _, .cons a b => .cons a (repF_zip b)
theorem RepF.app {g : Ga} {F : Hp} : ∀ {vs ws : List (Str × V)} {ts us : List (Str × T)}, RepF g F vs ts → RepF g F ws us → RepF g F (vs ++ ws) (ts ++ us)
  | _, _, _, _, .nil, q => q
  | _, _, _, _, .cons a b, q => .cons a (RepF.app b q)
theorem RepF.rev {g : Ga} {F : Hp} : ∀ {vs : List (Str × V)} {ts : List (Str × T)}, RepF g F vs ts → RepF g F vs.reverse ts.reverse
  | _, _, .nil => .nil
  | _, _, .cons a b => by
    rw [List.reverse_cons, List.reverse_cons]
    exact (RepF.rev b).app (.cons a .nil)
def raiseF (k : Nat) (fl : List Str) (a : AF) : SF := fun S => (a S).bind fun os S1 => match vals os with
  | some ts => if ts.length = fl.length then .exc ⟨k, (fl.zip ts).reverse⟩ S1 else .stuck
  | none => .stuck
/-- what the written part says of an error class at C whose __init__ at fI stores the fields fl -/
structure ExcT (K : PySem.W.Frag) (mg : Str → Option Value) (x : Str) (C fI : Addr) : Prop where
  gC : mg x = some (.ref C)
  oex : OexC K C
  exc : ExcC K C
  iC : PySem.W.findIn K (.ref C) "__init__" = some (some (.ref fI))
  tI : PySem.W.typeIn K (.ref fI) = some (.type "function")
section
variable {X : Cx} {c : Cfg} {x : Str} {C fI : Addr} {e : Expr} {es : List Expr} {p pos pos2 : Pos} {fa : AF} {fl ps : List Str} {fd : FuncData} {k : Nat}
theorem ds_raise (hcalm : X.calm = true) (tk : Takes X (fun cls d σ H => c.E σ cls d H)) (T : ExcT X.K X.mg x C fI) (hC : C = c.g.ca k) (F1 : FnOk X.prog X.w X.K X.mg X.base (L2.CX X.prog X.w) 1 fI fd ps (spInit X.K C fl)) (hr : Room 2 X.A) (hb : Binds X.K fd ps [])
    (hx : Passes (L2.CX X.prog X.w) X (fun _ _ _ => False)) (hg : Gl X x) (ha : PA X (e :: es) (rdA c fa)) (hn : fl.length ≤ 1000 := by decide)
    (hdb : (x == ("__debug__" : Str)) = false := by decide) (he : starEach (e :: es) X.env = (false, eval e X.env) :: starEach es X.env := by rfl) (hpl : (backTo pos (starEach es X.env)).any (·.1) = false := by rfl) :
    PS X (.Raise (some (.Call (.Name x p) (e :: es) [] pos)) none pos2) (rdS c (raiseF k fl fa)) := by
  refine ps_imp (ps_raise hcalm tk (pmk_oex (dvs := []) T.oex T.iC T.tI F1 hr hb .nil hx hg T.gC ha hdb he hpl)) fun D σ H q => ?_
  obtain ⟨F, S, A, q⟩ := q
  refine ⟨[], F, S, A, sOut.bind q fun os S1 F1 H1 s1 q1 vs A1 r1 => ?_⟩
  split at q1
  · rename_i ts e1
    split at q1
    · rename_i hl
      have rv := r1.vals e1
      refine ⟨by rw [rv.length, hl]; exact hn, fun a na => ?_⟩
      rw [List.append_nil]
      refine ⟨a, vs, rfl, by rw [rv.length]; exact hl, upd_same, fun d H' nd ne ea ed hk => ?_⟩
      rw [upd_ne ne] at nd
      refine ⟨rfl, d, _, ea, ed, nd, ?_⟩
      have st : Same H1 (upd (L2.del H' a) d (.xd (fl.zip vs).reverse)) := fun b w q => by
        have hbd : b ≠ d := ne_of_none q nd
        have hba : b ≠ a := ne_of_none q na
        rw [upd_ne hbd, del_ne hba, hk b hba hbd, upd_ne hba]
        exact q
      have A2 := A1.st st
      exact q1 _ _ σ _ F1 (Same.refl F1) A2 ⟨by rw [hC], d, _, rfl, A1.a.fresh nd, upd_same, (repF_zip rv).rev⟩
    · exact q1.elim
  · exact q1.elim
end
end TL

end
section
set_option Elab.async false
set_option linter.all false
set_option maxRecDepth 100000
set_option autoImplicit false
set_option maxHeartbeats 4000000
/-! TL16c: isinstance of errors, their fields -/
open PySem PySem.Spec PyProof.Rows L2
namespace TL
section
open PySem.W PySem.Calls
variable {prog : Program} {w : World} {A : Around} {E : Value → Shared → Prop} {s : Shared} {K : Frag} {x D : Addr} {ox : Obj} {od : Option Obj}
theorem findObj_dataD {C : Addr} {name : Str} {a g : Value} (hc : (clsIn K C).isSome = true) (ha : findIn K (.ref C) name = some (some a)) (hg : specialIn K a "__get__" = some (some g)) (ht : takesIn K a = some true) : findObj K C od name = some (.bind g a) := by
  obtain ⟨cd, hc⟩ := Option.isSome_iff_exists.mp hc
  unfold findObj
  rw [hc, Option.bind_some, ha, Option.bind_some]
  simp [hg, ht]
theorem kin_classD {Q : Option Value → Shared → Prop} (hga : findIn K (.ref D) "__getattribute__" = some (some (.builtin "BaseException.__getattribute__"))) (hgt : findIn K (.ref D) "__getattr__" = some none) (hsub : subIn K (.ref D) (.type "BaseException") = some true)
    (hdct : hasDictIn K D = true) (ha : findIn K (.ref D) "__class__" = some (some (.builtin "object.__class__")))
    (hn : specialIn K (.builtin "object.__class__") "__get__" = some (some (.builtin "getset_descriptor.__get__"))) (htk : takesIn K (.builtin "object.__class__") = some true) (hm : mroIn K D (.type "object") = some true)
    (X : K.In s.heap) (I : InstAt s.heap x ox D od) (h : Q (some (.ref D)) { s with toks := s.toks + 1 }) : wpAny (model prog w) A (getAttr? (.ref x) "__class__") Q E s := by
  have hf : findObj K D od "__class__" = some (.bind (.builtin "getset_descriptor.__get__") (.builtin "object.__class__")) := findObj_dataD (by obtain ⟨cd, hc, _⟩ := any_some hdct; rw [hc]; rfl) ha hn htk
  obtain ⟨hp, g, d, t, os⟩ := s
  have L0 := I.type (M := model prog w)
  have L1 := looks_findIn (M := model prog w) X hga
  have L2 := looks_findIn (M := model prog w) X hgt
  have L3 := looks_find (M := model prog w) X I hf
  have sub : Looks (model prog w) hp (isInstance (.ref x) (.type "BaseException")) true := L0.andThen (looks_subIn X hsub)
  have hx0 : (false && onTheHeap (Value.builtin "BaseException.__getattribute__")) = false := rfl
  have hx2 : (Value.builtin "BaseException.__getattribute__" == Value.builtin "object.__getattribute__") = false := by decide +kernel
  have hx1 : (onTheHeap (Value.ref D) && Value.builtin "BaseException.__getattribute__" == Value.builtin "object.__getattribute__") = false := by rw [hx2]; rfl
  unfold getAttr? getAttrBy? getAttrBy
  refine wpAny_bind (wpAny_mkText (wpAny_bind (wpAny_attempt (wpAny_holding (wpAny_bind (L0.at (wpAny_bind (L1.at ?_))))))))
  show wpAny _ _ (if (onTheHeap (Value.ref D) && Value.builtin "BaseException.__getattribute__" == Value.builtin "object.__getattribute__") = true then _ else _) _ _ _
  rw [hx1, if_neg Bool.false_ne_true]
  unfold getAttrByItsOwn hookBefore
  refine wpAny_bind ?_
  rw [if_pos (show onTheHeap (Value.ref D) = true from rfl)]
  refine L2.at ?_
  refine wpAny_bind (wpAny_attempt (wpAny_holding ?_))
  unfold callGetattribute
  rw [hx0, if_neg Bool.false_ne_true]
  unfold boundAndCalled
  rw [PySem.F.excAttr_ValueError.ga.bind (.ref x)]
  refine wpAny_bind (wpAny_pure ?_)
  show wpAny _ _ (call (.builtin "BaseException.__getattribute__") [.ref x, .str "__class__" t]) _ _ _
  refine wpAny_call (codeAny_call_builtin PySem.F.excAttr_ValueError.ga.plain PySem.F.entry_bexc_ga ?_)
  refine @check_slot (model prog w) _ _ ⟨hp, g, d, t + 1, os⟩ "BaseException.__getattribute__" "BaseException" "__getattribute__" (.ref x) [.str "__class__" t] [] _ (by decide +kernel) (by decide +kernel) sub (PySem.F.args_bexc_ga (.ref x) (.str "__class__" t)) ?_
  unfold Builtin.«object.__getattribute__»
  refine wpAny_bind (wpAny_of_eq (a := ((Value.ref x : Value), [Value.str "__class__" t])) (by first | rfl | (simp only [slotArgs]; rfl)) ?_)
  refine wpAny_bind (wpAny_pure (wpAny_bind (L0.at (wpAny_bind (L3.at ?_)))))
  show wpAny _ _ (holding [Value.builtin "object.__class__"] (call (.builtin "getset_descriptor.__get__") [.builtin "object.__class__", .ref x, .ref D]) >>= ret) _ _ _
  refine wpAny_bind (wpAny_holding (wpAny_call (class_get (s := ⟨hp, g, d, t + 1, os⟩) (ox := ox) (od := od) X I hm ?_)))
  refine wpAny_pure ?_
  show wpAny _ _ (handedOut (.ref D)) _ _ _
  rw [handedOut_of (v := .ref D) rfl]
  first
    | exact wpAny_pure (wpAny_pure h)
    | exact wpAny_pure h
    | exact wpAny_pure (wpAny_bind (wpAny_pure (wpAny_pure h)))
theorem kitx_excD (C : ExcC K D) : KitX K (.ref x) (.ref D) (fun h => InstAt h x ox D od) where
  ty := fun _ _ _ I => I.type
  it := fun _ _ X _ => by
    obtain ⟨cdD, hcD, _⟩ := any_some C.hd
    unfold clsIn at hcD
    split at hcD
    · rename_i c' d' cd' sl' ho
      intro A' Q' E' s' k q
      unfold isType loadHead
      exact wpAny_bind (wpAny_loadPart (k _ _ (X _ _ ho)) (wpAny_pure q))
    · cases hcD
  ne := fun h tp dd its n sl X htp => by
    obtain ⟨cdD, hcD, _⟩ := any_some C.hd
    refine Bool.eq_false_iff.mpr fun q => ?_
    have e : D = tp := Value.ref.inj (beq_iff_eq.mp q)
    subst e
    unfold clsIn at hcD
    split at hcD
    · rename_i c' d' cd' sl' ho
      have z := (X _ _ ho).symm.trans htp
      cases z
    · cases hcD
  ca := fun X I k => kin_classD C.hg C.hk C.hs C.hd C.ha C.hn C.ht C.hm X I k
end
section
variable {X : Cx} {pins : List (Addr × Obj)} {σ : L2.St} {H : Hp} {s : Shared}
theorem exv_inst {a C d : Addr} {fs : List (Str × V)} (I : Inv X pins σ H s) (ea : H a = some (EXV C d a)) (ed : H d = some (.xd fs)) : ∃ (oe od : Obj) (mA : Str → Option Value), PySem.W.InstAt s.heap a oe C (some od) ∧ (∀ name, PySem.W.lookIn name od = some (mA name)) ∧ ∀ f, RelO (fs.lookup f) (mA f) := by
  have x : ObjOk X.prog X.w H s.heap a (.ext fun h => ∃ (oe : Obj) (vs : Array Value), h.get? a = some oe ∧ Zc (.ref C) (some d) oe ∧ oe.data = .fields vs) := I.hok a _ ea
  obtain ⟨oe, vs, ha, hz, hd⟩ := x.1
  have y : ObjOk X.prog X.w H s.heap d (.xd fs) := I.hok d _ ed
  obtain ⟨mA, hns, hr⟩ := y
  obtain ⟨od, ho, hl⟩ := lookIn_ns hns
  exact ⟨oe, od, mA, ⟨ha, hz.1, by unfold PySem.W.notCls; rw [hd] <;> rfl, by rw [hz.2]; exact ho⟩, hl, hr⟩
/-- what isinstance asks of a value, errors among them -/
def TyE (K : PySem.W.Frag) (H : Hp) (x : V) (us : List Value) (b : Bool) : Prop := (∃ t, TyX K H x t ∧ PySem.W.kitAny K t us = some b) ∨
  ∃ (a C d : Addr) (fs : List (Str × V)), x = .ref a ∧ H a = some (EXV C d a) ∧ H d = some (.xd fs) ∧ ExcC K C ∧ PySem.W.kitAny K (.ref C) us = some b
theorem tyE_kit {x : V} {u : Value} {us : List Value} {b : Bool} (I : Inv X pins σ H s) (rx : RelV x u) (h : TyE X.K H x us b) : ∃ (t : Value) (P : Heap → Prop), PySem.W.KitX X.K u t P ∧ P s.heap ∧ u ≠ .builtin "__main__.__loader__#opaque" ∧ PySem.W.kitAny X.K t us = some b := by
  rcases h with ⟨t, ty, e⟩ | ⟨a, C, d, fs, rfl, ea, ed, T, e⟩
  · obtain ⟨P, Z, p, hx⟩ := kit_of I rx ty
    exact ⟨t, P, Z, p, hx, e⟩
  · cases (show u = Value.ref a from rx)
    obtain ⟨oe, od, mA, J, _⟩ := exv_inst I ea ed
    exact ⟨.ref C, _, kitx_excD T, J, (fun z => nomatch z), e⟩
theorem kitAny_one {K : PySem.W.Frag} {t u : Value} {b : Bool} (h : PySem.W.kitAny K t [u] = some b) : PySem.W.kitOne K t u = some b := by
  unfold PySem.W.kitAny at h
  cases e : PySem.W.kitOne K t u with
  | none => rw [e] at h; cases h
  | some r =>
    rw [e] at h
    cases r with
    | true => exact h
    | false => exact h
/-- isinstance(x, c) -/
theorem call_isE1 : CallR X (.builtin "isinstance") (fun xs H Q => ∃ (x c : V) (u : Value) (b : Bool), xs = [x, c] ∧ ClsV c u ∧ TyE X.K H x [u] b ∧ Q (.bl b) H) := by
  intro pins s σ H xs us Q I r h
  obtain ⟨x, c, u, b, rfl, k, ty, q⟩ := h
  obtain ⟨u1, u2, rfl, r1, r2⟩ := vals2 r
  have e2 := k.eq r2
  subst e2
  obtain ⟨t, P, Z, p, hx, e⟩ := tyE_kit I r1 ty
  exact PySem.W.kia_one Z I.kIn p (kitAny_one e) hx fun tk => ⟨.bl b, H, I.tok tk, rfl, q⟩
/-- isinstance(x, (c1, ..)) -/
theorem call_isET : CallR X (.builtin "isinstance") (fun xs H Q => ∃ (x : V) (tp : Addr) (cs : List V) (us : List Value) (b : Bool), xs = [x, .ref tp] ∧ H tp = some (.tup cs) ∧ Paired ClsV cs us ∧ TyE X.K H x us b ∧ Q (.bl b) H) := by
  intro pins s σ H xs us Q I r h
  obtain ⟨x, tp, cs, ws, b, rfl, hT, k, ty, q⟩ := h
  obtain ⟨u1, u2, rfl, r1, r2⟩ := vals2 r
  cases (show u2 = Value.ref tp from r2)
  obtain ⟨t, P, Z, p, hx, e⟩ := tyE_kit I r1 ty
  obtain ⟨_, its, rv, o, h1, h2, n, h3⟩ := (show ObjOk X.prog X.w H s.heap tp (.tup cs) from I.hok tp _ hT)
  have e3 := ClsV.all k rv
  subst e3
  obtain ⟨oc, od, dt, sl⟩ := o
  simp only at h2 h3
  subst h2 h3
  exact PySem.W.kia_tup Z I.kIn p h1 e hx fun tk => ⟨.bl b, H, I.tok tk, rfl, q⟩
end
def isX (own : Nat → Option Bool) (bt : String → Option Bool) (t : T) : Option Slot := match t with
  | .exo k _ => (own k).map fun b => .sh (.bl b)
  | t => (tyN t).bind fun n => (bt n).map fun b => .sh (.bl b)
theorem PRep.exo {g : Ga} {F H : Hp} {v : V} {k : Nat} {ts : List (Str × T)} (s : Same F H) (h : PRep g F H v (.exo k ts)) : ∃ (a d : Addr) (fs : List (Str × V)), v = .ref a ∧ H a = some (EXV (g.ca k) d a) ∧ H d = some (.xd fs) ∧ RepF g F fs ts := by
  rcases h with h | ⟨a, u, e, hu, h⟩
  · cases h with
    | exo e1 e2 r => exact ⟨_, _, _, rfl, s _ _ e1, s _ _ e2, r⟩
  · cases h
section
variable {X : Cx} {c : Cfg} {a ce : Expr} {pos p' : Pos} {fa : OF} {own : Nat → Option Bool} {bt : String → Option Bool} {us : List Value}
structure IsOk (K : PySem.W.Frag) (ca : Nat → Addr) (own : Nat → Option Bool) (bt : String → Option Bool) (us : List Value) : Prop where
  own : ∀ k b, own k = some b → ExcC K (ca k) ∧ PySem.W.kitAny K (.ref (ca k)) us = some b
  bt : ∀ n b, bt n = some b → PySem.W.kitAny K (.type n) us = some b
theorem isX_ty {F H : Hp} {S : Sta} {σ τ : List (Option V)} {x : V} {t : T} {z : Slot} (A : AbsX c F S σ τ H) (hK : c.g.K = X.K) (ok : IsOk X.K c.g.ca own bt us) (hx : PRep c.g F H x t) (hz : isX own bt t = some z) : ∃ b, z = .sh (.bl b) ∧ TyE X.K H x us b := by
  unfold isX at hz
  split at hz
  · obtain ⟨b, h1, h2⟩ := Option.map_eq_some_iff.mp hz
    obtain ⟨a, d, fs, rfl, e1, e2, _⟩ := hx.exo A.a.fh
    obtain ⟨T, k⟩ := ok.own _ _ h1
    exact ⟨b, h2.symm, .inr ⟨a, _, d, fs, rfl, e1, e2, T, k⟩⟩
  · obtain ⟨n, h1, h2⟩ := Option.bind_eq_some_iff.mp hz
    obtain ⟨b, h3, h4⟩ := Option.map_eq_some_iff.mp h2
    exact ⟨b, h4.symm, .inl ⟨_, hx.ty hK A.a.fh h1, ok.bt _ _ h3⟩⟩
theorem de_isE {cv : V} {u : Value} (hK : c.g.K = X.K) (hg : Gl X "isinstance") (hm : X.mg "isinstance" = none) (ha : PE X a (rdO c fa)) (hce : PE X ce (tC cv)) (hcv : ClsV cv u) (ok : IsOk X.K c.g.ca own bt [u])
    (he : starEach [a, ce] X.env = (false, eval a X.env) :: starEach [ce] X.env := by rfl) (he2 : starEach [ce] X.env = (false, eval ce X.env) :: starEach [] X.env := by rfl) (hpl : (backTo pos (starEach [ce] X.env)).any (·.1) = false := by rfl) : PE X (.Call (.Name "isinstance" p') [a, ce] [] pos) (rdE c (op1 (isX own bt) fa)) := by
  refine PE.imp (pe_callB call_isE1 hg hm (by decide +kernel) (pa_cons ha (pa_cons hce pa_nil he2) he) (by decide) (by decide) he hpl) fun σ H Q q => op1_out (r := fun x H1 Q => ∃ (x' c : V) (u : Value) (b : Bool), [x, cv] = [x', c] ∧ ClsV c u ∧ TyE X.K H1 x' [u] b ∧ Q (.bl b) H1) ?_ q
  intro F S σ τ H x t z Q A hx hz k
  obtain ⟨b, e, ty⟩ := isX_ty A hK ok hx hz
  subst e
  exact ⟨x, cv, u, b, rfl, hcv, ty, fin_sh A k (.bl _)⟩
theorem de_isET {cvs : List V} (hK : c.g.K = X.K) (hg : Gl X "isinstance") (hm : X.mg "isinstance" = none) (ha : PE X a (rdO c fa)) (hce : PE X ce (fun _ H Q => cvs.length ≤ sizeLine ∧ ∀ p, H p = none → Q (.ref p) (upd H p (.tup cvs)))) (hcv : Paired ClsV cvs us) (ok : IsOk X.K c.g.ca own bt us) (hl : cvs.length ≤ 1000 := by decide)
    (he : starEach [a, ce] X.env = (false, eval a X.env) :: starEach [ce] X.env := by rfl) (he2 : starEach [ce] X.env = (false, eval ce X.env) :: starEach [] X.env := by rfl) (hpl : (backTo pos (starEach [ce] X.env)).any (·.1) = false := by rfl) : PE X (.Call (.Name "isinstance" p') [a, ce] [] pos) (rdE c (op1 (isX own bt) fa)) := by
  refine PE.imp (pe_callB call_isET hg hm (by decide +kernel) (pa_cons ha (pa_cons hce pa_nil he2) he) (by decide) (by decide) he hpl) fun σ H Q q => op1_out (r := fun x H1 Q => cvs.length ≤ sizeLine ∧ ∀ p, H1 p = none → ∃ (x' : V) (tp : Addr) (cs : List V) (us : List Value) (b : Bool), [x, .ref p] = [x', .ref tp] ∧ upd H1 p (.tup cvs) tp = some (.tup cs) ∧ Paired ClsV cs us ∧ TyE X.K (upd H1 p (.tup cvs)) x' us b ∧ Q (.bl b) (upd H1 p (.tup cvs))) ?_ q
  intro F S σ τ H x t z Q A hx hz k
  refine ⟨by rw [sizeLine_eq]; omega, fun p np => ?_⟩
  have st : Same H (upd H p (.tup cvs)) := fun b w q => by rw [upd_ne (ne_of_none q np)]; exact q
  have A2 := A.st st
  have hx2 : PRep c.g F (upd H p (.tup cvs)) x t := by
    rcases hx with hx | ⟨a, u, e, hu, mk⟩
    · exact .inl hx
    · exact .inr ⟨a, u, e, st _ _ hu, mk⟩
  obtain ⟨b, e, ty⟩ := isX_ty A2 hK ok hx2 hz
  subst e
  exact ⟨x, p, cvs, us, b, rfl, upd_same, hcv, ty, fin_sh A2 k (.bl _)⟩
/-! fields of errors -/
def attrT (okc : Nat → Bool) (f : Str) : T → Option Slot
  | .exo k fs => if okc k = true then (fs.lookup f).map .sh else none
  | _ => none
theorem RepF.look {g : Ga} {F : Hp} {f : Str} {t : T} : ∀ {fs : List (Str × V)} {ts : List (Str × T)}, RepF g F fs ts → ts.lookup f = some t → ∃ v, fs.lookup f = some v ∧ Rep g F v t
  | _, _, .nil, h => by cases h
  | (k, v) :: fs, (_, u) :: ts, .cons a b, h => by
    rw [List.lookup_cons] at h ⊢
    cases e : f == k with
    | true =>
      rw [e] at h
      cases h
      exact ⟨v, rfl, a⟩
    | false =>
      rw [e] at h
      exact RepF.look b h
theorem pe_exv {o : Expr} {te : TE} {f : Str} (ho : PE X o te) (hb : attributeBase o f X.env (eval o X.env) = eval o X.env := by rfl) :
    PE X (.Attribute o f pos) (fun σ H Q => te σ H fun x H1 => ∃ (a C d : Addr) (fs : List (Str × V)) (v : V), x = .ref a ∧ H1 a = some (EXV C d a) ∧ H1 d = some (.xd fs) ∧ fs.lookup f = some v ∧ ExcC X.K C ∧ PySem.W.findIn X.K (.ref C) f = some none ∧ Q v H1) := by
  refine ⟨fun pins s σ H Q I h => ?_⟩
  refine attr_of hb (thn (ho.run pins s σ H _ I h) fun u s1 hh => ?_)
  obtain ⟨x, H1, I1, rx, a, C, d, fs, v, rfl, ea, ed, hl, T, hno, q⟩ := hh
  obtain rfl : u = Value.ref a := rx
  obtain ⟨oe, od, mA, J, hlk, hr⟩ := exv_inst I1 ea ed
  obtain ⟨u, hu, ru⟩ := RelO.some_of (v := v) (o := mA f) (by rw [← hl]; exact hr f)
  exact HandSPX.exc_get I1.kIn J T.hg T.hk T.hs (PySem.W.findObj_own T.hd hno rfl (by rw [hlk, hu])) (handed_of ru) ⟨v, H1, I1.tok _, ru, q⟩
theorem de_attr {o : Expr} {okc : Nat → Bool} {f : Str} (hK : c.g.K = X.K) (ho : PE X o (rdO c fa)) (ok : ∀ k, okc k = true → ExcC X.K (c.g.ca k) ∧ PySem.W.findIn X.K (.ref (c.g.ca k)) f = some none) (hb : attributeBase o f X.env (eval o X.env) = eval o X.env := by rfl) :
    PE X (.Attribute o f pos) (rdE c (op1 (attrT okc f) fa)) := by
  refine PE.imp (pe_exv ho hb) fun σ H Q q => op1_out (r := fun x H1 Q => ∃ (a C d : Addr) (fs : List (Str × V)) (v : V), x = .ref a ∧ H1 a = some (EXV C d a) ∧ H1 d = some (.xd fs) ∧ fs.lookup f = some v ∧ ExcC X.K C ∧ PySem.W.findIn X.K (.ref C) f = some none ∧ Q v H1) ?_ q
  intro F S σ τ H x t z Q A hx hz k
  unfold attrT at hz
  split at hz
  · split at hz
    · rename_i hok
      obtain ⟨t', h1, h2⟩ := Option.map_eq_some_iff.mp hz
      subst h2
      obtain ⟨a, d, fs, rfl, e1, e2, r⟩ := hx.exo A.a.fh
      obtain ⟨v, h3, h4⟩ := r.look h1
      obtain ⟨T, hno⟩ := ok _ hok
      exact ⟨a, _, d, fs, v, rfl, e1, e2, h3, T, hno, fin_sh A k h4⟩
    · cases hz
  · cases hz
end
end TL

end
section
set_option Elab.async false
set_option linter.all false
set_option maxRecDepth 100000
set_option autoImplicit false
set_option maxHeartbeats 2000000
/-! TL17: f(lambda: e), f a def that calls it in a try -/
open PySem PySem.Spec PyProof.Rows L2
namespace TL
def frz1 (i : Nat) (S : Sta) : Option Sta := match S.lo[i]? with
  | some (.sh _) => some S
  | some (.ow t) => some (S.put i (.sh t))
  | _ => none
def frzs : List Nat → Sta → Option Sta
  | [], S => some S
  | i :: is, S => (frz1 i S).bind (frzs is)
def noOw : Slot → Slot
  | .ow _ => .no
  | .fu => .no
  | s => s
def askEnd : R Slot → FR
  | .ok .fu _ => .stuck
  | .ok x S => .ok x S.nb
  | .exc e S => .exc e S.nb
  | .stuck => .stuck
def askOf (fe : EF) (lo : List Slot) : Nib → FR := fun n => askEnd (fe ⟨lo.map noOw, [], n⟩)
abbrev HFn := (Nib → FR) → Nib → FR
def lamF (caps : List Nat) (fe : EF) (fh : HFn) : EF := fun S => match frzs caps S with
  | some S1 => match fh (askOf fe S1.lo) S1.nb with
    | .ok x n => .ok x { S1 with nb := n }
    | _ => .stuck
  | none => .stuck
/-- the call of what was handed in -/
def askF (i : Nat) (ask : Nib → FR) : EF := fun S => match S.lo[i]? with
  | some .fu => match ask S.nb with
    | .ok x n => .ok x { S with nb := n }
    | .exc e n => .exc e { S with nb := n }
    | .stuck => .stuck
  | _ => .stuck
section
variable {c : Cfg} {F F' H H' H1 : Hp} {S S1 : Sta} {σ τ : List (Option V)}
theorem frz1_ok (A : AbsX c F S σ τ H) {i : Nat} (h : frz1 i S = some S1) : ∃ F', Same F F' ∧ AbsX c F' S1 σ τ H := by
  unfold frz1 at h
  split at h
  · cases h; exact ⟨F, Same.refl F, A⟩
  · rename_i t e
    cases h
    exact A.freeze e
  · cases h
theorem frzs_ok : ∀ {is : List Nat} {F : Hp} {S : Sta}, AbsX c F S σ τ H → frzs is S = some S1 → ∃ F', Same F F' ∧ AbsX c F' S1 σ τ H
  | [], F, S, A, h => by cases h; exact ⟨F, Same.refl F, A⟩
  | i :: is, F, S, A, h => by
    obtain ⟨S2, h1, h2⟩ := Option.bind_eq_some_iff.mp h
    obtain ⟨F1, s1, A1⟩ := frz1_ok A h1
    obtain ⟨F2, s2, A2⟩ := frzs_ok A1 h2
    exact ⟨F2, s1.trans s2, A2⟩
theorem AbsX.extN (A : AbsX c F S σ τ H) (e : LamX.ExtN H H1) (t : LamX.Tabs c.g.tb H1) : AbsX c F S σ τ H1 := by
  obtain ⟨cc, n1, n2⟩ := A.a.nib
  refine ⟨⟨fun b o q => e _ _ (A.a.fh _ _ q) (A.a.ext.nt _ _ q), A.a.fn, ⟨cc, e _ _ n1 (fun _ z => nomatch z), n2⟩, fun a w q n0 n => e _ _ (A.a.keep a w q n0 n) n0, A.a.fre, ⟨A.a.ext.bs, A.a.ext.nt, t, fun c0 x0 y0 h0 => by
    obtain ⟨x1, y1, h1⟩ := A.a.ext.cel c0 x0 y0 h0
    exact ⟨x1, y1, e _ _ h1 (fun _ z => nomatch z)⟩⟩, A.a.len, fun i s q h1 h2 => ?_, A.a.ds⟩, A.l⟩
  have h := A.a.sl i s q h1 h2
  cases s with
  | no => trivial
  | fu => exact h
  | sh t => exact h
  | ow t1 =>
    obtain ⟨a, e', ⟨w, hw, mk⟩, r⟩ := h
    exact ⟨a, e', ⟨w, e _ _ hw mk.noT, mk⟩, r⟩
/-- the maker's slots as the lambda's body sees them -/
theorem AbsX.seen (A : AbsX c F S σ τ H) (E : XK) : AbsX ⟨c.g, ⟨H, F, .non⟩, fun _ => E⟩ F ⟨S.lo.map noOw, [], S.nb⟩ σ [] H := by
  have l : (S.lo.map noOw).length = σ.length := by rw [List.length_map, A.l]
  refine ⟨⟨A.a.fh, A.a.fn, A.a.nib, fun _ _ h _ _ => h, fun _ _ _ _ h => h, ⟨Same.refl F, A.a.ext.nt, A.a.ext.tabs, CelS.refl H⟩, ?_, fun i s o h1 h2 => ?_, fun i j t u a h1 _ _ _ => ?_⟩, l⟩
  · show (S.lo.map noOw ++ []).length = (σ ++ []).length
    rw [List.append_nil, List.append_nil, l]
  · have h1 : (S.lo.map noOw ++ [])[i]? = some s := h1
    rw [List.append_nil] at h1 h2
    rw [List.getElem?_map] at h1
    cases e : S.lo[i]? with
    | none => rw [e] at h1; cases h1
    | some s0 =>
      rw [e] at h1
      cases h1
      obtain ⟨o', ho, r⟩ := A.slot e
      rw [h2] at ho
      cases ho
      cases s0 with
      | no => trivial
      | fu => trivial
      | sh t => exact r
      | ow t => trivial
  · have h1 : (S.lo.map noOw ++ [])[i]? = some (.ow t) := h1
    rw [List.append_nil, List.getElem?_map] at h1
    cases e : S.lo[i]? with
    | none => rw [e] at h1; cases h1
    | some s0 =>
      rw [e] at h1
      cases s0 <;> cases h1
end
/-- what the def makes of the lambda that it is handed -/
def TTh (g : Ga) (fh : HFn) : (XK → Hp → VK → Prop) → Hp → VK → Prop := fun tl H Q => ∃ (F : Hp) (n : Nib) (ask : Nib → FR), Same F H ∧ F g.nb = none ∧ NibRel g F H n ∧ LamX.Tabs g.tb H ∧ (∀ a o, F a = some o → NT o) ∧
  (∀ F' H' n', Post g F H F' H' n' → ∀ (E : XK) (Q' : VK), spOut g F' H' Q' E (ask n') → tl E H' Q') ∧ spOut g F H Q (fun _ _ _ => False) (fh ask n)
section
variable {X : Cx} {pins : List (Addr × Obj)} {σ : L2.St} {H HZ : Hp} {s s1 : Shared}
/-- x(), in the def that got the lambda; what is raised is told of the very slots -/
theorem pe_actS {CXg : CXT} {Eg : XK} {Ng : List Str} {qg : Str} {sg : Scope} {g f c' : Addr} {cdg pm ctv : Value} {params : Arguments} {body : Expr} {scope : Scope} {k i : Nat} {a : Str} {pn : List (Addr × Obj)} {xe : Value → Shared → Prop} {W : WX} {tb : XK → TE} {p1 p2 : Pos}
    (I : Inv X pins σ H s) (L : LamX.LamS X.env.scope scope) (hf : s.heap.get? f = some (PySem.W.kla_obj "<lambda>" (X.env.qual ++ "<lambda>") params body scope (cloFrom X.env.cells scope.names []) pm c' ctv)) (hfn : H f = none) (hfr : f ∉ frs X.stack)
    (hbind : bindArgs (PySem.W.kla_fn "<lambda>" (X.env.qual ++ "<lambda>") params body scope (cloFrom X.env.cells scope.names []) pm (.ref c') ctv) ⟨[], []⟩ = pure [])
    (tk : Takes ((cxOf CXg X.prog X.w X.K X.mg X.base Ng qg sg g cdg X.A X.stack s H Eg).tr pn xe) W) (hr : Room (k + 1) (X.A.deeper (envOfC qg sg s.heap.objs.size g cdg)))
    (hbody : ∀ (E : XK) (A : Around) (outer : List Env) (s : Shared) (H : Hp), Room k (A.deeper (LamX.lamEnv X scope s.heap.objs.size f c')) → PE (LamX.lamCx X A outer s H E scope f c') body (tb E))
    (hN : Ng[i]? = some a) (hv : Vis sg a) (hd : (a == ("__debug__" : Str)) = false := by decide) (hcd : (a == ("__classdict__" : Str)) = false := by decide) :
    PE ((cxOf CXg X.prog X.w X.K X.mg X.base Ng qg sg g cdg X.A X.stack s H Eg).tr pn xe) (.Call (.Name a p1) [] [] p2)
      (fun σZ HZ Q => σZ[i]? = some (some (.ref f)) ∧ HZ c' = some (LamX.CodeO c' (X.env.qual ++ "<lambda>")) ∧ tb (fun cls d H => W cls d σZ H) σ HZ Q) := by
  refine ⟨fun pinsZ sZ σZ HZ Q IZ h => ?_⟩
  obtain ⟨hs, hc, ht⟩ := h
  refine wpAny_Call_Name_kw (thn ((pe_var (pos := p1) (i := i) hN hv hd hcd).run pinsZ sZ σZ HZ (fun v H1 => v = .ref f ∧ H1 = HZ) IZ ⟨.ref f, hs, rfl, rfl⟩) fun u s1 ⟨v, H1, I1, r1, q1⟩ => ?_)
  obtain ⟨ev, eH⟩ := q1
  subst ev
  rw [eH] at I1
  obtain rfl : u = Value.ref f := r1
  have of1 : s1.heap.get? f = some (PySem.W.kla_obj "<lambda>" (X.env.qual ++ "<lambda>") params body scope (cloFrom X.env.cells scope.names []) pm c' ctv) := I1.base.keep f _ hf hfn hfr (fun z => nomatch (show f ∈ ([] : List Addr) from z))
  refine PySem.W.callWith_F0 ⟨_, _, _, _, of1⟩ ?_
  have un : Un (frs X.stack) [] H HZ s.heap s1.heap := I1.base
  obtain ⟨⟨oc, vs, t, hoc, hdc, hvc⟩, _, _⟩ := I1.hok c' _ hc
  have rc : codeAny (model X.prog X.w) (X.A.deeper (envOfC qg sg s.heap.objs.size g cdg)) (.call (.ref f) ⟨[], []⟩) (CR (L2.CX X.prog X.w) (envOfC qg sg s.heap.objs.size g cdg :: X.stack) X.prog X.w HZ s1 Q (fun cls d H => W cls d σZ H)) s1 := by
    refine PySem.W.kla_callFunE hr.depth of1 rfl L.co L.gen rfl ⟨c', oc, vs, t, rfl, hoc, hdc, hvc⟩ ?_
    rw [hbind]
    refine wpAny_pure (wpAny_newFunctionEnv (fun y hy => (L.own y hy).2) (fun y hy => absurd hy (by simp)) (fun h₁ hns hsb => ⟨I1.nolimit.fresh _ hsb, ?_⟩) L.kind)
    show codeAny _ _ (.expr body (LamX.lamEnv X scope s1.heap.objs.size f c')) _ _
    have kp : ∀ b o, s1.heap.get? b = some o → h₁.get? b = some o := fun b o e => hsb.extBut b o (Nat.ne_of_lt (Heap.lt_size e)) (Heap.get?_push_of_some _ e)
    have J : Inv (LamX.lamCx X (X.A.deeper (envOfC qg sg s.heap.objs.size g cdg)) (envOfC qg sg s.heap.objs.size g cdg :: X.stack) s1 HZ (fun cls d H => W cls d σZ H) scope f c') [] σ HZ { s1 with heap := h₁, toks := s1.toks + ([] : List (Str × Value)).length } :=
      LamX.lam_start2 I L I1.env0 hr.hd un hns kp
    refine PySem.W.kla_codeExpr (wpAny_mono ((hbody _ _ _ s1 HZ (hr.deeper _)).run [] _ _ HZ Q J ht) (fun v s' hq => ?_) fun e s' hq => hq)
    obtain ⟨w', H', J', rv, q⟩ := hq
    exact ⟨w', H', J'.os, J'.bare, J'.base, J'.hok, rv, q⟩
  have hx := passAt tk σZ
  refine wpAny_call (codeAny_mono rc fun r s' hq => ?_)
  cases r with
  | error e => exact hx pinsZ HZ s1 e s' I1 hq
  | ok fl =>
    cases fl with
    | ret u => exact I1.after hq
    | next => exact False.elim hq
    | brk => exact False.elim hq
    | cont => exact False.elim hq
def GivesS (X : Cx) (Ng : List Str) (x : Str) (sg : Scope) (g : Addr) (cdg : Value) (bg : List Stmt) (a : Str) (q : Str) (TT : (XK → Hp → VK → Prop) → Hp → VK → Prop) : Prop :=
  ∀ (f c' : Addr) (s : Shared) (H : Hp) (Q : VK) (tl : XK → Hp → VK → Prop),
    (∀ (W : WX) (pn : List (Addr × Obj)) (xe : Value → Shared → Prop) (p1 p2 : Pos), Takes ((cxOf C8.CX0 X.prog X.w X.K X.mg X.base Ng x sg g cdg X.A X.stack s H C8.E0).tr pn xe) W →
      PE ((cxOf C8.CX0 X.prog X.w X.K X.mg X.base Ng x sg g cdg X.A X.stack s H C8.E0).tr pn xe) (.Call (.Name a p1) [] [] p2) (fun σZ HZ Q => σZ[0]? = some (some (.ref f)) ∧ HZ c' = some (LamX.CodeO c' q) ∧ tl (fun cls d H => W cls d σZ H) HZ Q)) →
    H c' = some (LamX.CodeO c' q) → TT tl H Q →
    ∃ t, PSs (cxOf C8.CX0 X.prog X.w X.K X.mg X.base Ng x sg g cdg X.A X.stack s H C8.E0).nox bg t ∧ t { nx := fun _ H' => Q .non H', rt := Q } (L2.start Ng [.ref f]) H
/-- x(lambda: body) -/
theorem pe_lamcallS {T : List (Addr × Str)} {TT : (XK → Hp → VK → Prop) → Hp → VK → Prop} {x a : Str} {g c P : Addr} {k : Nat} {pg : Arguments} {bg : List Stmt} {sg : Scope} {dV kV doc pm cdv ct oc : Value} {an od : Option Addr} {osl : Array (Option Value)} {Ng : List Str}
    {params : Arguments} {body : Expr} {scope : Scope} {t : XK → TE} {p lpos pos : Pos} (hg : Gl X x) (hm : X.mg x = some (.ref g)) (hk : PySem.W.keepIn X.K (.ref g) = true)
    (lk : X.K.lookup g = some ⟨oc, od, .func (PySem.W.fnOf x x pg bg sg dV kV doc pm an cdv ct), osl⟩) (hcg : PySem.W.codeIn X.K cdv x = true) (hb : L2.Binds X.K (PySem.W.fnOf x x pg bg sg dV kV doc pm an cdv ct) [a] []) (Sg : FnScope Ng [a] sg) (hNg : Ng[0]? = some a) (hva : Vis sg a)
    (hG : GivesS X Ng x sg g cdv bg a (X.env.qual ++ "<lambda>") TT)
    (TB : LamX.TabB X.base X.mg c P) (hcode : X.env.code = .ref c) (hmT : (P, X.env.qual ++ "<lambda>") ∈ T) (hu : ∀ p ∈ T, p.1 = P → p.2 = X.env.qual ++ "<lambda>") (hr : Room (k + 2) X.A) (L : LamX.LamS X.env.scope scope) (hdef : defaultsOf params X.env = ([], []))
    (hbind : ∀ (q : Str) (cl : List (Str × Addr)) (pm cv ctv : Value), bindArgs (PySem.W.kla_fn "<lambda>" q params body scope cl pm cv ctv) ⟨[], []⟩ = pure [])
    (hbody : ∀ (A : Around) (outer : List Env) (s : Shared) (H : Hp) (E : XK) (f c' : Addr), Room k (A.deeper (LamX.lamEnv X scope s.heap.objs.size f c')) → PE (LamX.lamCx X A outer s H E scope f c') body (t E))
    (hdb : (x == ("__debug__" : Str)) = false := by decide) (hd : (a == ("__debug__" : Str)) = false := by decide) (hcd : (a == ("__classdict__" : Str)) = false := by decide) :
    PE X (.Call (.Name x p) [.Lambda params body scope lpos] [] pos) (LamX.tLam T TT t) := by
  refine ⟨fun pins s σ H Q I h => ?_⟩
  obtain ⟨hT, h⟩ := h
  refine wpAny_Call_Name_kw (ld_glob I hg hm ?_ hdb)
  refine PySem.W.callWith_K (h₀ := X.base) I.ok.mod.kin hk ?_ (by rfl) (by rfl)
  show wpAny _ _ (spliced ((false, eval (.Lambda params body scope lpos) X.env) :: backTo pos (starEach [] X.env))) _ _ s
  refine Calls.spliced_cons (LamX.lam_make2 I TB hcode hmT hu hT hdef (L.has I.ok) fun f c' pm' ctv H1 s' I1 eN T1 hf hfn hfr hco => ?_)
  refine Calls.spliced_nil ⟨I1.kIn, ?_⟩
  have rc : codeAny (model X.prog X.w) X.A (.call (.ref g) ⟨[.ref f], []⟩) (CR C8.CX0 X.stack X.prog X.w H1 s' Q C8.E0) s' := by
    refine LamX.run_ofS (N := Ng) (ps := [a]) (us := [.ref f]) (vs := [.ref f]) lk hcg Sg hr I1.env0 (hb s' [.ref f] I1.kIn rfl) (.cons rfl .nil) rfl fun hr' => ?_
    obtain ⟨t', ht', hq'⟩ := hG f c' s' H1 Q (fun E H' Q' => t E σ H' Q') (fun W pn xe p1 p2 tk => pe_actS (i := 0) I1 L hf hfn hfr (hbind _ _ _ _ _) tk hr' (fun E A outer s H hr2 => hbody A outer s H E f c' hr2) hNg hva hd hcd) hco (h H1 eN T1)
    exact ⟨t', ht'.nox, hq'⟩
  refine wpAny_call (codeAny_mono rc fun r s2 hq => ?_)
  cases r with
  | error e => exact (show False from hq).elim
  | ok fl =>
    cases fl with
    | ret u => exact I1.after hq
    | next => exact False.elim hq
    | brk => exact False.elim hq
    | cont => exact False.elim hq
end
section
variable {X : Cx} {c : Cfg} {x a : Str} {gd cc P : Addr} {k : Nat} {st : Stmt} {fd : FuncData} {Ng : List Str}
    {params : Arguments} {body : Expr} {scope : Scope} {p lpos pos : Pos} {caps : List Nat} {fe : EF} {fh : HFn}
theorem de_lam (hg : Gl X x) (hm : X.mg x = some (.ref gd)) (Fh : L2.Fun X.K x x st gd fd) (hb : L2.Binds X.K fd [a] []) (Sg : FnScope Ng [a] (defScope st)) (hNg : Ng[0]? = some a) (hva : Vis (defScope st) a)
    (hG : ∀ cdv, GivesS X Ng x (defScope st) gd cdv (defBody st) a (X.env.qual ++ "<lambda>") (TTh c.g fh))
    (TB : LamX.TabB X.base X.mg cc P) (hcode : X.env.code = .ref cc) (hmT : (P, X.env.qual ++ "<lambda>") ∈ c.g.tb) (hu : ∀ p ∈ c.g.tb, p.1 = P → p.2 = X.env.qual ++ "<lambda>") (hr : Room (k + 2) X.A) (L : LamX.LamS X.env.scope scope) (hdef : defaultsOf params X.env = ([], []))
    (hbind : ∀ (q : Str) (cl : List (Str × Addr)) (pm cv ctv : Value), bindArgs (PySem.W.kla_fn "<lambda>" q params body scope cl pm cv ctv) ⟨[], []⟩ = pure [])
    (hbody : ∀ (A : Around) (outer : List Env) (s : Shared) (H : Hp) (E : XK) (f c' : Addr) (B : Bs), Room k (A.deeper (LamX.lamEnv X scope s.heap.objs.size f c')) → PE (LamX.lamCx X A outer s H E scope f c') body (rdE ⟨c.g, B, fun _ => E⟩ fe))
    (hdb : (x == ("__debug__" : Str)) = false := by decide) (hd : (a == ("__debug__" : Str)) = false := by decide) (hcd : (a == ("__classdict__" : Str)) = false := by decide) :
    PE X (.Call (.Name x p) [.Lambda params body scope lpos] [] pos) (rdE c (lamF caps fe fh)) := by
  obtain ⟨oc, od, kV, doc, pm, an, cdv, ct, osl, rfl, lk, hcg⟩ := Fh.ex
  refine PE.imp (pe_lamcallS (T := c.g.tb) (TT := TTh c.g fh) (t := fun E σ H Q => ∃ B, rdE ⟨c.g, B, fun _ => E⟩ fe σ H Q) hg hm Fh.kp lk hcg hb Sg hNg hva (hG cdv) TB hcode hmT hu hr L hdef hbind
    (fun A outer s H E f c' hr2 => ⟨fun pins s2 σ H2 Q I h => (let ⟨B, h⟩ := h; (hbody A outer s H E f c' B hr2).run pins s2 σ H2 Q I h)⟩) hdb hd hcd) fun σ H Q q => ?_
  obtain ⟨τ, F, S, A, q⟩ := q
  unfold lamF at q
  split at q
  · rename_i S1 e1
    obtain ⟨F1, s1, A1⟩ := frzs_ok A e1
    refine ⟨A.a.ext.tabs, fun H1 eN t1 => ?_⟩
    have A2 := A1.extN eN t1
    refine ⟨F1, S1.nb, askOf fe S1.lo, A2.a.fh, A2.a.fn, A2.a.nib, t1, A2.a.ext.nt, fun F' H' n' ps E Q' so => ?_, ?_⟩
    · have A3 := (ps.abs A2).seen E
      refine ⟨_, [], F', _, A3, ?_⟩
      unfold askOf at so
      have so : spOut c.g F' H' Q' E (askEnd (fe ⟨S1.lo.map noOw, [], n'⟩)) := so
      show rOut _ F' σ [] _ (fe ⟨S1.lo.map noOw, [], n'⟩)
      cases e : fe ⟨S1.lo.map noOw, [], n'⟩ with
      | ok x S' =>
        rw [e] at so
        intro H3 F3 s3 v A4
        cases x with
        | fu => exact so.elim
        | no => exact so (fun z => nomatch z) v F3 H3 A4.pop.post A4.as.top
        | sh t => exact so (fun z => nomatch z) v F3 H3 A4.pop.post A4.as.top
        | ow t => exact so (fun z => nomatch z) v F3 H3 A4.pop.post A4.as.top
      | exc ex S' =>
        rw [e] at so
        exact fun cls d H3 F3 s3 A4 er => so cls d F3 H3 A4.post er
      | stuck => rw [e] at so; exact so.elim
    · cases e : fh (askOf fe S1.lo) S1.nb with
      | ok x n =>
        rw [e] at q
        exact fun nf v F' H' ps r => q H' F' (s1.trans ps.sF) v (ps.res A2 nf r)
      | exc ex n => rw [e] at q; exact q.elim
      | stuck => rw [e] at q; exact q.elim
  · exact q.elim
end
section
variable {X Y : Cx} {c : Cfg}
/-- x(), x what was handed in at f -/
theorem de_ask {e : Expr} {f c' : Addr} {q : Str} {tl : XK → Hp → VK → Prop} {ask : Nib → FR} {W : WX} (h : PE Y e (fun σZ HZ Q => σZ[0]? = some (some (.ref f)) ∧ HZ c' = some (LamX.CodeO c' q) ∧ tl (fun cls d H => W cls d σZ H) HZ Q))
    (hc : c.B.H c' = some (LamX.CodeO c' q)) (hn : c' ≠ c.g.nb) (hfv : c.B.fv = .ref f) (hE : c.E = fun σ cls d H => W cls d σ H)
    (ht : ∀ F' H' n', Post c.g c.B.F c.B.H F' H' n' → ∀ (E : XK) (Q' : VK), spOut c.g F' H' Q' E (ask n') → tl E H' Q') : PE Y e (rdE c (askF 0 ask)) := by
  refine PE.imp h fun σ H Q q => ?_
  obtain ⟨τ, F, S, A, q1⟩ := q
  unfold askF at q1
  split at q1
  · rename_i e0
    obtain ⟨o, h1, h2⟩ := A.slot e0
    have h2 : o = some c.B.fv := h2
    rw [hfv] at h2
    subst h2
    have hp : Post c.g c.B.F c.B.H F H S.nb := ⟨A.a.ext.bs, A.a.fh, A.a.fn, A.a.nib, A.a.keep, A.a.ext.tabs, A.a.fre, A.a.ext.nt, A.a.ext.cel⟩
    have hcH : H c' = some (LamX.CodeO c' q) := A.a.keep _ _ hc (fun ps z => by unfold LamX.CodeO at z; cases z) hn
    refine ⟨h1, hcH, ht F H S.nb hp _ Q ?_⟩
    cases e : ask S.nb with
    | ok x n =>
      rw [e] at q1
      exact fun nf v F' H' p r => q1 H' F' p.sF v (p.res A nf r)
    | exc ex n =>
      rw [e] at q1
      intro cls d F' H' p r
      have := q1 cls d H' F' p.sF (p.abs A) (r.up A)
      rw [hE] at this
      exact this
    | stuck => rw [e] at q1; exact q1.elim
  · exact q1.elim
end
def hFn (n : Nat) (bh : (Nib → FR) → SF) : HFn := fun ask nb => fnEnd (bh ask ⟨.fu :: List.replicate (n - 1) .no, [], nb⟩)
/-- a def that gets the lambda, by its body's reading -/
theorem heard_gives {X : Cx} {g : Ga} {N : List Str} {x a q : Str} {sg : Scope} {gd : Addr} {cdg : Value} {bg : List Stmt} {bh : (Nib → FR) → SF} (hN : N.length = N.length - 1 + 1)
    (hb : ∀ (ask : Nib → FR) (f c' : Addr) (s : Shared) (H F : Hp) (tl : XK → Hp → VK → Prop),
      (∀ (W : WX) (pn : List (Addr × Obj)) (xe : Value → Shared → Prop) (p1 p2 : Pos), Takes ((cxOf C8.CX0 X.prog X.w X.K X.mg X.base N x sg gd cdg X.A X.stack s H C8.E0).tr pn xe) W →
        PE ((cxOf C8.CX0 X.prog X.w X.K X.mg X.base N x sg gd cdg X.A X.stack s H C8.E0).tr pn xe) (.Call (.Name a p1) [] [] p2) (fun σZ HZ Q => σZ[0]? = some (some (.ref f)) ∧ HZ c' = some (LamX.CodeO c' q) ∧ tl (fun cls d H => W cls d σZ H) HZ Q)) →
      H c' = some (LamX.CodeO c' q) → c' ≠ g.nb → (∀ F' H' n', Post g F H F' H' n' → ∀ (E : XK) (Q' : VK), spOut g F' H' Q' E (ask n') → tl E H' Q') →
      PSs (cxOf C8.CX0 X.prog X.w X.K X.mg X.base N x sg gd cdg X.A X.stack s H C8.E0).nox bg (rdS ⟨g, ⟨H, F, .ref f⟩, fun _ _ _ _ => False⟩ (bh ask))) :
    GivesS X N x sg gd cdg bg a q (TTh g (hFn N.length bh)) := by
  intro f c' s H Q tl act hc h
  obtain ⟨F, n, ask, sF, fn, nib, tabs, nt, ht, so⟩ := h
  have hn : c' ≠ g.nb := fun z => by
    obtain ⟨cc, n1, _⟩ := nib
    rw [← z, hc] at n1
    have n1 := Option.some.inj n1
    unfold LamX.CodeO at n1
    cases n1
  refine ⟨_, hb ask f c' s H F tl act hc hn ht, F, ⟨.fu :: List.replicate (N.length - 1) .no, [], n⟩, ?_, ?_⟩
  · have e : start N [V.ref f] = some (.ref f) :: List.replicate (N.length - 1) none := by
      show [V.ref f].map some ++ List.replicate (N.length - 1) none = _
      rfl
    rw [e]
    refine ⟨⟨sF, fn, nib, fun _ _ h _ _ => h, fun _ _ _ _ h => h, ⟨Same.refl F, nt, tabs, CelS.refl H⟩, ?_, fun i s o h1 h2 => ?_, fun i j t u b h1 _ _ _ => ?_⟩, ?_⟩
    · show ((Slot.fu :: List.replicate (N.length - 1) Slot.no) ++ []).length = _
      simp
    · have h1 : ((Slot.fu :: List.replicate (N.length - 1) Slot.no) ++ [])[i]? = some s := h1
      rw [List.append_nil] at h1 h2
      match i, h1, h2 with
      | 0, h1, h2 => cases h1; cases h2; rfl
      | i + 1, h1, h2 =>
        have h1 : (List.replicate (N.length - 1) Slot.no)[i]? = some s := h1
        have := List.mem_of_getElem? h1
        rw [List.mem_replicate] at this
        rw [this.2]
        trivial
    · have h1 : ((Slot.fu :: List.replicate (N.length - 1) Slot.no) ++ [])[i]? = some (.ow t) := h1
      rw [List.append_nil] at h1
      match i, h1 with
      | 0, h1 => cases h1
      | i + 1, h1 =>
        have h1 : (List.replicate (N.length - 1) Slot.no)[i]? = some (.ow t) := h1
        have := List.mem_of_getElem? h1
        rw [List.mem_replicate] at this
        cases this.2
    · simp
  · unfold hFn at so
    cases e : bh ask ⟨.fu :: List.replicate (N.length - 1) .no, [], n⟩ with
    | ok fl S1 =>
      rw [e] at so
      intro H' F' s2
      cases fl with
      | nx => exact fun σ' A' => so (fun z => nomatch z) .non F' H' A'.post ⟨.non, rfl, .non⟩
      | rt x =>
        refine fun v σ' A' => ?_
        have A2 : AbsX ⟨g, ⟨H, F, .ref f⟩, fun _ _ _ _ => False⟩ F' (S1.push x) σ' ([] ++ [some v]) H' := A'
        cases x with
        | fu => exact so.elim
        | no => exact so (fun z => nomatch z) v F' H' A2.pop.post (A2.as.top)
        | sh t => exact so (fun z => nomatch z) v F' H' A2.pop.post A2.as.top
        | ow t => exact so (fun z => nomatch z) v F' H' A2.pop.post A2.as.top
      | bk => exact so.elim
      | ct => exact so.elim
    | exc ex S1 =>
      rw [e] at so
      exact fun cls d σ' H' F' s2 A' er => so cls d F' H' A'.post er
    | stuck => rw [e] at so; exact so.elim
/-- a def whose code object is known (it makes lambdas) -/
structure FunC (K : PySem.W.Frag) (x qual : Str) (st : Stmt) (f : Addr) (fd : FuncData) (cc : Addr) : Prop where
  ex : ∃ (oc : Value) (od : Option Addr) (kV doc pm : Value) (an : Option Addr) (ct : Value) (osl : Array (Option Value)),
    fd = PySem.W.fnOf x qual (defArgs st) (defBody st) (defScope st) .none kV doc pm an (.ref cc) ct ∧ K.lookup f = some ⟨oc, od, .func fd, osl⟩ ∧ PySem.W.codeIn K (.ref cc) qual = true
theorem funC_mk {K : PySem.W.Frag} {x qual : Str} {st : Stmt} {f cc : Addr} {kV doc pm ct oc : Value} {an od : Option Addr} {osl : Array (Option Value)} (lk : K.lookup f = some ⟨oc, od, .func (PySem.W.fnOf x qual (defArgs st) (defBody st) (defScope st) .none kV doc pm an (.ref cc) ct), osl⟩) (hcd : PySem.W.codeIn K (.ref cc) qual = true) :
    FunC K x qual st f (PySem.W.fnOf x qual (defArgs st) (defBody st) (defScope st) .none kV doc pm an (.ref cc) ct) cc := ⟨_, _, _, _, _, _, _, _, rfl, lk, hcd⟩
section
variable {P : Program} {w : World} {K : PySem.W.Frag} {mg : Str → Option Value} {base : Heap}
theorem FunC.okX {x qual : Str} {st : Stmt} {f cc : Addr} {fd : FuncData} {N ps : List Str} {k : Nat} {sp : Sp} (F : FunC K x qual st f fd cc) (S : FnScope N ps (defScope st)) (len : ∀ vs H Q E, sp vs H Q E → vs.length = ps.length)
    (hbody : ∀ (A : Around) (outer : List Env) (s : Shared) (H : Hp) (vs : List V) (Q : VK) (E : XK), Room k (A.deeper (envOfC qual (defScope st) s.heap.objs.size f (.ref cc))) → sp vs H Q E →
      ∃ t, PSs (cxOf (L2.CX P w) P w K mg base N qual (defScope st) f (.ref cc) A outer s H E) (defBody st) t ∧ t { nx := fun _ H' => Q .non H', rt := Q } (start N vs) H) : FnOk P w K mg base (L2.CX P w) (k + 1) f fd ps sp := by
  obtain ⟨oc, od, kV, doc, pm, an, ct, osl, rfl, lk, hcd⟩ := F.ex
  exact fn_of lk hcd S len fun A outer s H vs Q E hr hsp => hbody A outer s H vs Q E hr hsp
theorem body_run {g : Ga} {X : Cx} {N : List Str} {bd : List Stmt} {b : SF} {vs : List V} {H F : Hp} {Q : VK} {E : XK} {ts : List T} {n : Nib} (hb : PSs X bd (rdS ⟨g, ⟨H, F, .non⟩, fun _ => E⟩ b)) (hl : RepAll g F vs ts) (s1 : Same F H) (fn : F g.nb = none) (nb : NibRel g F H n) (tb : LamX.Tabs g.tb H) (nt : ∀ a o, F a = some o → NT o)
    (q : spOut g F H Q E (fnOf N.length b ts n)) : ∃ t, PSs X bd t ∧ t { nx := fun _ H' => Q .non H', rt := Q } (start N vs) H := by
  refine ⟨_, hb, F, sta0 N.length ts n, sta0_abs hl s1 fn nb tb nt, ?_⟩
  unfold fnOf at q
  cases e : b (sta0 N.length ts n) with
  | ok fl S1 =>
    rw [e] at q
    intro H' F' s2
    cases fl with
    | nx => exact fun σ' A' => q (fun z => nomatch z) .non F' H' A'.post ⟨.non, rfl, .non⟩
    | rt x =>
      refine fun v σ' A' => ?_
      have A2 : AbsX ⟨g, ⟨H, F, .non⟩, fun _ => E⟩ F' (S1.push x) σ' ([] ++ [some v]) H' := A'
      cases x with
      | fu => exact q.elim
      | no => exact q (fun z => nomatch z) v F' H' A2.pop.post A2.as.top
      | sh t => exact q (fun z => nomatch z) v F' H' A2.pop.post A2.as.top
      | ow t => exact q (fun z => nomatch z) v F' H' A2.pop.post A2.as.top
    | bk => exact q.elim
    | ct => exact q.elim
  | exc ex S1 =>
    rw [e] at q
    exact fun cls d σ' H' F' s2 A' er => q cls d F' H' A'.post er
  | stuck => rw [e] at q; exact q.elim
/-- a def that makes lambdas, by its body's reading -/
theorem fn_okC {g : Ga} {x qual : Str} {st : Stmt} {f cc : Addr} {fd : FuncData} {N ps : List Str} {k : Nat} {b : SF} (Fu : FunC K x qual st f fd cc) (S : FnScope N ps (defScope st))
    (hb : ∀ (A : Around) (outer : List Env) (s : Shared) (H F0 : Hp) (E : XK), Room k (A.deeper (envOfC qual (defScope st) s.heap.objs.size f (.ref cc))) →
      PSs (cxOf (L2.CX P w) P w K mg base N qual (defScope st) f (.ref cc) A outer s H E) (defBody st) (rdS ⟨g, ⟨H, F0, .non⟩, fun _ => E⟩ b)) : FnOk P w K mg base (L2.CX P w) (k + 1) f fd ps (spT g ps.length (fnOf N.length b)) := by
  refine Fu.okX S (fun vs H Q E h => ?_) (fun A outer s H vs Q E hr h => ?_)
  · obtain ⟨F, ts, n, hl, r, _⟩ := h
    rw [r.length, hl]
  · obtain ⟨F, ts, n, hl, r, s1, fn, nb, tb, nt, q⟩ := h
    exact body_run (hb A outer s H F E hr) r s1 fn nb tb nt q
end
end TL

end
section
set_option Elab.async false
set_option linter.all false
set_option maxRecDepth 100000
set_option autoImplicit false
set_option maxHeartbeats 2000000
/-! TL18: the law's head with tables of code objects; what the written part says of error classes -/
open PySem PySem.Spec PyProof.Rows L2
namespace TL
/-- each def's table of code objects is empty at the start -/
def Tabs0 (q : Program) (K : PySem.W.Frag) (h : Heap) : Prop := ∀ (x : Str) (c P : Addr), ((recsOf q).any fun e => e.name == x) = true → PySem.W.tabIn K x = some (c, P) → PySem.W.CodeHd h c P ∧ h.get? P = some { cls := .none, data := .fields #[] }
theorem walk_ofTabs {l : PySem.W.OpenLaw} {n k : Nat} {q : Program} {loose : List Str} {XP : (Str → Option Value) → Heap → Prop} {YP : World → Heap → Prop} {d : DefRec} {K : Params → PySem.W.Frag} {CX : World → CXT} {x : Str}
    (hn : l.most = some n) (hn2 : n ≤ sizeLine) (hdf : d.params.defaults = []) (hr : Room k callerA) (hY : ∀ (w : World) (h : Heap), YP w h → (K w.params).In h)
    (F : ∀ (w : World) (mg : Str → Option Value) (fa : Addr) (h : Heap), YP w h → (K w.params).In h → h.Ns mainGlobals mg → mg d.name = some (.ref fa) → Tabs0 q (K w.params) h → LamX.LawAtS l w (K w.params) (CX w) k n x mg fa h)
    (hCX : ∀ (w : World) (H : Hp) (s : Shared) (e : Value) (s' : Shared), CX w [] H s (fun _ _ _ => False) e s' → False) :
    PySem.W.WalkO q loose XP YP l.row.toRowW d [] (fun f vs => PySem.call f vs) := by
  refine Att.attach_callB hn hdf fun w s₀ s₁ mg mb fa o pm cd doc a vs ns G Y ho hd hcd hmg hobj hints hlen hbits hg => ?_
  have KX := hY w _ Y
  have own : Tabs0 q (K w.params) s₁.heap := fun x c P hm ht => by
    obtain ⟨dL, hm1, hn1⟩ := List.any_eq_true.mp hm
    have hf : ∃ d, (recsOf q).find? (fun e => e.name == x) = some d := by
      cases e : (recsOf q).find? (fun e => e.name == x) with
      | some d => exact ⟨d, rfl⟩
      | none => exact absurd hn1 (List.find?_eq_none.mp e dL hm1)
    obtain ⟨d, hd⟩ := hf
    exact PySem.W.tab_of G.T KX hd ht
  obtain ⟨fd, cs, sp, hT, nT, C, hb, hsp, hF⟩ := F w mg fa _ Y KX G.T.g hmg own
  exact LamX.law_callTs KX G.T.g G.T.b G.T.builtins G.T.nolimit hg hT nT C G.T.bmain hobj hints (Nat.le_trans hlen hn2) hr hF hb (fun H hH hS => hsp H a ns hlen hbits hH hS) fun H e s' => hCX w H s₁ e s'
/-- where a def's table stands -/
theorem tabIn_of {K : PySem.W.Frag} {x qual : Str} {f cc P : Addr} {params : Arguments} {body : List Stmt} {scope : Scope} {dV kV doc pm ct oc oc2 : Value} {an od od2 : Option Addr} {osl sl2 : Array (Option Value)} {vs : Array Value} (a : PySem.W.nsIn K mainGlobals x = some (some (.ref f))) (lk : K.lookup f = some ⟨oc, od, .func (PySem.W.fnOf x qual params body scope dV kV doc pm an (.ref cc) ct), osl⟩)
    (l2 : K.lookup cc = some ⟨oc2, od2, .fields vs, sl2⟩) (h : vs[11]? = some (.ref P)) : PySem.W.tabIn K x = some (cc, P) := by
  unfold PySem.W.tabIn
  rw [a]
  dsimp only
  rw [lk]
  dsimp only
  rw [l2]
  dsimp only
  rw [h]
/-! error classes -/
theorem oex_mk {K : PySem.W.Frag} {C : Addr} {nm q : Str} {N : Addr} {bs bm : List Value} {sn : List Str} {sub : List Value} {ab : Bool} {col : Option Bool} {dd : Option Addr} {m0 m1 m2 m3 m5 : Option Value} (xL : K.lookup C = some (excClassObj nm q C N bs bm true sn sub ab col dd m0 m1 m2 m3 m5 "ValueError.__new__")) (hbm : PySem.HandSPX.refsVE bm = true)
    (sa : PySem.W.findIn K (.ref C) "__setattr__" = some (some (.builtin "object.__setattr__"))) (eC : PySem.W.subIn K (.ref C) (.type "BaseException") = some true) (tC : PySem.W.typeIn K (.ref C) = some (.type "type")) (kC : PySem.W.keepIn K (.ref C) = true) : OexC K C :=
  ⟨⟨nm, q, N, bs, bm, sn, sub, ab, col, dd, m0, m1, m2, m3, m5, xL, hbm⟩, sa, eC, tC, kC⟩
section
variable {K : PySem.W.Frag} {C D : Addr} {b : Bool}
theorem kitC_of (hd : PySem.W.hasDictIn K D = true) (tD : PySem.W.typeIn K (.ref D) = some (.type "type")) {t : Value} (s : PySem.W.subIn K t (.ref D) = some b) : PySem.W.kitCls K t (.ref D) = some b := by
  obtain ⟨cd, hc, _⟩ := PySem.W.any_some hd
  unfold PySem.W.kitCls
  dsimp only
  rw [if_pos (by rw [hc, tD]; rfl)]
  exact s
/-- an error's class against a class -/
theorem kit_own (hd : PySem.W.hasDictIn K D = true) (tD : PySem.W.typeIn K (.ref D) = some (.type "type")) (s0 : PySem.W.subIn K (.ref D) (.ref D) = some true) (s : PySem.W.subIn K (.ref C) (.ref D) = some b) : PySem.W.kitOne K (.ref C) (.ref D) = some b := by
  unfold PySem.W.kitOne
  by_cases h : C = D
  · subst h
    rw [s] at s0
    cases s0
    rw [if_pos (by simp)]
  · rw [if_neg (by simpa using h)]
    exact kitC_of hd tD s
/-- a built-in type against a class -/
theorem kit_ty2 (hd : PySem.W.hasDictIn K D = true) (tD : PySem.W.typeIn K (.ref D) = some (.type "type")) {n : String} (s : PySem.W.subIn K (.type n) (.ref D) = some b) : PySem.W.kitOne K (.type n) (.ref D) = some b := by
  unfold PySem.W.kitOne
  rw [if_neg (by simp)]
  exact kitC_of hd tD s
theorem exm_own (eD : PySem.W.subIn K (.ref D) (.type "BaseException") = some true) (hd : PySem.W.hasDictIn K D = true) (tD : PySem.W.typeIn K (.ref D) = some (.type "type")) (s : PySem.W.subIn K (.ref C) (.ref D) = some b) : PySem.W.exmOne K (.ref C) (.ref D) = some b := by
  unfold PySem.W.exmOne
  rw [if_pos (by rw [eD]; rfl)]
  exact kitC_of hd tD s
theorem kitAny1 {t u : Value} (h : PySem.W.kitOne K t u = some b) : PySem.W.kitAny K t [u] = some b := by
  unfold PySem.W.kitAny
  rw [h]
  cases b <;> rfl
theorem kitAny2 {t u : Value} {us : List Value} {b2 : Bool} (h : PySem.W.kitOne K t u = some b) (h2 : PySem.W.kitAny K t us = some b2) : PySem.W.kitAny K t (u :: us) = some (b || b2) := by
  unfold PySem.W.kitAny
  rw [h]
  cases b with
  | true => rfl
  | false => exact h2
end
end TL

end
section
set_option Elab.async false
set_option linter.all false
set_option maxRecDepth 100000
set_option autoImplicit false
set_option maxHeartbeats 2000000
/-! TL19: star items, {}, sorted(set(..)), three names at once, blocks within blocks -/
open PySem PySem.Spec PyProof.Rows L2
namespace TL
theorem lookup_relabel {env : Env} {x : Str} {k : NameKind} (hk : k = .cell ∨ k = .free) : ∀ {names : List (Str × NameKind)}, names.lookup x = some k →
    (names.map fun (n, k) => if (k == NameKind.free && env.scope.kind == .function && env.kindOf n == some .cell) then (n, NameKind.cell) else (n, k)).lookup x = some .cell ∨
    (names.map fun (n, k) => if (k == NameKind.free && env.scope.kind == .function && env.kindOf n == some .cell) then (n, NameKind.cell) else (n, k)).lookup x = some .free
  | [], h => by simp at h
  | (n, j) :: r, h => by
    rw [List.map_cons, List.lookup_cons]
    rw [List.lookup_cons] at h
    have e1 : (if (j == NameKind.free && env.scope.kind == .function && env.kindOf n == some .cell) = true then (n, NameKind.cell) else (n, j)).1 = n := by split <;> rfl
    simp only [e1]
    cases hx : x == n with
    | true =>
      rw [hx] at h
      cases h
      simp only
      split
      · exact .inl rfl
      · rcases hk with e | e
        · exact .inl (congrArg some e)
        · exact .inr (congrArg some e)
    | false =>
      rw [hx] at h
      simp only at h ⊢
      exact lookup_relabel hk h
theorem blkOk_in {N : List Str} {sc0 scope : Scope} {env : Env} {own : List (Str × Nat)} (h : blkC N sc0 scope own = true) : BlkOk N (relabel sc0 env) scope own := by
  have b := blkOk_by h
  refine ⟨b.kind, b.uniq, b.ix, fun y hy e => ?_, b.own⟩
  rcases b.free y hy e with q | q
  · exact lookup_relabel (.inl rfl) q
  · exact lookup_relabel (.inr rfl) q

section
variable {X : Cx} {c : Cfg} {e a b : Expr} {es : List Expr} {pos : Pos}
/-- {} -/
def dicF : EF := fun S => .ok (.ow (.dic [])) S
theorem de_dnew : PE X (.Dict [] [] pos) (rdE c dicF) := by
  refine PE.imp pe_dnewK fun σ H Q q => ?_
  obtain ⟨τ, F, S, A, q⟩ := q
  intro p np
  exact q _ F (Same.refl F) (.ref p) (A.newOw (.dic .nil) np)
/-- *e among the items -/
def starA (f : OF) (r : AF) : AF := fun S => (f S).bind fun o S1 => match o with
  | .val (.lst ts) => (r S1).bind fun os S2 => .ok (ts.map Opd.val ++ os) S2
  | .val (.tup ts) => (r S1).bind fun os S2 => .ok (ts.map Opd.val ++ os) S2
  | _ => .stuck
theorem opds_app {g : Ga} {F : Hp} {σ : List (Option V)} {os : List Opd} {ws : List V} (h : OpdAll g F σ os ws) : ∀ {vs : List V} {ts : List T}, RepAll g F vs ts → OpdAll g F σ (ts.map Opd.val ++ os) (vs ++ ws)
  | _, _, .nil => h
  | _, _, .cons r q => .cons r (opds_app h q)
theorem da_star {f : OF} {r : AF} {p : Pos} (hK : c.g.K = X.K) (h : PE X e (rdO c f)) (hr : PA X es (rdA c r)) (hs : starEach (.Starred e p :: es) X.env = (true, eval e X.env) :: starEach es X.env := by rfl) : PA X (.Starred e p :: es) (rdA c (starA f r)) := by
  refine PA.imp (StX.pa_star h hr hs) fun σ H Q q => ?_
  obtain ⟨τ, F, S, A, q⟩ := q
  refine ⟨τ, F, S, A, rOut.bind q fun o S1 F1 H1 s1 q1 v A1 r1 => ?_⟩
  split at q1
  · cases r1 with
    | lst e1 r =>
      exact ⟨_, _, rfl, .inr (.inl (.inl (A1.a.fh _ _ e1))), τ, F1, S1, A1, rOut.bind q1 fun os S2 F2 H2 s2 q2 vs A2 r2 => q2 H2 F2 (Same.refl F2) _ A2 (opds_app r2 (r.mono s2))⟩
  · cases r1 with
    | tup e1 r =>
      exact ⟨_, _, rfl, .inl (hK ▸ sameSqT A1.a.fh e1.sq), τ, F1, S1, A1, rOut.bind q1 fun os S2 F2 H2 s2 q2 vs A2 r2 => q2 H2 F2 (Same.refl F2) _ A2 (opds_app r2 (r.mono s2))⟩
  · exact q1.elim
/-- set(t), t a tuple of integers -/
def rSetT (K : PySem.W.Frag) (w : World) : List V → Hp → VK → Prop := fun xs H Q => ∃ (a : Addr) (ns : List Int), xs = [.ref a] ∧ SqT K H a (ns.map V.int) ∧ ns.length + 1 < scanBound ∧
  ∀ p n, H p = none → n ≤ ns.length → Q (.ref p) (upd H p (SetO w p (fun j => decide (j ∈ ns)) n))
theorem cr_setT (hc : X.calm = true) : CallR X (.type "set") (rSetT X.K X.w) := by
  intro pins s σ H xs us Q I r h
  obtain ⟨a, ns, rfl, hs, hb, q⟩ := h
  obtain ⟨u, rfl, rx⟩ := vals1 r
  cases rx
  obtain ⟨its, r', ht, hz⟩ := I.tuple hs
  refine call_set_tupI ns (I.ok.hd hc) ht (ints_of_vals r') hb fun h' tk c R hc' kp => ?_
  have hn : H s.heap.objs.size = none := I.hok.fresh (Nat.le_refl _)
  exact ⟨.ref _, _, I.laid (a := s.heap.objs.size) (t' := tk) kp (Nat.le_refl _) (setO_new R), rfl, q _ _ hn hc'⟩
theorem set_count {ns ms : List Int} (h1 : ms.Pairwise (· < ·)) (h2 : ∀ k : Int, k ∈ ms ↔ decide (k ∈ ns) = true) : ms = sortI ms ∧ ∀ k, k ∈ ms ↔ k ∈ ns := ⟨PySem.W.os_sorted_one (sortI_perm ms).symm (h1.imp fun h => Int.le_of_lt h) (sortI_pw ms), fun k => (h2 k).trans decide_eq_true_iff⟩
def dedup : List Int → List Int
  | [] => []
  | x :: xs => if x ∈ dedup xs then dedup xs else x :: dedup xs
theorem dedup_mem (k : Int) : ∀ xs : List Int, k ∈ dedup xs ↔ k ∈ xs
  | [] => Iff.rfl
  | x :: xs => by
    unfold dedup
    split
    · rename_i h
      rw [dedup_mem k xs, List.mem_cons]
      refine ⟨.inr, fun z => ?_⟩
      rcases z with z | z
      · rw [z]; exact (dedup_mem x xs).mp h
      · exact z
    · rw [List.mem_cons, List.mem_cons, dedup_mem k xs]
theorem dedup_nd : ∀ xs : List Int, (dedup xs).Nodup
  | [] => List.nodup_nil
  | x :: xs => by
    unfold dedup
    split
    · exact dedup_nd xs
    · rename_i h
      exact List.nodup_cons.mpr ⟨h, dedup_nd xs⟩
def sortSetN : List T → Option Slot
  | [.tup ts] => (intsT ts).bind fun ns => if ns.length < 60 then some (.ow (.lst ((sortI (dedup ns)).map T.int))) else none
  | _ => none
theorem sort_set {ns ms : List Int} (h1 : ms.Pairwise (· < ·)) (h2 : ∀ k : Int, k ∈ ms ↔ decide (k ∈ ns) = true) : ms = sortI (dedup ns) := by
  have nd : ms.Nodup := h1.imp fun h e => by omega
  have pm : ms.Perm (dedup ns) := (List.perm_ext_iff_of_nodup nd (dedup_nd ns)).mpr fun k => by rw [dedup_mem, h2, decide_eq_true_iff]
  exact PySem.W.os_sorted_one (pm.trans (sortI_perm _).symm) (h1.imp fun h => Int.le_of_lt h) (sortI_pw _)
theorem de_sortSet {fa : AF} {p1 p2 pos2 : Pos} (hK : c.g.K = X.K) (hc : X.calm = true) (hg : Gl X "sorted") (hm : X.mg "sorted" = none) (hg2 : Gl X "set") (hm2 : X.mg "set" = none) (ha : PA X [e] (rdA c fa)) (he : starEach [e] X.env = [(false, eval e X.env)] := by rfl)
    (he2 : starEach [.Call (.Name "set" p2) [e] [] pos2] X.env = [(false, eval (.Call (.Name "set" p2) [e] [] pos2) X.env)] := by rfl) :
    PE X (.Call (.Name "sorted" p1) [.Call (.Name "set" p2) [e] [] pos2] [] pos) (rdE c (opN sortSetN fa)) := by
  refine PE.imp (pe_callB (cr_sortedSet hc) hg hm (by decide +kernel : bootBuiltins "sorted" = some (.builtin "sorted")) (pa_cons (pe_callTy (cr_setT hc) hg2 hm2 (by decide +kernel : bootBuiltins "set" = some (.type "set")) ha (by decide) (by decide) he) pa_nil he2) (by decide) (by decide) he2) fun σ H Q q => ?_
  have q := opN_out (r := fun xs H1 Q => ∃ (a : Addr) (ns : List Int), xs = [.ref a] ∧ SqT X.K H1 a (ns.map V.int) ∧ ns.length < 60 ∧ ∀ (p p' : Addr) (n : Nat), H1 p = none → (upd H1 p (SetO X.w p (fun j => decide (j ∈ ns)) n)) p' = none → Q (.ref p') (upd (upd H1 p (SetO X.w p (fun j => decide (j ∈ ns)) n)) p' (.lst ((sortI (dedup ns)).map V.int)))) (p := sortSetN) ?_ q
  · refine (?_ : ∀ (t : TA) (P1 P2 : List V → Hp → Prop), (∀ vs H, P1 vs H → P2 vs H) → t = rdA c fa → t σ H P1 → t σ H P2) _ _ _ (fun vs H1 h => ?_) rfl q
    · intro t P1 P2 h e1 h2
      subst e1
      obtain ⟨τ, F, S, A, q⟩ := h2
      refine ⟨τ, F, S, A, ?_⟩
      revert q
      cases fa S with
      | ok os S1 => exact fun q H' F' s vs A' r => h _ _ (q H' F' s vs A' r)
      | exc e S1 => exact id
      | stuck => exact id
    · obtain ⟨a, ns, rfl, hs, hl, k⟩ := h
      refine ⟨a, ns, rfl, hs, by have : scanBound > 100 := by decide
                                 omega, fun p n np hn => ⟨p, _, n, rfl, upd_same, by omega, fun ms p' h1 h2 h3 np' => ?_⟩⟩
      have := k p p' n np np'
      rw [sort_set h1 h2]
      exact this
  · intro F S σ τ H xs ts z Q A hx hz k
    unfold sortSetN at hz
    split at hz
    · obtain ⟨ns, h1, h2⟩ := Option.bind_eq_some_iff.mp hz
      split at h2
      · rename_i hl
        cases h2
        have e := intsT_of h1
        subst e
        obtain ⟨v, rfl, h⟩ := hx.one
        obtain ⟨p, vs, rfl, h3, r⟩ := h.tup A.a.fh
        rw [r.ints] at h3
        refine ⟨p, ns, rfl, hK ▸ h3, hl, fun p1 p2 n np np2 => ?_⟩
        have A1 : AbsX c F S σ τ (upd H p1 (SetO X.w p1 (fun j => decide (j ∈ ns)) n)) := A.st fun b u e => by
          rw [upd_ne (fun z => by rw [z, np] at e; cases e)]
          exact e
        exact fin_ow A1 k (.lst (RepAll.of_ints _)) np2
      · cases h2
    · cases hz
/-- x, y, z = a, b, c with plain local names -/
def par3F (i j l : Nat) (f g h : OF) : SF := fun S => (f S).bind fun o S1 => (g S1).bind fun o2 S2 => (h S2).bind fun o3 S3 => match o, o2, o3 with
  | .val t, .val u, .val v => if i < S3.lo.length ∧ j < S3.lo.length ∧ l < S3.lo.length then .ok .nx (((S3.put i (.sh t)).put j (.sh u)).put l (.sh v)) else .stuck
  | _, _, _ => .stuck
theorem ds_par3 {i j l : Nat} {x y z : Str} {d : Expr} {fa fb fd : OF} {px py pz pt : Pos} {kt k2 pt2} (hc : X.calm = true) (hN : X.N.Nodup) (hi : X.N[i]? = some x) (hj : X.N[j]? = some y) (hl : X.N[l]? = some z) (hij : i ≠ j) (hil : i ≠ l) (hjl : j ≠ l)
    (hx : X.env.scope.names.lookup x = some .local) (hy : X.env.scope.names.lookup y = some .local) (hz : X.env.scope.names.lookup z = some .local) (ha : PE X a (rdO c fa)) (hb : PE X b (rdO c fb)) (hd : PE X d (rdO c fd))
    (hw : swappedStores [.Tuple [.Name x px, .Name y py, .Name z pz] kt pt] (.Tuple [a, b, d] k2 pt2) X.env = pure (some [x, y, z]))
    (hs : swapsWithSole [.Tuple [.Name x px, .Name y py, .Name z pz] kt pt] (.Tuple [a, b, d] k2 pt2) pos.line X.env = pure false := by rfl)
    (s1 : starEach [a, b, d] X.env = (false, eval a X.env) :: starEach [b, d] X.env := by rfl) (s2 : starEach [b, d] X.env = (false, eval b X.env) :: starEach [d] X.env := by rfl) (s3 : starEach [d] X.env = (false, eval d X.env) :: starEach [] X.env := by rfl) :
    PS X (.Assign [.Tuple [.Name x px, .Name y py, .Name z pz] kt pt] (.Tuple [a, b, d] k2 pt2) pos) (rdS c (par3F i j l fa fb fd)) := by
  refine ps_imp (ps_par3 hc hN hi hj hl hij hil hjl hx hy hz (pa_cons ha (pa_cons hb (pa_cons hd pa_nil s3) s2) s1) hw hs) fun D σ H q => ?_
  obtain ⟨F, S, A, q⟩ := q
  refine ⟨[], F, S, A, sOut.bind q fun o S1 F1 H1 s1 q1 v A1 r1 => ⟨[], F1, S1, A1, sOut.bind q1 fun o2 S2 F2 H2 s2 q2 w A2 r2 => ⟨[], F2, S2, A2, sOut.bind q2 fun o3 S3 F3 H3 s3 q3 u A3 r3 => ?_⟩⟩⟩
  split at q3
  · split at q3
    · rename_i hh
      refine ⟨v, w, u, rfl, ?_⟩
      have l3 : S3.lo.length = σ.length := A3.l
      have A4 := (A3.pushSh ((Rep.mono s2 r1).mono s3)).assign (i := i) (by rw [← l3]; exact hh.1)
      have A5 := (A4.pushSh (Rep.mono s3 r2)).assign (i := j) (by rw [List.length_set, ← l3]; exact hh.2.1)
      have A6 := (A5.pushSh r3).assign (i := l) (by rw [List.length_set, List.length_set, ← l3]; exact hh.2.2)
      exact q3 H3 F3 (Same.refl F3) _ A6
    · exact q3.elim
  · exact q3.elim
end
end TL

end
section
set_option Elab.async false
set_option linter.all false
set_option maxRecDepth 100000
set_option autoImplicit false
set_option maxHeartbeats 2000000
/-! TL20: defs of which it is known that no repr runs around them; repr of a list -/
open PySem PySem.Spec PyProof.Rows L2
namespace TL
/-- as FnOk, where nothing is being shown around the call -/
structure FnOkG (P : Program) (w : World) (K : PySem.W.Frag) (mg : Str → Option Value) (base : Heap) (CX : CXT) (k : Nat) (f : Addr) (fd : FuncData) (ps : List Str) (sp : Sp) : Prop where
  len : ∀ vs H Q E, sp vs H Q E → vs.length = ps.length
  run : ∀ (A : Around) (outer : List Env) (s : Shared) (H : Hp) (args : Args) (us : List Value) (vs : List V) (Q : VK) (E : XK), A.guards = some [] → Room k A → Env0 P w K mg base A outer s H → BindsTo s fd args (ps.zip us) → Vals vs us → sp vs H Q E →
    codeAny (model P w) A (.call (.ref f) args) (CR CX outer P w H s Q E) s
theorem FnOk.toG {P : Program} {w : World} {K : PySem.W.Frag} {mg : Str → Option Value} {base : Heap} {CX : CXT} {k : Nat} {f : Addr} {fd : FuncData} {ps : List Str} {sp : Sp} (F : FnOk P w K mg base CX k f fd ps sp) : FnOkG P w K mg base CX k f fd ps sp :=
  ⟨F.len, fun A outer s H args us vs Q E _ hr e b r q => F.run A outer s H args us vs Q E hr e b r q⟩
section
variable {CX : CXT} {P : Program} {w : World} {K : PySem.W.Frag} {mg : Str → Option Value} {base : Heap} {k : Nat} {f : Addr} {name qual : Str} {params : Arguments} {body : List Stmt} {scope : Scope} {dV kV doc pm cdv ct oc : Value} {an od : Option Addr}
    {osl : Array (Option Value)} {N ps : List Str} {sp : Sp}
theorem fn_ofG (lk : K.lookup f = some ⟨oc, od, .func (PySem.W.fnOf name qual params body scope dV kV doc pm an cdv ct), osl⟩) (hcd : PySem.W.codeIn K cdv qual = true) (S : FnScope N ps scope)
    (len : ∀ vs H Q E, sp vs H Q E → vs.length = ps.length)
    (hbody : ∀ (A : Around) (outer : List Env) (s : Shared) (H : Hp) (vs : List V) (Q : VK) (E : XK), A.guards = some [] → Room k (A.deeper (envOfC qual scope s.heap.objs.size f cdv)) → sp vs H Q E →
      ∃ t, PSs (cxOf CX P w K mg base N qual scope f cdv A outer s H E) body t ∧ t { nx := fun _ H' => Q .non H', rt := Q } (start N vs) H) :
    FnOkG P w K mg base CX (k + 1) f (PySem.W.fnOf name qual params body scope dV kV doc pm an cdv ct) ps sp := by
  refine ⟨len, fun A outer s H args us vs Q E hgd hr e0 hb r hsp => ?_⟩
  have hl := len _ _ _ _ hsp
  have kp := fun b o e => (e0.bs b o e).1
  have hkind : ∀ y ∈ ps.zip us, scope.names.lookup y.1 = some .local ∨ (scope.names.lookup y.1 = some .cell ∧ ((cellsFrom (s.heap.objs.size + 1) scope.names []).lookup y.1).isSome = true) := fun y hy =>
    (S.par y.1 (List.of_mem_zip hy).1).imp id fun q => ⟨q, PySem.W.cellsFrom_some _ _ _ (.inl q)⟩
  refine codeAny_call_function hr.depth (e0.mod.kin.keeps kp _ _ lk) rfl S.co S.gen rfl (PySem.W.codeRec_of (e0.mod.kin.keeps kp) hcd) (hb _ _ _ _ ?_)
  refine wpAny_newFunctionEnv_cells S.kind hkind fun env he s1 x => ?_
  subst he
  refine ⟨(e0.mod.nolimit.keeps kp).keeps x.toInCall.keep, codeAny_func ?_⟩
  obtain ⟨t, ht, hq⟩ := hbody A outer s H vs Q E hgd (hr.deeper _) hsp
  refine wpAny_mono (ht.run [] s1 (start N vs) H _ (inv_start S hr.hd e0 hl r x) hq) (fun fl s' hs => ?_) fun e s' hs => hs
  cases fl with
  | ret u =>
    obtain ⟨v, σ', H', J, rv, q⟩ := hs
    exact ⟨v, H', J.os, J.bare, J.base, J.hok, rv, q⟩
  | next =>
    obtain ⟨σ', H', J, q⟩ := hs
    exact ⟨.non, H', J.os, J.bare, J.base, J.hok, rfl, q⟩
  | brk => exact (hs.elim fun _ h => h.elim fun _ h => h.2).elim
  | cont => exact (hs.elim fun _ h => h.elim fun _ h => h.2).elim
end
section
variable {P : Program} {w : World} {K : PySem.W.Frag} {mg : Str → Option Value} {base : Heap}
theorem okXG {x qual : Str} {st : Stmt} {f : Addr} {fd : FuncData} {N ps : List Str} {k : Nat} {sp : Sp} (Fu : Fun K x qual st f fd) (S : FnScope N ps (defScope st)) (len : ∀ vs H Q E, sp vs H Q E → vs.length = ps.length)
    (hbody : ∀ (cdv : Value) (A : Around) (outer : List Env) (s : Shared) (H : Hp) (vs : List V) (Q : VK) (E : XK), A.guards = some [] → Room k (A.deeper (envOfC qual (defScope st) s.heap.objs.size f cdv)) → sp vs H Q E →
      ∃ t, PSs (cxOf (L2.CX P w) P w K mg base N qual (defScope st) f cdv A outer s H E) (defBody st) t ∧ t { nx := fun _ H' => Q .non H', rt := Q } (start N vs) H) : FnOkG P w K mg base (L2.CX P w) (k + 1) f fd ps sp := by
  obtain ⟨oc, od, kV, doc, pm, an, cdv, ct, osl, rfl, lk, hcd⟩ := Fu.ex
  exact fn_ofG lk hcd S len fun A outer s H vs Q E hgd hr h => hbody cdv A outer s H vs Q E hgd hr h
theorem fn_okG {g : Ga} {x qual : Str} {st : Stmt} {f : Addr} {fd : FuncData} {N ps : List Str} {k : Nat} {b : SF} (Fu : Fun K x qual st f fd) (S : FnScope N ps (defScope st))
    (hb : ∀ (cdv : Value) (A : Around) (outer : List Env) (s : Shared) (H F0 : Hp) (E : XK), A.guards = some [] → Room k (A.deeper (envOfC qual (defScope st) s.heap.objs.size f cdv)) →
      PSs (cxOf (L2.CX P w) P w K mg base N qual (defScope st) f cdv A outer s H E) (defBody st) (rdS ⟨g, ⟨H, F0, .non⟩, fun _ => E⟩ b)) : FnOkG P w K mg base (L2.CX P w) (k + 1) f fd ps (spT g ps.length (fnOf N.length b)) := by
  obtain ⟨oc, od, kV, doc, pm, an, cdv, ct, osl, rfl, lk, hcd⟩ := Fu.ex
  refine fn_ofG lk hcd S (fun vs H Q E h => ?_) (fun A outer s H vs Q E hgd hr h => ?_)
  · obtain ⟨F, ts, n, hl, r, _⟩ := h
    rw [r.length, hl]
  · obtain ⟨F, ts, n, hl, r, s1, fn, nb, tb, nt, q⟩ := h
    exact body_run (hb cdv A outer s H F E hgd hr) r s1 fn nb tb nt q
end
section
variable {X : Cx} {c : Cfg} {k : Nat} {f : Addr} {fd : FuncData} {ps : List Str} {fn : Fn} {x : Str} {p pos : Pos} {e : Expr} {es : List Expr}
theorem de_callG {fa : AF} (F : FnOkG X.prog X.w X.K X.mg X.base (L2.CX X.prog X.w) k f fd ps (spT c.g ps.length fn)) (hgd : X.A.guards = some []) (hr : Room k X.A) (hg : Gl X x) (hm : X.mg x = some (.ref f)) (hk : PySem.W.keepIn X.K (.ref f) = true) (hb : Binds X.K fd ps []) (hx : ∀ σ, PassesAt (L2.CX X.prog X.w) X σ (c.E σ))
    (ha : PA X (e :: es) (rdA c fa)) (hdb : (x == ("__debug__" : Str)) = false := by decide) (he : starEach (e :: es) X.env = (false, eval e X.env) :: starEach es X.env := by rfl) (hpl : (backTo pos (starEach es X.env)).any (·.1) = false := by rfl) :
    PE X (.Call (.Name x p) (e :: es) [] pos) (rdE c (callF ps.length fn fa)) := by
  refine PE.imp (t := tCallS (spT c.g ps.length fn) c.E (rdA c fa)) ⟨fun pins s σ H Q I h => ?_⟩ fun _ _ _ q => callOut q
  refine wpAny_Call_Name_kw (ld_glob I hg hm ?_ hdb)
  refine PySem.W.callWith_K (h₀ := X.base) I.ok.mod.kin hk (thn (ha.run pos pins s σ H _ I h) fun us s1 ⟨vs, H1, I1, r, q⟩ => ⟨I1.kIn, ?_⟩) he hpl
  have b := hb s1 us I1.kIn (by rw [List.append_nil, ← r.length]; exact F.len _ _ _ _ q)
  rw [List.append_nil] at b
  refine wpAny_call (codeAny_mono (F.run X.A X.stack s1 H1 ⟨us, []⟩ us vs Q (c.E σ) hgd hr I1.env0 b r q) fun r s' hq => ?_)
  match r, hq with
  | .error e, hq => exact hx σ pins H1 s1 e s' I1 hq
  | .ok (.ret u), hq => exact I1.after hq
/-! repr of a list of truths -/
def blsT : List T → Option (List Bool)
  | [] => some []
  | .bl b :: ts => (blsT ts).map (b :: ·)
  | _ => none
theorem blsT_of : ∀ {ts : List T} {bs : List Bool}, blsT ts = some bs → ts = bs.map T.bl
  | [], _, h => by cases h; rfl
  | .bl b :: ts, _, h => by
    obtain ⟨bs, h1, h2⟩ := Option.map_eq_some_iff.mp h
    subst h2
    rw [blsT_of h1]
    rfl
  | .non :: _, _, h => by cases h
  | .int _ :: _, _, h => by cases h
  | .str _ :: _, _, h => by cases h
  | .lst _ :: _, _, h => by cases h
  | .tup _ :: _, _, h => by cases h
  | .wtp _ :: _, _, h => by cases h
  | .dic _ :: _, _, h => by cases h
  | .obj _ _ :: _, _, h => by cases h
  | .exo _ _ :: _, _, h => by cases h
  | .fn _ :: _, _, h => by cases h
  | .nib :: _, _, h => by cases h
def shownB (bs : List Bool) : Str := (PyData.list (bs.map PyData.bool)).shown
def reprLN : List T → Option Slot
  | [.lst ts] => (blsT ts).bind fun bs => if (shownB bs).length ≤ sizeLine then some (.sh (.str (shownB bs))) else none
  | _ => none
theorem reads_bls {h : Heap} : ∀ bs : List Bool, ReadsAll h (bs.map Value.bool) (bs.map PyData.bool) []
  | [] => .nil
  | b :: bs => .cons (.bool b) (reads_bls bs)
theorem showable_bls : ∀ bs : List Bool, PyData.showableAll (bs.map PyData.bool) = true
  | [] => by simp only [List.map_nil, PyData.showableAll]
  | b :: bs => by
    simp only [List.map_cons, PyData.showableAll, PyData.showable, showable_bls bs, Bool.and_self]
theorem hasDict_bls : ∀ bs : List Bool, PyData.hasDictAll (bs.map PyData.bool) = false
  | [] => by simp only [List.map_nil, PyData.hasDictAll]
  | b :: bs => by
    simp only [List.map_cons, PyData.hasDictAll, PyData.hasDict, hasDict_bls bs, Bool.or_self]
theorem depth_bls : ∀ bs : List Bool, PyData.depthAll (bs.map PyData.bool) ≤ 1
  | [] => by simp only [List.map_nil, PyData.depthAll]; omega
  | b :: bs => by
    have := depth_bls bs
    simp only [List.map_cons, PyData.depthAll, PyData.depth]
    omega
def rReprL (K : PySem.W.Frag) : List V → Hp → VK → Prop := fun xs H Q => ∃ (a : Addr) (bs : List Bool), xs = [.ref a] ∧ SqL K H a (bs.map V.bl) ∧ (shownB bs).length ≤ sizeLine ∧ Q (.str (shownB bs)) H
theorem call_reprL (hgd : X.A.guards = some []) (hu : X.A.units + 10 < cLine) : CallR X (.builtin "repr") (rReprL X.K) := by
  intro pins s σ H xs us Q I r h
  obtain ⟨a, bs, rfl, hs, hz, q⟩ := h
  obtain ⟨u, rfl, rx⟩ := vals1 r
  cases rx
  obtain ⟨its, r', pl, _⟩ := I.list hs
  have e := Vals.bls r'
  subst e
  obtain ⟨o, ho, hc, n, hd⟩ := pl.isList
  have rd : Reads s.heap (.ref a) (.list (bs.map PyData.bool)) (a :: []) := .list ho hc hd (reads_bls bs)
  refine repr_of_reads' rd (by unfold PyData.showable; exact showable_bls bs) (PyData.noDict_hsm ?_) hgd ?_ (fun _ _ e => e) (fun h' u tk kp => ?_) hz
  · unfold PyData.hasDict; exact hasDict_bls bs
  · have := depth_bls bs
    simp only [PyData.depth]
    omega
  · exact ⟨.str _, H, I.kept (t' := tk) kp, ⟨_, rfl⟩, q⟩
theorem p_reprL (hK : c.g.K = X.K) : OpN c (rReprL X.K) reprLN := by
  intro F S σ τ H xs ts z Q A hx hz k
  unfold reprLN at hz
  split at hz
  · obtain ⟨bs, h1, h2⟩ := Option.bind_eq_some_iff.mp hz
    split at h2
    · rename_i hl
      cases h2
      have e := blsT_of h1
      subst e
      obtain ⟨v, rfl, h⟩ := hx.one
      obtain ⟨p, vs, rfl, h3, r⟩ := h.lst A.a.fh
      rw [r.bools] at h3
      exact ⟨p, bs, rfl, .inl (.inl h3), hl, fin_sh A k (.str _)⟩
    · cases h2
  · cases hz
end

/-! the head -/
section
variable {P : Program} {w : World} {K : PySem.W.Frag} {mg mb : Str → Option Value} {a : Addr} {cs : List (Addr × Addr)} {s₁ : Shared} {vs : List Value} {ns : List Int}
/-- what a law's call begins with: the script and the tables tracked, all else written -/
theorem head_env (KX : K.In s₁.heap) (hns : s₁.heap.Ns mainGlobals mg) (hb : s₁.heap.Ns builtinsNs mb) (hbb : ∀ x : Str, x ≠ "__name__" → mb x = bootBuiltins x) (hlim : s₁.heap.NoLimit) (hg : s₁.gens = #[])
    (hT : ∀ p ∈ cs, s₁.heap.get? p.2 = some { cls := .none, data := .fields #[] }) (nT : ∀ p ∈ cs, K.lookup p.2 = none) (C : ∀ p ∈ cs, PySem.W.CodeHd s₁.heap p.1 p.2)
    (hbm : ∃ (bm : Addr) (ob : Obj), mg "__builtins__" = some (.ref bm) ∧ bm ≠ builtinsNs ∧ s₁.heap.get? bm = some ob ∧ ob.cls = .type "module" ∧ ob.dict = some builtinsNs ∧ ob.data = .plain)
    (ha : s₁.heap.get? a = some { cls := .type "list", data := .seq vs.toArray }) (hi : IntsAre vs ns) (hl : ns.length ≤ sizeLine) :
    ∃ H : Hp, (∀ b u, H b = some u → (∃ p ∈ cs, b = p.2 ∧ u = .tbl #[]) ∨ (b = a ∧ ∃ o xs, u = .frz o (.lst xs))) ∧ (∀ p ∈ cs, H p.2 = some (.tbl #[])) ∧ SqL K H a (ns.map V.int) ∧ K.In (hidT s₁.heap H) ∧ (hidT s₁.heap H).Ns mainGlobals mg ∧
      (∀ p ∈ cs, LamX.TabB (hidT s₁.heap H) mg p.1 p.2) ∧ Env0 P w K mg (hidT s₁.heap H) callerA [] s₁ H := by
  classical
  have rv : Vals (ns.map V.int) vs := by simpa using vals_ints hi
  have apart : ∀ p ∈ cs, p.2 ≠ a := fun p hp z => by
    have e := hT p hp
    rw [z, ha] at e
    have e := congrArg Obj.data (Option.some.inj e)
    cases e
  have ex : ∃ H : Hp, H = fun b => if ∃ p ∈ cs, b = p.2 then some (.tbl #[]) else if b = a ∧ K.lookup a = none then some (.frz { cls := .type "list", data := .seq vs.toArray } (.lst (ns.map V.int))) else none := ⟨_, rfl⟩
  obtain ⟨H, hH⟩ := ex
  have cases3 : ∀ b u, H b = some u → (∃ p ∈ cs, b = p.2 ∧ u = .tbl #[]) ∨ (b = a ∧ K.lookup a = none ∧ u = .frz { cls := .type "list", data := .seq vs.toArray } (.lst (ns.map V.int))) := fun b u q => by
    rw [hH] at q
    dsimp only at q
    split at q
    · rename_i h
      obtain ⟨p, hp, e⟩ := h
      cases q
      exact .inl ⟨p, hp, e, rfl⟩
    · split at q
      · rename_i h
        cases q
        exact .inr ⟨h.1, h.2, rfl⟩
      · cases q
  have tabs : ∀ p ∈ cs, H p.2 = some (.tbl #[]) := fun p hp => by
    rw [hH]
    exact if_pos ⟨p, hp, rfl⟩
  -- what is neither a list nor an empty record is not tracked
  have free : ∀ {b : Addr} {o : Obj}, s₁.heap.get? b = some o → (∀ us n, o.data ≠ .seq us n) → o.data ≠ .fields #[] → H b = none := fun {b o} e h1 h2 => by
    cases q : H b with
    | none => rfl
    | some u =>
      rcases cases3 b u q with ⟨p, hp, z, _⟩ | ⟨z, _⟩
      · rw [z, hT p hp] at e
        cases e
        exact (h2 rfl).elim
      · rw [z, ha] at e
        cases e
        exact (h1 _ _ rfl).elim
  have stays : ∀ {b : Addr} {o : Obj}, s₁.heap.get? b = some o → (∀ us n, o.data ≠ .seq us n) → o.data ≠ .fields #[] → (hidT s₁.heap H).get? b = some o := fun e h1 h2 => hidT_get e (free e h1 h2)
  have dict : ∀ {b : Addr} {m : Str → Option Value}, s₁.heap.Ns b m → (hidT s₁.heap H).Ns b m := fun {b m} ⟨o, es, ep, e, d, r⟩ => ⟨o, es, ep, stays e (fun _ _ z => by rw [d] at z; cases z) (fun z => by rw [d] at z; cases z), d, r⟩
  have kin : K.In (hidT s₁.heap H) := fun b o e => hidT_get (KX b o e) (by
    cases q : H b with
    | none => rfl
    | some u =>
      rcases cases3 b u q with ⟨p, hp, z, _⟩ | ⟨z, z2, _⟩
      · rw [z, nT p hp] at e; cases e
      · rw [z, z2] at e; cases e)
  refine ⟨H, fun b u q => ?_, tabs, ?_, kin, dict hns, fun p hp => ⟨?_, ?_, fun z => ?_⟩, ⟨rfl, ⟨kin, dict hns, ⟨mb, dict hb, hbb⟩, ?_⟩, fun b o e => of_hidT e, Nat.le_of_eq (hidT_size _ _), trivial, (fun b hb => nomatch (show b ∈ ([] : List Addr) from hb)), fun b u q => ?_, .of_eq hg⟩⟩
  · rcases cases3 b u q with h | ⟨h1, _, h3⟩
    · exact .inl h
    · exact .inr ⟨h1, _, _, h3⟩
  · cases hk : K.lookup a with
    | some o =>
      have e := KX a o hk
      rw [ha] at e
      cases e
      exact .inr ⟨_, vs.toArray, _, hk, rfl, rfl, rfl, by rw [List.size_toArray, hi.length]; exact hl, by simpa using rv⟩
    | none =>
      refine .inl (.inr ⟨{ cls := .type "list", data := .seq vs.toArray }, ?_⟩)
      rw [hH]
      exact (if_neg fun ⟨p, hp, z⟩ => apart p hp z.symm).trans (if_pos ⟨rfl, hk⟩)
  · obtain ⟨o, us, file, tf, flags, tg, inF, text, tt, e1, r1, r2, r3, r⟩ := C p hp
    refine ⟨o, us, file, tf, flags, tg, inF, text, tt, stays e1 (fun _ _ z => by rw [r2] at z; cases z) (fun z => ?_), r1, r2, r3, r⟩
    rw [r2] at z
    cases z
    simp at r3
  · obtain ⟨bm, ob, b1, b2, b3, b4, b5, b6⟩ := hbm
    refine ⟨bm, ob, b1, b2, fun q => ?_, fun q => ?_, stays b3 (fun _ _ z => by rw [b6] at z; cases z) (fun z => by rw [b6] at z; cases z), b4, b5, b6⟩
    · obtain ⟨o, es, ep, e, hd, _⟩ := hns
      rw [q, e] at b3
      cases b3
      rw [hd] at b6
      cases b6
    · rw [q, hT p hp] at b3
      cases b3
      cases b6
  · obtain ⟨o, es, ep, e, hd, _⟩ := hns
    rw [z, hT p hp] at e
    cases e
    cases hd
  · obtain ⟨mc, h1, h2⟩ := hlim
    exact ⟨mc, dict h1, h2⟩
  · rcases cases3 b u q with ⟨p, hp, e, e2⟩ | ⟨e, _, e2⟩
    · rw [e, e2]
      exact hT p hp
    · rw [e, e2]
      exact ⟨ha, by rw [List.length_map]; exact hl, vs, _, rv, ha⟩
theorem law_callG {CX : CXT} {k : Nat} {fa : Addr} {fd : FuncData} {x : Str} {sp : Sp} (KX : K.In s₁.heap) (hns : s₁.heap.Ns mainGlobals mg) (hb : s₁.heap.Ns builtinsNs mb) (hbb : ∀ x : Str, x ≠ "__name__" → mb x = bootBuiltins x) (hlim : s₁.heap.NoLimit) (hg : s₁.gens = #[])
    (hT : ∀ p ∈ cs, s₁.heap.get? p.2 = some { cls := .none, data := .fields #[] }) (nT : ∀ p ∈ cs, K.lookup p.2 = none) (C : ∀ p ∈ cs, PySem.W.CodeHd s₁.heap p.1 p.2)
    (hbm : ∃ (bm : Addr) (ob : Obj), mg "__builtins__" = some (.ref bm) ∧ bm ≠ builtinsNs ∧ s₁.heap.get? bm = some ob ∧ ob.cls = .type "module" ∧ ob.dict = some builtinsNs ∧ ob.data = .plain)
    (ha : s₁.heap.get? a = some { cls := .type "list", data := .seq vs.toArray }) (hi : IntsAre vs ns) (hl : ns.length ≤ sizeLine) (hr : Room k callerA)
    (F : ∀ base : Heap, K.In base → base.Ns mainGlobals mg → (∀ p ∈ cs, LamX.TabB base mg p.1 p.2) → FnOkG P w K mg base CX k fa fd [x] sp) (hbind : ∀ (s : Shared) (u : Value), BindsTo s fd ⟨[u], []⟩ [(x, u)])
    (hsp : ∀ H : Hp, (∀ p ∈ cs, H p.2 = some (.tbl #[])) → SqL K H a (ns.map V.int) → sp [.ref a] H (fun v _ => v = .bl true) fun _ _ _ => False)
    (hCX : ∀ H e s', CX [] H s₁ (fun _ _ _ => False) e s' → False) :
    codeAny (model P w) callerA (.call (.ref fa) ⟨[.ref a], []⟩) (fun r s' => r = .ok (.ret (.bool true)) ∧ OldK s₁.heap s'.heap ∧ s'.os = s₁.os ∧ AllBare s'.gens) s₁ := by
  obtain ⟨H, hO, hH, hS, hK, hN, hB, e0⟩ := head_env (P := P) (w := w) KX hns hb hbb hlim hg hT nT C hbm ha hi hl
  refine codeAny_mono ((F _ hK hN hB).run callerA [] s₁ H ⟨[.ref a], []⟩ [.ref a] [.ref a] _ _ rfl hr e0 (hbind s₁ (.ref a)) (.cons rfl .nil) (hsp H hH hS)) fun r s' h => ?_
  match r, h with
  | .error e, h => exact (hCX H e s' h).elim
  | .ok (.ret u), h =>
    obtain ⟨v, H', os, bare, un, hok', r', q⟩ := h
    have q : v = .bl true := q
    subst q
    obtain rfl : u = Value.bool true := r'
    -- an old object stays, a table may have grown
    have old : ∀ b o, s₁.heap.get? b = some o → s'.heap.get? b = some o ∨ ∃ p ∈ cs, b = p.2 ∧ ∃ more : Array Value, s'.heap.get? b = some { cls := .none, data := .fields more } := fun b o e => by
      cases q : H b with
      | none => exact .inl (un.keep b o e q (fun z => nomatch (show b ∈ ([] : List Addr) from z)) (fun z => nomatch z))
      | some u =>
        rcases hO b u q with ⟨p, hp, z, z2⟩ | ⟨_, ob, xs, z⟩
        · rw [z2] at q
          obtain ⟨more, q2⟩ := un.tbls b #[] q
          exact .inr ⟨p, hp, z, _, hok' b _ q2⟩
        · rw [z] at q
          obtain ⟨e1, _⟩ := e0.hok b _ q
          obtain ⟨e2, _⟩ := hok' b _ (un.frzs b ob _ q)
          rw [e] at e1
          cases e1
          exact .inl e2
    refine ⟨rfl, ⟨fun b o e => ?_, fun b o e => ?_⟩, os, bare⟩
    · rcases old b o e with h | ⟨p, hp, z, more, h⟩
      · exact .inl h
      · rw [z] at e h ⊢
        rw [hT p hp] at e
        cases e
        exact .inr (.inl ⟨((C p hp).tab (hT p hp)).isCodeTable, rfl, #[], more, rfl, by rw [Array.empty_append]; exact h⟩)
    · rcases old b o e with h | ⟨p, hp, z, more, h⟩
      · exact ⟨o, h⟩
      · exact ⟨_, h⟩
end
def LawAtG (l : PySem.W.OpenLaw) (w : World) (K : PySem.W.Frag) (CX : CXT) (k n : Nat) (x : Str) (mg : Str → Option Value) (fa : Addr) (h : Heap) : Prop :=
  ∃ (fd : FuncData) (cs : List (Addr × Addr)) (sp : Sp), (∀ p ∈ cs, h.get? p.2 = some { cls := .none, data := .fields #[] }) ∧ (∀ p ∈ cs, K.lookup p.2 = none) ∧ (∀ p ∈ cs, PySem.W.CodeHd h p.1 p.2) ∧ (∀ (s : Shared) (u : Value), BindsTo s fd ⟨[u], []⟩ [(x, u)]) ∧
    (∀ (H : Hp) (a : Addr) (ns : List Int), ns.length ≤ n → (∀ z ∈ ns, Builtin.Int.intBits z ≤ 1048576) → (∀ p ∈ cs, H p.2 = some (.tbl #[])) → SqL K H a (ns.map V.int) → sp [.ref a] H (fun v _ => v = .bl true) fun _ _ _ => False) ∧
    ∀ base : Heap, K.In base → base.Ns mainGlobals mg → (∀ p ∈ cs, LamX.TabB base mg p.1 p.2) → FnOkG l.prog w K mg base CX k fa fd [x] sp
theorem walk_ofTabsG {l : PySem.W.OpenLaw} {n k : Nat} {q : Program} {loose : List Str} {XP : (Str → Option Value) → Heap → Prop} {YP : World → Heap → Prop} {d : DefRec} {K : Params → PySem.W.Frag} {CX : World → CXT} {x : Str}
    (hn : l.most = some n) (hn2 : n ≤ sizeLine) (hdf : d.params.defaults = []) (hr : Room k callerA) (hY : ∀ (w : World) (h : Heap), YP w h → (K w.params).In h)
    (F : ∀ (w : World) (mg : Str → Option Value) (fa : Addr) (h : Heap), YP w h → (K w.params).In h → h.Ns mainGlobals mg → mg d.name = some (.ref fa) → Tabs0 q (K w.params) h → LawAtG l w (K w.params) (CX w) k n x mg fa h)
    (hCX : ∀ (w : World) (H : Hp) (s : Shared) (e : Value) (s' : Shared), CX w [] H s (fun _ _ _ => False) e s' → False) :
    PySem.W.WalkO q loose XP YP l.row.toRowW d [] (fun f vs => PySem.call f vs) := by
  refine Att.attach_callB hn hdf fun w s₀ s₁ mg mb fa o pm cd doc a vs ns G Y ho hd hcd hmg hobj hints hlen hbits hg => ?_
  have KX := hY w _ Y
  have own : Tabs0 q (K w.params) s₁.heap := fun x c P hm ht => by
    cases e : (recsOf q).find? (fun e => e.name == x) with
    | some d => exact PySem.W.tab_of G.T KX e ht
    | none =>
      obtain ⟨dL, hm1, hn1⟩ := List.any_eq_true.mp hm
      exact absurd hn1 (List.find?_eq_none.mp e dL hm1)
  obtain ⟨fd, cs, sp, hT, nT, C, hb, hsp, hF⟩ := F w mg fa _ Y KX G.T.g hmg own
  exact law_callG KX G.T.g G.T.b G.T.builtins G.T.nolimit hg hT nT C G.T.bmain hobj hints (Nat.le_trans hlen hn2) hr hF hb (fun H hH hS => hsp H a ns hlen hbits hH hS) fun H e s' => hCX w H s₁ e s'
end TL

end
section
set_option Elab.async false
set_option linter.all false
set_option maxRecDepth 100000
set_option autoImplicit false
set_option maxHeartbeats 400000
/-! TL21: the runner, further -/
open PySem PySem.Spec PyProof.Rows L2
namespace TL
theorem compL_rel {own : List Nat} {tg : Tg} {tt : TF} {te : EF} {lo gh : List Slot} {I : Nat → Nib → Prop} {P : T → Prop} (hw : noes lo own = lo) : ∀ (ts acc : List T) (k : Nat) (nb : Nib), acc.length + ts.length ≤ sz →
    (∀ k' nb acc t, k ≤ k' → k' < k + ts.length → I k' nb → t ∈ ts → ∃ v nb', I (k' + 1) nb' ∧ P v ∧ compStep own tg tt te t ⟨lo, gh ++ [.ow (.lst acc)], nb⟩ = .ok (some v) ⟨lo, gh ++ [.ow (.lst acc)], nb'⟩) → I k nb →
    ∃ vs nb', I (k + ts.length) nb' ∧ vs.length = ts.length ∧ (∀ v ∈ vs, P v) ∧ compL own tg tt te ts ⟨lo, gh ++ [.ow (.lst acc)], nb⟩ = .ok () ⟨lo, gh ++ [.ow (.lst (acc ++ vs))], nb'⟩
  | [], acc, k, nb, _, _, h => ⟨[], nb, h, rfl, (fun _ h => nomatch h), by rw [List.append_nil]; rfl⟩
  | t :: ts, acc, k, nb, hl, hstep, h => by
    rw [List.length_cons] at hl
    obtain ⟨v, nb1, h1, hv, e1⟩ := hstep k nb acc t (Nat.le_refl _) (by rw [List.length_cons]; omega) h List.mem_cons_self
    obtain ⟨vs, nb2, h2, hl2, hv2, e2⟩ := compL_rel hw ts (acc ++ [v]) (k + 1) nb1 (by rw [List.length_append, List.length_singleton]; omega) (fun k' nb acc t h1 h2 h3 h4 => hstep k' nb acc t (by omega) (by rw [List.length_cons]; omega) h3 (List.mem_cons_of_mem _ h4)) h1
    refine ⟨v :: vs, nb2, by rw [List.length_cons, show k + (ts.length + 1) = k + 1 + ts.length by omega]; exact h2, by rw [List.length_cons, List.length_cons, hl2], fun u hu => (List.mem_cons.mp hu).elim (fun e => e ▸ hv) (hv2 u), ?_⟩
    have := compL_step (own := own) (tg := tg) (tt := tt) (te := te) (t := t) (ts := ts) (S := ⟨lo, gh, nb⟩) (S' := ⟨lo, gh, nb1⟩) (acc := acc) (v := some v) e1 (by show Sta.mk (noes lo own) gh nb1 = _; rw [hw]) (by omega)
    refine Eq.trans this ?_
    show compL own tg tt te ts ⟨lo, gh ++ [.ow (.lst (acc ++ [v]))], nb1⟩ = _
    rw [e2, List.append_assoc]
    rfl
theorem compF_rel {own : List Nat} {it : IF} {tg : Tg} {tt : TF} {te : EF} {S : Sta} {lo gh : List Slot} {nb : Nib} {ts : List T} (k : Nat) (I : Nat → Nib → Prop) (P : T → Prop) (hi : it S = .ok ts ⟨lo, gh, nb⟩) (hf : (own.all fun i => Slot.free lo[i]?) = true) (hs : (tg.slots.all fun i => own.contains i) = true)
    (hw : noes lo own = lo) (hl : ts.length ≤ sz)
    (hstep : ∀ k' nb acc t, k ≤ k' → k' < k + ts.length → I k' nb → t ∈ ts → ∃ v nb', I (k' + 1) nb' ∧ P v ∧ compStep own tg tt te t ⟨lo, gh ++ [.ow (.lst acc)], nb⟩ = .ok (some v) ⟨lo, gh ++ [.ow (.lst acc)], nb'⟩) (h : I k nb) :
    ∃ vs nb', I (k + ts.length) nb' ∧ vs.length = ts.length ∧ (∀ v ∈ vs, P v) ∧ compF own it tg tt te S = .ok (.ow (.lst vs)) ⟨lo, gh, nb'⟩ := by
  obtain ⟨vs, nb', h1, h2, h3, h4⟩ := compL_rel (gh := gh) hw ts [] k nb (by simpa using hl) hstep h
  refine ⟨vs, nb', h1, h2, h3, ?_⟩
  unfold compF
  rw [hi, R.bind_ok]
  have hc : ((own.all fun i => Slot.free lo[i]?) && (tg.slots.all fun i => own.contains i)) = true := by rw [hf, hs]; rfl
  rw [if_pos hc]
  have : (Sta.mk lo gh nb).wipe own = Sta.mk lo gh nb := by show Sta.mk (noes lo own) gh nb = _; rw [hw]
  rw [this]
  show (match compL own tg tt te ts ⟨lo, gh ++ [.ow (.lst [])], nb⟩ with
    | .ok () S2 => match S2.popG with
      | some (.ow (.lst acc), S3) => R.ok (Slot.ow (.lst acc)) (S3.back ⟨lo, gh, nb⟩ own)
      | _ => .stuck
    | _ => .stuck) = _
  rw [h4]
  dsimp only
  rw [popG_snoc, List.nil_append]
  show R.ok (Slot.ow (T.lst vs)) (Sta.mk (backs lo lo own) gh nb') = _
  have e : backs lo lo own = lo := by have := backs_noes lo own; rwa [hw] at this
  rw [e]
theorem all_tn {vs : List T} {m : Nat} (h : ∀ v ∈ vs, ∃ r : Nat, r < m ∧ v = .int (r : Int)) : ∃ t : List Nat, vs = tn t ∧ ∀ x ∈ t, x < m := by
  induction vs with
  | nil => exact ⟨[], rfl, (fun _ h => nomatch h)⟩
  | cons v vs ih =>
    obtain ⟨t, e, ht⟩ := ih fun v hv => h v (List.mem_cons_of_mem _ hv)
    obtain ⟨r, hr, rfl⟩ := h v List.mem_cons_self
    exact ⟨r :: t, by rw [e]; rfl, fun x hx => (List.mem_cons.mp hx).elim (fun e => e ▸ hr) (ht x)⟩
end TL

namespace TL
section
variable (S : Sta) (i j k n np nk : Nat) (a b d : OF) (e e' e'' : EF) (t u : TF) (f g : SF) (r r' : AF) (it : IF) (tg : Tg) (p p' : T → T → Option Slot) (q : T → Option Slot) (ql : List T → Option Slot) (fn : Fn) (x y : T) (z : Slot) (ts us : List T) (o o' : Opd) (os os' : List Opd) (l gh : List Slot) (nb : Nib) (ex : Ex) (pm : List Nat)
theorem w_excB {α β : Type} (ex : Ex) (S : Sta) (k : α → Sta → R β) : (R.exc ex S : R α).bind k = .exc ex S := rfl
theorem w_dicF : dicF S = .ok (.ow (.dic [])) S := rfl
def kStar (r : AF) : Opd → Sta → R (List Opd) := fun o S1 => match o with
  | .val (.lst ts) => (r S1).bind fun os S2 => .ok (ts.map Opd.val ++ os) S2
  | .val (.tup ts) => (r S1).bind fun os S2 => .ok (ts.map Opd.val ++ os) S2
  | _ => .stuck
def kStar2 (ts : List T) : List Opd → Sta → R (List Opd) := fun os S2 => .ok (ts.map Opd.val ++ os) S2
theorem w_starA : starA a r S = (a S).bind (kStar r) := rfl
theorem kStar_l : kStar r (.val (.lst ts)) S = (r S).bind (kStar2 ts) := rfl
theorem kStar_t : kStar r (.val (.tup ts)) S = (r S).bind (kStar2 ts) := rfl
theorem kStar2_ap : kStar2 ts os S = .ok (ts.map Opd.val ++ os) S := rfl
theorem vals_star : ∀ ts : List T, vals (ts.map Opd.val ++ os) = (vals os).map (ts ++ ·)
  | [] => by
    show vals os = _
    cases vals os <;> rfl
  | t :: ts => by
    rw [List.map_cons, List.cons_append, vals_cons, vals_star ts]
    cases vals os <;> rfl
def gCallK (np nk : Nat) (pm : List Nat) (f : Fn) (S2 : Sta) (o o' : Option (List T)) : R Slot := match o, o' with
  | some ts, some zs => if ts.length + zs.length = np ∧ zs.length = nk then match f (ts ++ prm pm zs) S2.nb with
    | .ok x n => .ok x { S2 with nb := n }
    | .exc e n => .exc e { S2 with nb := n }
    | .stuck => .stuck
    else .stuck
  | _, _ => .stuck
def kCallK2 (np nk : Nat) (pm : List Nat) (f : Fn) (os : List Opd) : List Opd → Sta → R Slot := fun us S2 => gCallK np nk pm f S2 (vals os) (vals us)
def kCallK (np nk : Nat) (pm : List Nat) (f : Fn) (b : AF) : List Opd → Sta → R Slot := fun os S1 => (b S1).bind (kCallK2 np nk pm f os)
theorem w_callKF : callKF np nk pm fn r r' S = (r S).bind (kCallK np nk pm fn r') := rfl
theorem kCallK_ap : kCallK np nk pm fn r os S = (r S).bind (kCallK2 np nk pm fn os) := rfl
theorem kCallK2_ap : kCallK2 np nk pm fn os os' S = gCallK np nk pm fn S (vals os) (vals os') := rfl
theorem gCallK_ap (h : ts.length + us.length = np ∧ us.length = nk) : gCallK np nk pm fn ⟨l, gh, nb⟩ (some ts) (some us) = gFR ⟨l, gh, nb⟩ (fn (ts ++ prm pm us) nb) := if_pos h
theorem prm_nil {α : Type} (l : List α) : prm [] l = [] := rfl
theorem prm_cons {α : Type} (l : List α) (i : Nat) (x : α) (h : l[i]? = some x) : prm (i :: pm) l = x :: prm pm l := by
  unfold prm
  rw [List.filterMap_cons, h]
def kTry2 (i : Nat) (r : R Flow) : R Flow := match r with
  | .ok fl S2 => .ok fl (S2.put i .no)
  | _ => .stuck
def gTry (i : Nat) (h : SF) (e : Ex) (S1 : Sta) (o : Option Bool) : R Flow := match o with
  | some true => if i < S1.lo.length then match h (S1.put i (.sh (.exo e.cls e.fs))) with
      | .ok fl S2 => .ok fl (S2.put i .no)
      | _ => .stuck
    else .stuck
  | some false => .exc e S1
  | none => .stuck
def kTry (ct : Nat → Option Bool) (i : Nat) (h : SF) (r : R Flow) : R Flow := match r with
  | .ok fl S1 => .ok fl S1
  | .exc e S1 => gTry i h e S1 (ct e.cls)
  | .stuck => .stuck
variable (ct : Nat → Option Bool)
theorem w_tryF : tryF ct i f g S = kTry ct i g (f S) := by
  unfold tryF kTry gTry
  cases f S <;> rfl
theorem kTry_ok (fl : Flow) : kTry ct i g (.ok fl S) = .ok fl S := rfl
theorem kTry_exc : kTry ct i g (.exc ex S) = gTry i g ex S (ct ex.cls) := rfl
theorem gTry_t (h : i < l.length) : gTry i g ex ⟨l, gh, nb⟩ (some true) = kTry2 i (g ⟨l.set i (.sh (.exo ex.cls ex.fs)), gh, nb⟩) := if_pos h
theorem gTry_f : gTry i g ex S (some false) = .exc ex S := rfl
theorem kTry2_ap (fl : Flow) : kTry2 i (.ok fl ⟨l, gh, nb⟩) = .ok fl ⟨l.set i .no, gh, nb⟩ := rfl
def gRaise (k : Nat) (fl : List Str) (S1 : Sta) (o : Option (List T)) : R Flow := match o with
  | some ts => if ts.length = fl.length then .exc ⟨k, (fl.zip ts).reverse⟩ S1 else .stuck
  | none => .stuck
def kRaise (k : Nat) (fl : List Str) : List Opd → Sta → R Flow := fun os S1 => gRaise k fl S1 (vals os)
theorem w_raiseF (fl : List Str) : raiseF k fl r S = (r S).bind (kRaise k fl) := rfl
theorem kRaise_ap (fl : List Str) : kRaise k fl os S = gRaise k fl S (vals os) := rfl
theorem gRaise_ap (fl : List Str) (h : ts.length = fl.length) : gRaise k fl S (some ts) = .exc ⟨k, (fl.zip ts).reverse⟩ S := if_pos h
def gPar3 (i j l : Nat) (S3 : Sta) (o o2 o3 : Opd) : R Flow := match o, o2, o3 with
  | .val t, .val u, .val v => if i < S3.lo.length ∧ j < S3.lo.length ∧ l < S3.lo.length then .ok .nx (((S3.put i (.sh t)).put j (.sh u)).put l (.sh v)) else .stuck
  | _, _, _ => .stuck
def kPar3c (i j l : Nat) (o o2 : Opd) : Opd → Sta → R Flow := fun o3 S3 => gPar3 i j l S3 o o2 o3
def kPar3b (i j l : Nat) (d : OF) (o : Opd) : Opd → Sta → R Flow := fun o2 S2 => (d S2).bind (kPar3c i j l o o2)
def kPar3a (i j l : Nat) (b d : OF) : Opd → Sta → R Flow := fun o S1 => (b S1).bind (kPar3b i j l d o)
theorem w_par3F : par3F i j k a b d S = (a S).bind (kPar3a i j k b d) := rfl
theorem kPar3a_ap : kPar3a i j k b d o S = (b S).bind (kPar3b i j k d o) := rfl
theorem kPar3b_ap (o2 : Opd) : kPar3b i j k d o o2 S = (d S).bind (kPar3c i j k o o2) := rfl
theorem kPar3c_ap (v : T) (h : i < l.length ∧ j < l.length ∧ k < l.length) : kPar3c i j k (.val x) (.val y) (.val v) ⟨l, gh, nb⟩ = .ok .nx ⟨((l.set i (.sh x)).set j (.sh y)).set k (.sh v), gh, nb⟩ := if_pos h
def kSl3 (p : T → Option Int → Option Int → Option Slot) (o : Opd) (lo : Option Int) : Option Int → Sta → R Slot := fun u S3 => match o.get S3 with
  | some t => res (p t lo u) S3
  | none => .stuck
def kSl2 (p : T → Option Int → Option Int → Option Slot) (hi : BF) (o : Opd) : Option Int → Sta → R Slot := fun lo S2 => (hi S2).bind (kSl3 p o lo)
def kSl1 (p : T → Option Int → Option Int → Option Slot) (lo hi : BF) : Opd → Sta → R Slot := fun o S1 => (lo S1).bind (kSl2 p hi o)
variable (ps : T → Option Int → Option Int → Option Slot) (lo hi : BF)
theorem w_slF : slF ps a lo hi S = (a S).bind (kSl1 ps lo hi) := rfl
theorem kSl1_ap : kSl1 ps lo hi o S = (lo S).bind (kSl2 ps hi o) := rfl
theorem kSl2_ap (z : Option Int) : kSl2 ps hi o z S = (hi S).bind (kSl3 ps o z) := rfl
theorem kSl3_ap (z w : Option Int) : kSl3 ps o z w S = gOp1 (fun t => ps t z w) (o.get S) S := by
  unfold kSl3 gOp1
  cases o.get S <;> rfl
def kSome : Opd → Sta → R (Option Int) := fun o S1 => match o with
  | .val (.int i) => .ok (some i) S1
  | _ => .stuck
theorem w_someB : someB a S = (a S).bind kSome := rfl
theorem kSome_ap (i : Int) : kSome (.val (.int i)) S = .ok (some i) S := rfl
theorem w_noB : noB S = .ok none S := rfl
def kRng2b (o : Opd) : Opd → Sta → R (List T) := fun o' S2 => match o, o' with
  | .val (.int a), .val (.int b) => if -(2 ^ 62) ≤ a ∧ a < 2 ^ 62 ∧ -(2 ^ 62) ≤ b ∧ b < 2 ^ 62 then .ok (rgT a b) S2 else .stuck
  | _, _ => .stuck
def kRng2 (b : OF) : Opd → Sta → R (List T) := fun o S1 => (b S1).bind (kRng2b o)
theorem w_rngI2 : rngI2 a b S = (a S).bind (kRng2 b) := rfl
theorem kRng2_ap : kRng2 b o S = (b S).bind (kRng2b o) := rfl
theorem kRng2b_ap (u v : Int) (h : -(2 ^ 62) ≤ u ∧ u < 2 ^ 62 ∧ -(2 ^ 62) ≤ v ∧ v < 2 ^ 62) : kRng2b (.val (.int u)) (.val (.int v)) S = .ok (rgT u v) S := if_pos h
theorem lamF_run {caps : List Nat} {fe : EF} {fh : HFn} {S S1 : Sta} {x : Slot} {n : Nib} (h1 : frzs caps S = some S1) (h2 : fh (askOf fe S1.lo) S1.nb = .ok x n) : lamF caps fe fh S = .ok x { S1 with nb := n } := by
  unfold lamF
  rw [h1]
  dsimp only
  rw [h2]
end
end TL

end
section
set_option Elab.async false
set_option linter.all false
set_option maxRecDepth 100000
set_option autoImplicit false
set_option maxHeartbeats 2000000
/-! TL22: sorted of tuples of integers -/
open PySem PySem.Spec PyProof.Rows L2
namespace TL
/-- a tuple of integers, one at least -/
def IsTI (h : Heap) (v : Value) (ns : List Int) : Prop := ∃ (a : Addr) (o : Obj) (xs : Array Value) (n : Nat), v = .ref a ∧ h.get? a = some o ∧ o.cls = .type "tuple" ∧ o.data = .seq xs n ∧ IntsAre xs.toList ns ∧ ns ≠ []
section
variable {prog : Program} {w : World} {A : Around} {s : Shared}
theorem ti_lex : ∀ (vs ws : List Value) (ns ms : List Int) (i : Nat) (fin : Bool), IntsAre vs ns → IntsAre ws ms → fin = decide (ns.length < ms.length) → PySem.W.KatLex prog w A true fin (fun r s' => s' = s ∧ r = HT.lexLt ns ms) (vs.zip ws) i s
  | _, _, _, _, i, fin, .nil, .nil, hf => by
    refine PySem.W.kat_nil ⟨rfl, ?_⟩
    rw [hf, HT.lexLt_nil_nil]; rfl
  | _, _, _, _, i, fin, .nil, .cons m u hw, hf => by
    refine PySem.W.kat_nil ⟨rfl, ?_⟩
    rw [hf, HT.lexLt_nil_cons, List.length_nil, List.length_cons]
    exact decide_eq_true (by omega)
  | _, _, _, _, i, fin, .cons n t hv, .nil, hf => by
    refine PySem.W.kat_nil ⟨rfl, ?_⟩
    rw [hf, HT.lexLt_cons_nil, List.length_nil]
    exact decide_eq_false (by omega)
  | _, _, _, _, i, fin, .cons n t hv, .cons m u hw, hf => by
    rw [List.zip_cons_cons]
    refine PySem.W.kat_cons (SeqAt.EqAt.int_int n t m u prog w _ _ ?_)
    refine PySem.W.kat_go (fun e1 => ?_) (fun e1 => ?_)
    · have ex : n = m := by simpa using e1
      rw [HT.lexLt_cons, if_pos ex]
      exact PySem.W.kat_yes (ti_lex _ _ _ _ (i + 1) fin hv hw (by rw [hf]; exact decide_eq_decide.mpr (by rw [List.length_cons, List.length_cons]; omega)))
    · have ex : ¬ n = m := by simpa using e1
      rw [HT.lexLt_cons, if_neg ex]
      exact PySem.W.kat_no (TS.oneLt_ints _ ⟨rfl, rfl⟩)
theorem ti_firsts {h : Heap} {k : Value → List Int} : ∀ {vs : List Value}, (∀ v ∈ vs, IsTI h v (k v)) → ∃ fs : List Value, PySem.W.KatTups h vs fs ∧ fs.length = vs.length ∧ ∀ f ∈ fs, ∃ x t, f = Value.int x t
  | [], _ => ⟨[], PySem.W.KatTups.nil, rfl, fun _ hm => by simp at hm⟩
  | v :: vs, hp => by
    obtain ⟨fs, h1, h2, h3⟩ := ti_firsts (vs := vs) fun v' hm => hp v' (List.mem_cons_of_mem _ hm)
    obtain ⟨a, o, xs, n, e, ho, hc, hd, hi, hne⟩ := hp v List.mem_cons_self
    subst e
    have hx : ∃ x t, xs[0]? = some (Value.int x t) := by
      have e0 : xs[0]? = xs.toList[0]? := by rw [Array.getElem?_toList]
      rw [e0]
      revert hi hne
      generalize k (Value.ref a) = ns
      generalize xs.toList = l
      intro hi hne
      cases hi with
      | nil => exact absurd rfl hne
      | cons x t r => exact ⟨x, t, rfl⟩
    obtain ⟨x, t, hx⟩ := hx
    refine ⟨.int x t :: fs, PySem.W.KatTups.cons ho hc hd hx h1, by rw [List.length_cons, List.length_cons, h2], fun f hm => ?_⟩
    rcases List.mem_cons.mp hm with rfl | hm
    · exact ⟨x, t, rfl⟩
    · exact h3 f hm
theorem ti_sortable {a : Addr} {vs : List Value} {k : Value → List Int} (h0 : 0 < vs.length) (hp : ∀ v ∈ vs, IsTI s.heap v (k v)) (ha : ∀ o, s.heap.get? a = some o → o.cls ≠ .type "tuple") : SrtO.SortableO prog w A s a vs fun v u => HT.lexLt (k v) (k u) := by
  intro h' keep
  have hp' : ∀ v ∈ vs, IsTI h' v (k v) := fun v hm => by
    obtain ⟨b, o, xs, n, e, ho, hc, hd, hi, hne⟩ := hp v hm
    exact ⟨b, o, xs, n, e, keep b o (fun z => by subst z; exact ha o ho hc) ho, hc, hd, hi, hne⟩
  obtain ⟨fs, h1, h2, h3⟩ := ti_firsts hp'
  refine ⟨tuples' true, fun Q E hq => ?_, fun p q hm hm' => ?_⟩
  · refine PySem.W.kat_kind (T := .type "int") h1 (by omega) (fun f hm => ?_) (by rfl) ?_
    · obtain ⟨x, t, rfl⟩ := h3 f hm
      exact PySem.W.Looks.now
    · have e : (Value.type "int" != Value.type "tuple") = true := by decide +kernel
      rw [e]
      exact hq
  · obtain ⟨b, o, xs, n, e, ho, hc, hd, hi, _⟩ := hp' _ hm
    obtain ⟨b', o', xs', n', e', ho', hc', hd', hi', _⟩ := hp' _ hm'
    show wpAny (model prog w) A (keyLt' (tuples' true) p.1 q.1) (fun r s' => s' = { s with heap := h' } ∧ r = HT.lexLt (k p.1) (k q.1)) (fun _ _ => False) { s with heap := h' }
    rw [e, e']
    rw [e] at hi
    rw [e'] at hi'
    refine PySem.W.kat_lt ho hd ho' hd' (ti_lex _ _ _ _ 0 _ hi hi' ?_)
    rw [← hi.length, ← hi'.length, Array.length_toList, Array.length_toList]
end
/-- sorted(xs), xs a list of tuples of integers, none of them empty; each item beside its integers -/
def rSortL (K : PySem.W.Frag) : List V → Hp → VK → Prop := fun vs H Q => ∃ (a : Addr) (zs : List (V × List Int)), vs = [V.ref a] ∧ SqL K H a (zs.map (·.1)) ∧ (∀ z ∈ zs, z.2 ≠ [] ∧ ∃ t, z.1 = V.ref t ∧ SqT K H t (z.2.map V.int)) ∧
  ∀ (ys : List (V × List Int)) (p : Addr), ys.Perm zs → ys.Pairwise (fun x y => HT.lexLt y.2 x.2 = false) → H p = none → Q (.ref p) (upd H p (.lst (ys.map (·.1))))
theorem cr_sortL {X : Cx} : CallR X (.builtin "sorted") (rSortL X.K) := by
  intro pins s σ H vs us Q I r h
  obtain ⟨a, zs, rfl, hs, hx, q⟩ := h
  obtain ⟨its, rv, hl, hz⟩ := I.list hs
  rw [Vals.ref1 r]
  obtain ⟨e1, e2⟩ := bkV_refs rv fun x m => by
    obtain ⟨z, hz, rfl⟩ := List.mem_map.mp m
    exact (hx z hz).2.imp fun t h => h.1
  obtain ⟨k, hk⟩ : ∃ k : V → List Int, k = fun x => match x with | .ref t => TS.intsOf s.heap (.ref t) | _ => [] := ⟨_, rfl⟩
  have kz : ∀ z ∈ zs, k z.1 = z.2 := fun z hz => by
    obtain ⟨_, t, e, ht⟩ := hx z hz
    rw [hk, e]
    exact (tupI_raw I ht).ints
  have ez : zs = its.map fun u => (bkV u, k (bkV u)) := by
    have h1 : zs = zs.map fun z => (z.1, k z.1) := by
      have : zs.map (fun z => (z.1, k z.1)) = zs.map id := List.map_congr_left fun z hz => by rw [kz z hz]; rfl
      rw [this, List.map_id]
    have h2 : zs.map (fun z => (z.1, k z.1)) = (zs.map (·.1)).map fun x => (x, k x) := by rw [List.map_map]; rfl
    rw [h1, h2, e1, List.map_map]
    rfl
  have hti : ∀ v ∈ its, IsTI s.heap v (k (bkV v)) := fun v hv => by
    have hm : (bkV v, k (bkV v)) ∈ zs := by
      rw [ez]
      exact List.mem_map.mpr ⟨v, hv, rfl⟩
    obtain ⟨hne, t, e, ht⟩ := hx _ hm
    have ev := bkV_ref e
    subst ev
    obtain ⟨its', rv', ⟨o, ho, hc, n, hd⟩, _⟩ := I.tuple ht
    refine ⟨t, o, its'.toArray, n, rfl, ho, hc, hd, ?_, hne⟩
    have := ints_of_vals rv'
    simpa using this
  have hzl : zs.length = its.length := by
    have := rv.length
    rw [List.length_map] at this
    exact this
  refine SrtO.sorted_ord (ltv := fun v u => HT.lexLt (k (bkV v)) (k (bkV u))) (NtL.swo_lexL fun v => k (bkV v)) hl.isList (by rw [← rv.length]; exact hz) (fun h2 h₁ a' ha' kp => ?_) fun out h1 h2 => ?_
  · refine ti_sortable (by omega) (fun v hv => ?_) (fun o ho z => ?_)
    · obtain ⟨b, o, xs', n, e, ho, r⟩ := hti v hv
      exact ⟨b, o, xs', n, e, (kp b o ho).2, r⟩
    · rw [ha'] at ho
      cases ho
      have z : Value.type "list" = Value.type "tuple" := z
      injection z with z
      exact absurd z (by decide)
  · obtain ⟨ep, he'⟩ := PyProof.Rows.sortedAll_at s.heap its out.toArray
    have h3 : ∀ u ∈ out, ∃ a, u = Value.ref a := fun u hu => e2 u (h2.perm.mem_iff.mp hu)
    have hp : (out.map fun u => (bkV u, k (bkV u))).Perm zs := by
      rw [ez]
      exact h2.perm.map _
    have em : (out.map fun u => (bkV u, k (bkV u))).map (·.1) = out.map bkV := by rw [List.map_map]; rfl
    have hlen : (out.map bkV).length ≤ sizeLine := by
      rw [← em, List.length_map, hp.length_eq]
      rw [List.length_map] at hz
      exact hz
    refine ⟨.ref _, upd H (s.heap.objs.size + 1) (.lst (out.map bkV)), I.laid (t' := s.toks) (fun _ _ => PyProof.Rows.sortedAll_old) (Nat.le_succ _) ⟨hlen, out, ep, bkV_vals h3, he'⟩, rfl, ?_⟩
    rw [← em]
    refine q _ _ hp ?_ (I.hok.fresh (Nat.le_succ _))
    rw [List.pairwise_map]
    exact h1
def tupsT : List T → Option (List (List Int))
  | [] => some []
  | .tup xs :: ts => (intsT xs).bind fun ns => if ns = [] then none else (tupsT ts).map (ns :: ·)
  | _ => none
def tpI (ns : List Int) : T := .tup (ns.map T.int)
theorem tupsT_of : ∀ {ts : List T} {L : List (List Int)}, tupsT ts = some L → ts = L.map tpI ∧ ∀ ns ∈ L, ns ≠ []
  | [], _, h => by cases h; exact ⟨rfl, fun _ h => nomatch h⟩
  | .tup xs :: ts, _, h => by
    obtain ⟨ns, h1, h2⟩ := Option.bind_eq_some_iff.mp h
    split at h2
    · cases h2
    · rename_i hne
      obtain ⟨L, h3, h4⟩ := Option.map_eq_some_iff.mp h2
      subst h4
      obtain ⟨e, f⟩ := tupsT_of h3
      refine ⟨by rw [e, intsT_of h1]; rfl, fun m hm => ?_⟩
      rcases List.mem_cons.mp hm with rfl | hm
      · exact hne
      · exact f m hm
  | .non :: _, _, h => by cases h
  | .bl _ :: _, _, h => by cases h
  | .int _ :: _, _, h => by cases h
  | .str _ :: _, _, h => by cases h
  | .lst _ :: _, _, h => by cases h
  | .wtp _ :: _, _, h => by cases h
  | .dic _ :: _, _, h => by cases h
  | .obj _ _ :: _, _, h => by cases h
  | .exo _ _ :: _, _, h => by cases h
  | .fn _ :: _, _, h => by cases h
  | .nib :: _, _, h => by cases h
def insX (x : List Int) : List (List Int) → List (List Int)
  | [] => [x]
  | y :: ys => if HT.lexLt y x = true then y :: insX x ys else x :: y :: ys
def sortX : List (List Int) → List (List Int)
  | [] => []
  | x :: xs => insX x (sortX xs)
theorem insX_perm (x : List Int) : ∀ l, (insX x l).Perm (x :: l)
  | [] => List.Perm.refl _
  | y :: ys => by
    unfold insX
    split
    · exact ((insX_perm x ys).cons y).trans (List.Perm.swap _ _ _)
    · exact List.Perm.refl _
theorem sortX_perm : ∀ l, (sortX l).Perm l
  | [] => List.Perm.refl _
  | x :: xs => (insX_perm x (sortX xs)).trans ((sortX_perm xs).cons x)
theorem insX_pw (x : List Int) : ∀ l : List (List Int), l.Pairwise (fun a b => HT.lexLt b a = false) → (insX x l).Pairwise (fun a b => HT.lexLt b a = false)
  | [], _ => List.pairwise_singleton _ _
  | y :: ys, h => by
    obtain ⟨h1, h2⟩ := List.pairwise_cons.mp h
    unfold insX
    split
    · rename_i hl
      refine List.pairwise_cons.mpr ⟨fun z hz => ?_, insX_pw x ys h2⟩
      rcases List.mem_cons.mp ((insX_perm x ys).mem_iff.mp hz) with rfl | hz
      · exact NtL.lex_asym _ _ hl
      · exact h1 z hz
    · rename_i hl
      have hl : HT.lexLt y x = false := by simpa using hl
      refine List.pairwise_cons.mpr ⟨fun z hz => ?_, h⟩
      rcases List.mem_cons.mp hz with rfl | hz
      · exact hl
      · exact NtL.lex_tr _ _ _ hl (h1 z hz)
theorem sortX_pw : ∀ l, (sortX l).Pairwise (fun a b => HT.lexLt b a = false)
  | [] => List.Pairwise.nil
  | x :: xs => insX_pw x _ (sortX_pw xs)
theorem lex_anti : ∀ a b : List Int, HT.lexLt a b = false → HT.lexLt b a = false → a = b
  | [], [], _, _ => rfl
  | [], _ :: _, h, _ => by rw [HT.lexLt_nil_cons] at h; cases h
  | _ :: _, [], _, h => by rw [HT.lexLt_nil_cons] at h; cases h
  | x :: a, y :: b, h1, h2 => by
    rw [HT.lexLt_cons] at h1 h2
    by_cases e : x = y
    · subst e
      rw [if_pos rfl] at h1 h2
      rw [lex_anti a b h1 h2]
    · rw [if_neg e] at h1
      rw [if_neg (Ne.symm e)] at h2
      have h1 := of_decide_eq_false h1
      have h2 := of_decide_eq_false h2
      omega
theorem sortX_eq {l m : List (List Int)} (h1 : m.Perm l) (h2 : m.Pairwise (fun a b => HT.lexLt b a = false)) : m = sortX l :=
  List.Perm.eq_of_pairwise (le := fun a b => HT.lexLt b a = false) (fun a b _ _ h1 h2 => lex_anti a b h2 h1) h2 (sortX_pw l) (h1.trans (sortX_perm l).symm)
def sortTN : List T → Option Slot
  | [.lst ts] => (tupsT ts).map fun L => .ow (.lst ((sortX L).map tpI))
  | _ => none
theorem rep_zip {g : Ga} {F : Hp} : ∀ {vs : List V} {L : List (List Int)}, RepAll g F vs (L.map tpI) → (vs.zip L).map (·.1) = vs ∧ (vs.zip L).map (·.2) = L ∧ ∀ z ∈ vs.zip L, Rep g F z.1 (tpI z.2)
  | [], [], _ => ⟨rfl, rfl, fun _ h => nomatch h⟩
  | v :: vs, n :: L, h => by
    cases h with
    | cons a b =>
      obtain ⟨h1, h2, h3⟩ := rep_zip b
      refine ⟨by rw [List.zip_cons_cons, List.map_cons, h1], by rw [List.zip_cons_cons, List.map_cons, h2], fun z hz => ?_⟩
      rw [List.zip_cons_cons] at hz
      rcases List.mem_cons.mp hz with rfl | hz
      · exact a
      · exact h3 z hz
  | [], _ :: _, h => by cases h
  | _ :: _, [], h => by cases h
theorem rep_of {g : Ga} {F : Hp} : ∀ {ys : List (V × List Int)}, (∀ z ∈ ys, Rep g F z.1 (tpI z.2)) → RepAll g F (ys.map (·.1)) ((ys.map (·.2)).map tpI)
  | [], _ => .nil
  | z :: ys, h => .cons (h z List.mem_cons_self) (rep_of fun y hy => h y (List.mem_cons_of_mem _ hy))
theorem p_sortT {X : Cx} {c : Cfg} (hK : c.g.K = X.K) : OpN c (rSortL X.K) sortTN := by
  intro F S σ τ H xs ts z Q A hx hz k
  unfold sortTN at hz
  split at hz
  · obtain ⟨L, h1, h2⟩ := Option.map_eq_some_iff.mp hz
    subst h2
    obtain ⟨e, hne⟩ := tupsT_of h1
    subst e
    obtain ⟨v, rfl, h⟩ := hx.one
    obtain ⟨p, vs, rfl, h3, r⟩ := h.lst A.a.fh
    obtain ⟨z1, z2, z3⟩ := rep_zip r
    refine ⟨p, vs.zip L, rfl, .inl (.inl (by rw [z1]; exact h3)), fun z hz => ⟨hne _ (by rw [← z2]; exact List.mem_map.mpr ⟨z, hz, rfl⟩), ?_⟩, fun ys q h4 h5 np => ?_⟩
    · have := z3 z hz
      cases e : z.1 with
      | ref t =>
        rw [e] at this
        cases this with
        | tup hd ra =>
          refine ⟨t, rfl, ?_⟩
          rw [ra.ints] at hd
          exact hK ▸ sameSqT A.a.fh hd.sq
      | _ => rw [e] at this; cases this
    · have ra := rep_of fun z hz => z3 z (h4.mem_iff.mp hz)
      have es : ys.map (·.2) = sortX L := sortX_eq (by rw [← z2]; exact h4.map _) (by rw [List.pairwise_map]; exact h5)
      rw [es] at ra
      exact fin_ow A k (.lst ra) np
  · cases hz
end TL

end
section
set_option Elab.async false
set_option linter.all false
set_option maxRecDepth 100000
set_option autoImplicit false
set_option maxHeartbeats 2000000
/-! TL23: two items stored at once, three names at once with what they own, repr of tuples of integers -/
open PySem PySem.Spec PyProof.Rows L2
namespace TL
/-- xs[e] = t, xs the own list in slot i -/
def put1 (i : Nat) (fi : OF) (t : T) : SF := fun S => match S.lo[i]? with
  | some (.ow (.lst _)) => (fi S).bind fun o' S2 => match o', S2.lo[i]? with
    | .val (.int k), some (.ow (.lst ts)) => match ixN ts.length k with
      | some j => .ok .nx (S2.put i (.ow (.lst (ts.set j t))))
      | none => .stuck
    | _, _ => .stuck
  | _ => .stuck
def setI2F (i : Nat) (fi : OF) (j : Nat) (fj : OF) (fv : OF) : SF := fun S => (fv S).bind fun o S1 => match o with
  | .val (.tup [t, u]) => (put1 i fi t S1).bind fun fl S2 => match fl with
    | .nx => put1 j fj u S2
    | _ => .stuck
  | _ => .stuck
section
variable {X : Cx} {c : Cfg}
theorem put1_ok {i : Nat} {fi : OF} {t : T} {v : V} {F H : Hp} {S : Sta} {σ : L2.St} {D : Ends} (A : AbsX c F S σ [] H) (r : Rep c.g F v t) (q : sOut c F D (put1 i fi t S)) : gSub (tVar i) (rdO c fi) rSetL v σ H D.nx := by
  unfold put1 at q
  split at q
  · rename_i t0 e0
    obtain ⟨o2, h1, a2, h2, ⟨u, hu, mk⟩, r2⟩ := A.slot e0
    subst h2
    refine ⟨_, h1, [], F, S, A, sOut.bind q fun o' S2 F2 H2 s2 q2 w A2 r2 => ?_⟩
    split at q2
    · rename_i k ts e2
      split at q2
      · rename_i j e3
        obtain ⟨o3, h3, a3, h4, ⟨u', hu', mk'⟩, r3⟩ := A2.slot e2
        subst h4
        rw [h1] at h3
        cases h3
        cases mk' with
        | lst rl =>
          cases r2
          exact ⟨_, _, k, j, rfl, rfl, hu', by rw [rl.length]; exact e3, q2 _ F2 (Same.refl F2) σ (A2.change e2 h1 (.lst (rl.set (r.mono s2) j)))⟩
      · exact q2.elim
    · exact q2.elim
  · exact q.elim
theorem ds_setI2 {i j k : Nat} {x y : Str} {a b e : Expr} {fv fi fj : OF} {p1 p2 q1 q2 pt pos : Pos} (hK : c.g.K = X.K) (hc : X.calm = true) (ho : PE X (.Name x p1) (tVar i)) (ho2 : PE X (.Name y p2) (tVar j)) (hi : PE X a (rdO c fi)) (hj : PE X b (rdO c fj)) (hv : PE X e (rdO c fv))
    (ha : ∀ v, assign (.Subscript (.Name x p1) a q1) X.env v = (do
      let ov ← holding [v] (eval (.Name x p1) X.env)
      let iv ← holding [v, ov] (eval a X.env)
      standAt q1
      holding [v, ov, iv] (setItem ov iv v)
      release [v, ov, iv] []) := by intro _; rfl)
    (hb : ∀ v, assign (.Subscript (.Name y p2) b q2) X.env v = (do
      let ov ← holding [v] (eval (.Name y p2) X.env)
      let iv ← holding [v, ov] (eval b X.env)
      standAt q2
      holding [v, ov, iv] (setItem ov iv v)
      release [v, ov, iv] []) := by intro _; rfl)
    (e1 : (assignEach [.Subscript (.Name x p1) a q1, .Subscript (.Name y p2) b q2] X.env).map (·.2) = assign (.Subscript (.Name x p1) a q1) X.env :: (assignEach [.Subscript (.Name y p2) b q2] X.env).map (·.2) := by rfl)
    (e2 : (assignEach [.Subscript (.Name y p2) b q2] X.env).map (·.2) = assign (.Subscript (.Name y p2) b q2) X.env :: (assignEach [] X.env).map (·.2) := by rfl)
    (e3 : (assignEach [.Subscript (.Name x p1) a q1, .Subscript (.Name y p2) b q2] X.env).length = 2 := by rfl) (e4 : (assignEach [.Subscript (.Name x p1) a q1, .Subscript (.Name y p2) b q2] X.env).findIdx? (·.1) = none := by rfl)
    (hs : swapsWithSole [.Tuple [.Subscript (.Name x p1) a q1, .Subscript (.Name y p2) b q2] k pt] e pos.line X.env = pure false := by rfl) (hw : swappedStores [.Tuple [.Subscript (.Name x p1) a q1, .Subscript (.Name y p2) b q2] k pt] e X.env = pure none := by rfl)
    (h1 : (assignEach [.Tuple [.Subscript (.Name x p1) a q1, .Subscript (.Name y p2) b q2] k pt] X.env).map (·.2) = [assign (.Tuple [.Subscript (.Name x p1) a q1, .Subscript (.Name y p2) b q2] k pt) X.env] := by rfl) :
    PS X (.Assign [.Tuple [.Subscript (.Name x p1) a q1, .Subscript (.Name y p2) b q2] k pt] e pos) (rdS c (setI2F i fi j fj fv)) := by
  refine ps_imp (ps_asg hv (pg_tup (n := 2) hc (pgs_cons (pg_sub ho hi set_list ha) (pgs_cons (pg_sub ho2 hj set_list hb) pgs_nil e2) e1) e3 e4) hs hw h1) fun D σ H q => ?_
  obtain ⟨F, S, A, q⟩ := q
  refine ⟨[], F, S, A, sOut.bind q fun o S1 F1 H1 s1 q1 v A1 r1 => ?_⟩
  split at q1
  · rename_i t u
    cases r1 with
    | tup hd ra =>
      cases ra with
      | cons ra rb =>
        cases rb with
        | cons rb rc =>
          cases rc
          refine ⟨_, _, rfl, hK ▸ sameSqT A1.a.fh hd.sq, rfl, _, _, rfl, ?_⟩
          refine put1_ok (D := { nx := fun σ' H' => gCons (gSub (tVar j) (rdO c fj) rSetL) gNil _ σ' H' D.nx, rt := fun _ _ => False }) A1 ra (sOut.bindS q1 fun fl S2 F2 H2 s2 q2 => ?_)
          cases fl with
          | nx =>
            intro σ2 A2
            refine ⟨_, _, rfl, ?_⟩
            have := put1_ok (D := { nx := fun σ' H' => gNil [] σ' H' D.nx, rt := fun _ _ => False }) A2 (rb.mono s2) (?_ : sOut c F2 _ (put1 j fj u S2))
            · exact this
            · revert q2
              cases hp : put1 j fj u S2 with
              | ok fl S3 =>
                intro q2 H3 F3 s3
                have q3 := q2 H3 F3 s3
                cases fl with
                | nx => exact fun σ3 A3 => ⟨rfl, q3 σ3 A3⟩
                | rt x =>
                  exfalso
                  clear q2 q3
                  unfold put1 at hp
                  split at hp
                  · cases hf : fj S2 with
                    | ok o' S4 =>
                      rw [hf] at hp
                      have hp : (match o', S4.lo[j]? with
                        | .val (.int k), some (.ow (.lst ts)) => match ixN ts.length k with
                          | some j' => R.ok Flow.nx (S4.put j (.ow (.lst (ts.set j' u))))
                          | none => .stuck
                        | _, _ => .stuck) = R.ok (.rt x) S3 := hp
                      split at hp
                      · split at hp <;> cases hp
                      · cases hp
                    | exc e S4 => rw [hf] at hp; cases hp
                    | stuck => rw [hf] at hp; cases hp
                  · cases hp
                | bk =>
                  exfalso
                  clear q2 q3
                  unfold put1 at hp
                  split at hp
                  · cases hf : fj S2 with
                    | ok o' S4 =>
                      rw [hf] at hp
                      have hp : (match o', S4.lo[j]? with
                        | .val (.int k), some (.ow (.lst ts)) => match ixN ts.length k with
                          | some j' => R.ok Flow.nx (S4.put j (.ow (.lst (ts.set j' u))))
                          | none => .stuck
                        | _, _ => .stuck) = R.ok .bk S3 := hp
                      split at hp
                      · split at hp <;> cases hp
                      · cases hp
                    | exc e S4 => rw [hf] at hp; cases hp
                    | stuck => rw [hf] at hp; cases hp
                  · cases hp
                | ct =>
                  exfalso
                  clear q2 q3
                  unfold put1 at hp
                  split at hp
                  · cases hf : fj S2 with
                    | ok o' S4 =>
                      rw [hf] at hp
                      have hp : (match o', S4.lo[j]? with
                        | .val (.int k), some (.ow (.lst ts)) => match ixN ts.length k with
                          | some j' => R.ok Flow.nx (S4.put j (.ow (.lst (ts.set j' u))))
                          | none => .stuck
                        | _, _ => .stuck) = R.ok .ct S3 := hp
                      split at hp
                      · split at hp <;> cases hp
                      · cases hp
                    | exc e S4 => rw [hf] at hp; cases hp
                    | stuck => rw [hf] at hp; cases hp
                  · cases hp
              | exc e S3 => exact id
              | stuck => exact id
          | rt x => exact q2.elim
          | bk => exact q2.elim
          | ct => exact q2.elim
  · exact q1.elim
/-- x, y, z = a, b, c with plain local names, each as it is owned -/
def par3E (i j l : Nat) (f g h : EF) : SF := fun S => (f S).bind fun x S1 => match g (S1.push x) with
  | .ok y S2 => match h (S2.push y) with
    | .ok z S3 => match S3.popG with
      | some (y', S4) => match S4.popG with
        | some (x', S5) => if i < S5.lo.length ∧ j < S5.lo.length ∧ l < S5.lo.length then .ok .nx (((S5.put l z).put j y').put i x') else .stuck
        | none => .stuck
      | none => .stuck
    | .exc e S3 => match S3.popG with
      | some (_, S4) => match S4.popG with
        | some (_, S5) => .exc e S5
        | none => .stuck
      | none => .stuck
    | .stuck => .stuck
  | .exc e S2 => match S2.popG with
    | some (_, S3) => .exc e S3
    | none => .stuck
  | .stuck => .stuck
theorem ds_par3E {i j l : Nat} {x y z : Str} {a b d : Expr} {fa fb fd : EF} {px py pz pt pos : Pos} {kt k2 pt2} (hc : X.calm = true) (hN : X.N.Nodup) (hi : X.N[i]? = some x) (hj : X.N[j]? = some y) (hl : X.N[l]? = some z) (hij : i ≠ j) (hil : i ≠ l) (hjl : j ≠ l)
    (hx : X.env.scope.names.lookup x = some .local) (hy : X.env.scope.names.lookup y = some .local) (hz : X.env.scope.names.lookup z = some .local) (ha : PE X a (rdE c fa)) (hb : PE X b (rdE c fb)) (hd : PE X d (rdE c fd))
    (hw : swappedStores [.Tuple [.Name x px, .Name y py, .Name z pz] kt pt] (.Tuple [a, b, d] k2 pt2) X.env = pure (some [x, y, z]))
    (hs : swapsWithSole [.Tuple [.Name x px, .Name y py, .Name z pz] kt pt] (.Tuple [a, b, d] k2 pt2) pos.line X.env = pure false := by rfl)
    (s1 : starEach [a, b, d] X.env = (false, eval a X.env) :: starEach [b, d] X.env := by rfl) (s2 : starEach [b, d] X.env = (false, eval b X.env) :: starEach [d] X.env := by rfl) (s3 : starEach [d] X.env = (false, eval d X.env) :: starEach [] X.env := by rfl) :
    PS X (.Assign [.Tuple [.Name x px, .Name y py, .Name z pz] kt pt] (.Tuple [a, b, d] k2 pt2) pos) (rdS c (par3E i j l fa fb fd)) := by
  refine ps_imp (ps_par3 hc hN hi hj hl hij hil hjl hx hy hz (pa_cons ha (pa_cons hb (pa_cons hd pa_nil s3) s2) s1) hw hs) fun D σ H q => ?_
  obtain ⟨F, S, A, q⟩ := q
  refine ⟨[], F, S, A, sOut.bind q fun u S1 F1 H1 s1 q1 v A1 => ⟨_, F1, _, A1, ?_⟩⟩
  split at q1
  · rename_i y1 S2 e2
    rw [e2]
    intro H2 F2 s2 w A2
    refine ⟨_, F2, _, A2, ?_⟩
    split at q1
    · rename_i z1 S3 e3
      rw [e3]
      intro H3 F3 s3 t A3
      split at q1
      · rename_i y' S4 e4
        have eS := Sta.popG_some e4
        subst eS
        split at q1
        · rename_i x' S5 e5
          have eS := Sta.popG_some e5
          subst eS
          split at q1
          · rename_i hh
            refine ⟨v, w, t, rfl, ?_⟩
            have l3 : S5.lo.length = σ.length := A3.pop.pop.pop.l
            have A4 := A3.assign (i := l) (by rw [← l3]; exact hh.2.2)
            have A5 : AbsX c F3 (((S5.put l z1).push x').push y') (σ.set l (some t)) (([] ++ [some v]) ++ [some w]) H3 := A4
            have A6 := A5.assign (i := j) (by rw [List.length_set, ← l3]; exact hh.2.1)
            have A7 : AbsX c F3 (((S5.put l z1).put j y').push x') ((σ.set l (some t)).set j (some w)) ([] ++ [some v]) H3 := A6
            have A8 := A7.assign (i := i) (by rw [List.length_set, List.length_set, ← l3]; exact hh.1)
            rw [List.set_comm _ _ (Ne.symm hjl), List.set_comm _ _ (Ne.symm hil), List.set_comm _ _ (Ne.symm hij)] at A8
            exact q1 H3 F3 (s2.trans s3) _ A8
          · exact q1.elim
        · exact q1.elim
      · exact q1.elim
    · rename_i ex S3 e3
      rw [e3]
      intro cls dd H3 F3 s3 A3 r3
      split at q1
      · rename_i y' S4 e4
        have eS := Sta.popG_some e4
        subst eS
        split at q1
        · rename_i x' S5 e5
          have eS := Sta.popG_some e5
          subst eS
          exact q1 cls dd σ H3 F3 (s2.trans s3) A3.pop.pop r3
        · exact q1.elim
      · exact q1.elim
    · exact q1.elim
  · rename_i ex S2 e2
    rw [e2]
    intro cls dd H2 F2 s2 A2 r2
    split at q1
    · rename_i x' S3 e3
      have eS := Sta.popG_some e3
      subst eS
      exact q1 cls dd σ H2 F2 s2 A2.pop r2
    · exact q1.elim
  · exact q1.elim
/-! repr of a tuple of integers -/
def shownI (ns : List Int) : Str := (PyData.tuple (ns.map PyData.int)).shown
def reprTN : List T → Option Slot
  | [.tup ts] => (intsT ts).bind fun ns => if (shownI ns).length ≤ sizeLine ∧ (ns.all fun i => decide (i.natAbs.log2 < 1920)) = true then some (.sh (.str (shownI ns))) else none
  | _ => none
theorem reads_ints {h : Heap} : ∀ {vs : List Value} {ns : List Int}, IntsAre vs ns → ReadsAll h vs (ns.map PyData.int) []
  | _, _, .nil => .nil
  | _, _, .cons n t r => .cons (.int n t) (reads_ints r)
theorem showable_ints : ∀ ns : List Int, (ns.all fun i => decide (i.natAbs.log2 < 1920)) = true → PyData.showableAll (ns.map PyData.int) = true
  | [], _ => by simp only [List.map_nil, PyData.showableAll]
  | n :: ns, h => by
    rw [List.all_cons, Bool.and_eq_true] at h
    simp only [List.map_cons, PyData.showableAll, PyData.showable, showable_ints ns h.2, h.1, Bool.and_self]
theorem hasDict_ints : ∀ ns : List Int, PyData.hasDictAll (ns.map PyData.int) = false
  | [] => by simp only [List.map_nil, PyData.hasDictAll]
  | n :: ns => by
    simp only [List.map_cons, PyData.hasDictAll, PyData.hasDict, hasDict_ints ns, Bool.or_self]
theorem depth_ints : ∀ ns : List Int, PyData.depthAll (ns.map PyData.int) ≤ 1
  | [] => by simp only [List.map_nil, PyData.depthAll]; omega
  | n :: ns => by
    have := depth_ints ns
    simp only [List.map_cons, PyData.depthAll, PyData.depth]
    omega
def rReprT (K : PySem.W.Frag) : List V → Hp → VK → Prop := fun xs H Q => ∃ (a : Addr) (ns : List Int), xs = [.ref a] ∧ SqT K H a (ns.map V.int) ∧ (shownI ns).length ≤ sizeLine ∧ (ns.all fun i => decide (i.natAbs.log2 < 1920)) = true ∧ Q (.str (shownI ns)) H
theorem call_reprT (hgd : X.A.guards = some []) (hu : X.A.units + 10 < cLine) : CallR X (.builtin "repr") (rReprT X.K) := by
  intro pins s σ H xs us Q I r h
  obtain ⟨a, ns, rfl, hs, hz, hsm, q⟩ := h
  obtain ⟨u, rfl, rx⟩ := vals1 r
  cases rx
  obtain ⟨its, r', ⟨o, ho, hc, n, hd⟩, _⟩ := I.tuple hs
  have rd : Reads s.heap (.ref a) (.tuple (ns.map PyData.int)) [] := .tuple ho hc hd (reads_ints (by simpa using ints_of_vals r'))
  refine repr_of_reads' rd (by unfold PyData.showable; exact showable_ints ns hsm) (PyData.noDict_hsm ?_) hgd ?_ (fun _ _ e => e) (fun h' u tk kp => ?_) hz
  · unfold PyData.hasDict; exact hasDict_ints ns
  · have := depth_ints ns
    simp only [PyData.depth]
    omega
  · exact ⟨.str _, H, I.kept (t' := tk) kp, ⟨_, rfl⟩, q⟩
theorem p_reprT (hK : c.g.K = X.K) : OpN c (rReprT X.K) reprTN := by
  intro F S σ τ H xs ts z Q A hx hz k
  unfold reprTN at hz
  split at hz
  · obtain ⟨ns, h1, h2⟩ := Option.bind_eq_some_iff.mp hz
    split at h2
    · rename_i hl
      cases h2
      have e := intsT_of h1
      subst e
      obtain ⟨v, rfl, h⟩ := hx.one
      obtain ⟨p, vs, rfl, h3, r⟩ := h.tup A.a.fh
      rw [r.ints] at h3
      exact ⟨p, ns, rfl, hK ▸ h3, hl.1, hl.2, fin_sh A k (.str _)⟩
    · cases h2
  · cases hz
end
end TL

end
section
set_option Elab.async false
set_option linter.all false
set_option maxRecDepth 100000
set_option autoImplicit false
set_option maxHeartbeats 2000000
/-! TL24: range with a step; sorted of either kind -/
open PySem PySem.Spec PyProof.Rows L2
namespace TL
def rgC (i c : Int) (n : Nat) : List T := (List.range n).map fun k => T.int (i + (k : Nat) * c)
def rgc (a b c : Int) : R (List T) → Sta → R (List T) := fun r S => if c ≠ 0 ∧ c.natAbs < 1073741824 ∧ Builtin.Range.small a b c = true ∧ Builtin.Range.rangeSize a b c = ((Builtin.Range.rangeSize a b c).toNat : Int) then .ok (rgC a c (Builtin.Range.rangeSize a b c).toNat) S else .stuck
def rngI3 (ta : AF) : IF := fun S => (ta S).bind fun os S1 => match vals os with
  | some [.int i, .int j, .int k] => rgc i j k .stuck S1
  | _ => .stuck
theorem rgC_length (i c : Int) (n : Nat) : (rgC i c n).length = n := by unfold rgC; rw [List.length_map, List.length_range]
theorem it_rngC {c : Cfg} {F : Hp} {i k : Int} {n : Nat} : IterOk c (Itc i k n) F (rgC i k n) where
  stop := fun H s => by rw [rgC_length]; exact Nat.le_refl _
  go := fun j H h s => by rw [rgC_length] at h; exact h
  yld := fun j x H H' F' S σ τ h s A y => by
    rw [rgC_length] at h
    obtain ⟨rfl, rfl⟩ := y
    refine ⟨_, F', ?_, Same.refl _, A.pushSh (.int _)⟩
    unfold rgC
    rw [List.getElem?_map, List.getElem?_range h]
    rfl
section
variable {X : Cx} {c : Cfg} {tg e a b d : Expr} {es : List Expr} {pos : Pos}
theorem di_rng3 {p : Pos} {fa : AF} (hg : Gl X "range") (hm : X.mg "range" = none) (ha : PA X [a, b, d] (rdA c fa)) (hs : starEach [a, b, d] X.env = (false, eval a X.env) :: starEach [b, d] X.env := by rfl) (hpl : (backTo pos (starEach [b, d] X.env)).any (·.1) = false := by rfl) :
    PI X tg (.Call (.Name "range" p) [a, b, d] [] pos) (rdI c (rngI3 fa)) := by
  refine PI.imp (pi_range3 hg hm ha hs hpl) fun σ H Q q => ?_
  obtain ⟨τ, F, S, A, q⟩ := q
  refine ⟨τ, F, S, A, rOut.bind q fun os S1 F1 H1 s1 q1 vs A1 r1 => ?_⟩
  split at q1
  · rename_i i j k e1
    have rv := r1.vals e1
    cases rv with
    | cons ra rv =>
      cases rv with
      | cons rb rv =>
        cases rv with
        | cons rc rv =>
          cases rv
          cases ra
          cases rb
          cases rc
          unfold rgc at q1
          split at q1
          · rename_i h
            exact ⟨i, j, k, _, rfl, ⟨h.1, h.2.1, h.2.2.1, h.2.2.2⟩, q1 H1 F1 (Same.refl F1) _ A1 it_rngC⟩
          · exact q1.elim
  · exact q1.elim
/-- sorted of integers or of tuples of integers -/
def sortBN (ts : List T) : Option Slot := match sortedN ts with
  | some z => some z
  | none => sortTN ts
def rSortB (K : PySem.W.Frag) : List V → Hp → VK → Prop := fun vs H Q => rSortedA K vs H Q ∨ rSortL K vs H Q
theorem cr_sortB : CallR X (.builtin "sorted") (rSortB X.K) := fun pins s σ H xs us Q I r h => h.elim (cr_sortedA pins s σ H xs us Q I r) (cr_sortL pins s σ H xs us Q I r)
theorem p_sortB (hK : c.g.K = X.K) : OpN c (rSortB X.K) sortBN := by
  intro F S σ τ H xs ts z Q A hx hz k
  unfold sortBN at hz
  split at hz
  · rename_i z' e
    cases hz
    exact .inl (p_sorted hK F S σ τ H xs ts z Q A hx e k)
  · exact .inr (p_sortT hK F S σ τ H xs ts z Q A hx hz k)
end
end TL

end
section
set_option Elab.async false
set_option linter.all false
set_option maxRecDepth 100000
set_option autoImplicit false
set_option maxHeartbeats 400000
/-! TL25: facts of operators on rows of naturals -/
open PySem PySem.Spec PyProof.Rows L2
namespace TL
theorem sortI_range (p : List Nat) (n : Nat) (hp : p.Perm (List.range n)) : sortI (p.map fun (n : Nat) => (n : Int)) = (List.range n).map fun (n : Nat) => (n : Int) := by
  refine List.Perm.eq_of_pairwise (le := (· ≤ ·)) (fun a b _ _ h1 h2 => Int.le_antisymm h1 h2) (sortI_pw _) ?_ ((sortI_perm _).trans (hp.map _))
  rw [List.pairwise_map]
  exact (List.pairwise_lt_range).imp fun h => by omega
theorem intsT_tn (p : List Nat) : intsT (tn p) = some (p.map fun (n : Nat) => (n : Int)) := by
  have := intsT_map (p.map fun (n : Nat) => (n : Int))
  rwa [List.map_map] at this
theorem sorted_l (p : List Nat) (n : Nat) (hp : p.Perm (List.range n)) : sortedN [.lst (tn p)] = some (.ow (.lst (tn (List.range n)))) := by
  show (intsT (tn p)).map _ = _
  rw [intsT_tn, Option.map_some, sortI_range p n hp, List.map_map]; rfl
theorem sorted_t (p : List Nat) (n : Nat) (hp : p.Perm (List.range n)) : sortedN [.tup (tn p)] = some (.ow (.lst (tn (List.range n)))) := by
  show (intsT (tn p)).map _ = _
  rw [intsT_tn, Option.map_some, sortI_range p n hp, List.map_map]; rfl
theorem lrg_n (n : Nat) (h : n ≤ 1000) : lrg1 (.int (n : Int)) = some (.ow (.lst (tn (List.range n)))) := by
  show (if -(2 ^ 62) ≤ (n : Int) ∧ (n : Int) ≤ 16777216 then some (Slot.ow (T.lst (rgT 0 n))) else none) = _
  rw [if_pos (by omega), rg_tn]
theorem le_nat (a b : Nat) : leT (.int (a : Int)) (.int (b : Int)) = some (.sh (.bl (decide (a ≤ b)))) := by
  show some (Slot.sh (T.bl (decide ((a : Int) ≤ b)))) = _
  simp
def sq (b : Bool) (ts : List T) : T := if b then .tup ts else .lst ts
def mx (l : List Nat) : Nat := l.foldl max 0
theorem maxI_nat : ∀ (xs : List Nat) (x : Nat), maxI (x : Int) (xs.map fun (n : Nat) => (n : Int)) = ((xs.foldl max x : Nat) : Int)
  | [], _ => rfl
  | y :: xs, x => by
    have ih := maxI_nat xs (max x y)
    unfold maxI at ih ⊢
    rw [List.map_cons, List.foldl_cons, List.foldl_cons, ← ih]
    congr 1
    by_cases h : x < y
    · rw [if_pos (by omega)]; omega
    · rw [if_neg (by omega)]; omega
theorem maxDf_n (l : List Nat) : maxDfT (.lst (tn l)) (.int 0) = some (.sh (.int ((mx l : Nat) : Int))) := by
  show (intsT (tn l)).map _ = _
  rw [intsT_tn, Option.map_some]
  cases l with
  | nil => rfl
  | cons x xs =>
    show some (Slot.sh (T.int (maxI (x : Int) (xs.map fun (n : Nat) => (n : Int))))) = _
    rw [maxI_nat]
    unfold mx
    rw [List.foldl_cons, Nat.zero_max]
theorem eraseIdx_perm {l : List Nat} {i x : Nat} (h : l[i]? = some x) : l.Perm (x :: l.eraseIdx i) := by
  induction l generalizing i with
  | nil => simp at h
  | cons a l ih =>
    cases i with
    | zero => simp at h; subst h; exact List.Perm.refl _
    | succ i => exact ((ih (by simpa using h)).cons a).trans (List.Perm.swap _ _ _)
theorem tn_erase (p : List Nat) (i : Nat) : (tn p).eraseIdx i = tn (p.eraseIdx i) := by
  induction p generalizing i with
  | nil => rfl
  | cons a p ih => cases i with
    | zero => rfl
    | succ i => rw [tn_cons, List.eraseIdx_cons_succ, ih, List.eraseIdx_cons_succ, tn_cons]
theorem popAt_n {p : List Nat} {i x : Nat} (h : p[i]? = some x) (hi : i ≤ 1000) : popAtP (tn p) [.int (i : Int)] = some (tn (p.eraseIdx i), .int (x : Int)) := by
  have hl : i < p.length := (List.getElem?_eq_some_iff.mp h).1
  unfold popAtP
  have e : seqIndex? (i : Int) (tn p).length = some i := seqIndex_of (by omega) (by rw [tn_length]; omega)
  simp only [e, tn_get h]
  rw [if_pos ⟨by omega, by omega⟩, tn_erase]
theorem lt_nat (a b : Nat) : ltA (.int (a : Int)) (.int (b : Int)) = some (.sh (.bl (decide (a < b)))) := by
  show some (Slot.sh (T.bl (decide ((a : Int) < b)))) = _
  simp
theorem ge_nat (a b : Nat) : geT (.int (a : Int)) (.int (b : Int)) = some (.sh (.bl (decide (b ≤ a)))) := by
  show some (Slot.sh (T.bl (decide ((b : Int) ≤ a)))) = _
  simp
theorem sub_nat {a b : Nat} (h : b ≤ a) : subT (.int (a : Int)) (.int (b : Int)) = some (.sh (.int ((a - b : Nat) : Int))) := by
  show some (Slot.sh (T.int ((a : Int) - b))) = _
  rw [Int.natCast_sub h]
theorem len_tn (p : List Nat) : lenN [.lst (tn p)] = some (.sh (.int (p.length : Int))) := by
  show some (Slot.sh (T.int ((tn p).length : Int))) = _
  rw [tn_length]
theorem len_tnt (p : List Nat) : lenN [.tup (tn p)] = some (.sh (.int (p.length : Int))) := by
  show some (Slot.sh (T.int ((tn p).length : Int))) = _
  rw [tn_length]
def tll (L : List (List Nat)) : List T := L.map fun p => T.lst (tn p)
theorem tll_length (L : List (List Nat)) : (tll L).length = L.length := List.length_map _
theorem tll_append (a b : List (List Nat)) : tll (a ++ b) = tll a ++ tll b := List.map_append
theorem cat_l (a b : List T) (h : a.length + b.length ≤ 100000) : addT (.lst a) (.lst b) = some (.ow (.lst (a ++ b))) := if_pos (len_sz h)
theorem cut1 (ts : List T) : cutT ts (some 1) none = ts.drop 1 := by
  unfold cutT
  rw [HT.sIx_none, show (1 : Int) = ((1 : Nat) : Int) from rfl, HT.sIx_nat]
  cases ts with
  | nil => rfl
  | cons a l =>
    rw [List.length_cons, Nat.min_eq_left (by omega)]
    exact List.take_of_length_le (by rw [List.length_drop, List.length_cons]; omega)
theorem slT_l (ts : List T) : slT' (.lst ts) (some 1) none = some (.ow (.lst (ts.drop 1))) := by
  show some (Slot.ow (T.lst (cutT ts (some 1) none))) = _
  rw [cut1]
theorem tn_drop (p : List Nat) (i : Nat) : (tn p).drop i = tn (p.drop i) := by unfold tn; rw [List.map_drop]
theorem zip_tn : ∀ p q : List Nat, zipT (tn p) (tn q) = (p.zip q).map fun ab => T.wtp [.int (ab.1 : Int), .int (ab.2 : Int)]
  | [], q => by cases q <;> rfl
  | _ :: _, [] => rfl
  | a :: p, b :: q => by
    rw [tn_cons, tn_cons, zipT, zip_tn p q]; rfl
theorem mx_eq (l : List Nat) (x : Nat) : mx (x :: l) = l.foldl max x := by unfold mx; rw [List.foldl_cons, Nat.zero_max]
theorem maxAN_l {l : List Nat} (h : l ≠ []) : maxAN [.lst (tn l)] = some (.sh (.int ((mx l : Nat) : Int))) := by
  show (intsT (tn l)).bind _ = _
  rw [intsT_tn, Option.bind_some]
  cases l with
  | nil => exact absurd rfl h
  | cons x xs =>
    show some (Slot.sh (T.int (maxI (x : Int) (xs.map fun (n : Nat) => (n : Int))))) = _
    rw [maxI_nat, mx_eq]
theorem maxAN_t {l : List Nat} (h : l ≠ []) : maxAN [.tup (tn l)] = some (.sh (.int ((mx l : Nat) : Int))) := by
  show (intsT (tn l)).bind _ = _
  rw [intsT_tn, Option.bind_some]
  cases l with
  | nil => exact absurd rfl h
  | cons x xs =>
    show some (Slot.sh (T.int (maxI (x : Int) (xs.map fun (n : Nat) => (n : Int))))) = _
    rw [maxI_nat, mx_eq]
theorem ix_last {p : List Nat} (h : p ≠ []) : ixT (.lst (tn p)) (.int (-1)) = some (.sh (.int ((p.getLastD 0 : Nat) : Int))) := by
  have h0 : 0 < p.length := List.length_pos_iff.mpr h
  have e : ixN (tn p).length (-1) = some (p.length - 1) := by
    unfold ixN
    rw [tn_length, if_neg (by omega), if_pos (by omega)]
    congr 1
    omega
  show (atI (tn p) (-1)).map Slot.sh = _
  unfold atI
  rw [e]
  show ((tn p)[p.length - 1]?).map Slot.sh = _
  have g : p[p.length - 1]? = some (p.getLastD 0) := by
    rw [← List.getLast?_eq_getElem?, List.getLastD_eq_getLast?, List.getLast?_eq_some_getLast h]; rfl
  rw [tn_get g]; rfl
theorem tuple_l (ts : List T) : tupleN [.lst ts] = some (.sh (.tup ts)) := rfl
theorem idxP_tn {p : List Nat} {j x : Nat} (h : p[j]? = some x) (hn : ∀ m < j, p[m]? ≠ some x) : idxP (tn p) (.int (x : Int)) = some (.sh (.int (j : Nat))) := by
  unfold idxP
  rw [if_pos ⟨okTs_tn p 0, rfl⟩]
  have hj : j < p.length := (List.getElem?_eq_some_iff.mp h).1
  have e : (tn p).findIdx? (fun y => eqD y (.int (x : Int))) = some j := by
    rw [List.findIdx?_eq_some_iff_getElem]
    refine ⟨by rw [tn_length]; exact hj, ?_, fun m hm => ?_⟩
    · have g := tn_get h
      have e2 : (tn p)[j]'(by rw [tn_length]; exact hj) = .int (x : Int) := by
        rw [List.getElem?_eq_getElem (by rw [tn_length]; exact hj)] at g
        exact Option.some.inj g
      rw [e2]
      show PyData.eqv (.int (x : Int)) (.int (x : Int)) = true
      rw [eqv_int]; simp
    · have hm2 : m < p.length := by omega
      have g := tn_get (List.getElem?_eq_getElem hm2)
      have e2 : (tn p)[m]'(by rw [tn_length]; exact hm2) = .int ((p[m] : Nat) : Int) := by
        rw [List.getElem?_eq_getElem (by rw [tn_length]; exact hm2)] at g
        exact Option.some.inj g
      rw [e2]
      have hne := hn m hm
      rw [List.getElem?_eq_getElem hm2] at hne
      show ¬ PyData.eqv (.int ((p[m] : Nat) : Int)) (.int (x : Int)) = true
      rw [eqv_int]
      simp only [decide_eq_true_eq]
      intro z
      exact hne (by rw [show p[m] = x by omega])
  rw [e]
  rfl
theorem idxF_tup {fa fb : OF} {S S1 S2 : Sta} {o o' : Opd} {ts ts' : List T} {u : T} {z : Slot} (h1 : fa S = .ok o S1) (g1 : o.get S1 = some (.tup ts)) (h2 : fb S1 = .ok o' S2) (g2 : o.get S2 = some (.tup ts')) (g3 : o'.get S2 = some u) (hz : idxP ts' u = some z) : idxF fa fb S = .ok z S2 := by
  unfold idxF
  rw [h1, R.bind_ok, g1]
  dsimp only
  rw [h2, R.bind_ok, g2, g3]
  dsimp only
  rw [hz, res_some]
theorem ixs {b : Bool} {p : List Nat} {i n : Nat} (h : p[i]? = some n) : ixT (sq b (tn p)) (.int (i : Int)) = some (.sh (.int (n : Int))) := by
  cases b
  · exact ix_lst (tn_get h)
  · exact ix_tup (tn_get h)
theorem gt_n (a b : Nat) : gtA (.int (a : Int)) (.int (b : Int)) = some (.sh (.bl (decide (b < a)))) := by
  show some (Slot.sh (T.bl (decide ((b : Int) < a)))) = _
  simp
theorem eq_n (a b : Nat) : eqT (.int (a : Int)) (.int (b : Int)) = some (.sh (.bl (decide (a = b)))) := by
  rw [eq_int, show decide ((a : Int) = (b : Int)) = decide (a = b) from decide_eq_decide.mpr Int.ofNat_inj]
theorem getN {p : List Nat} {i : Nat} (h : i < p.length) : p[i]? = some (p.getD i 0) := by rw [List.getD_eq_getElem?_getD, List.getElem?_eq_getElem h]; rfl
theorem ixD (b : Bool) {p : List Nat} {i : Nat} (h : i < p.length) : ixT (sq b (tn p)) (.int (i : Int)) = some (.sh (.int ((p.getD i 0 : Nat) : Int))) := ixs (getN h)
theorem rev_l (p : List Nat) : revT (.lst (tn p)) = some (.ow (.lst (tn p.reverse))) := by
  show some (Slot.ow (T.lst (tn p).reverse)) = _
  unfold tn
  rw [List.map_reverse]
def insN (x : Nat) : List Nat → List Nat
  | [] => [x]
  | y :: ys => if x ≤ y then x :: y :: ys else y :: insN x ys
def sortN : List Nat → List Nat
  | [] => []
  | x :: xs => insN x (sortN xs)
def dedN : List Nat → List Nat
  | [] => []
  | x :: xs => if x ∈ dedN xs then dedN xs else x :: dedN xs
theorem insI_nat (x : Nat) : ∀ l : List Nat, insI (x : Int) (l.map fun (n : Nat) => (n : Int)) = (insN x l).map fun (n : Nat) => (n : Int)
  | [] => rfl
  | y :: ys => by
    rw [List.map_cons]
    unfold insI insN
    by_cases h : x ≤ y
    · rw [if_pos (by omega), if_pos h]; rfl
    · rw [if_neg (by omega), if_neg h, insI_nat x ys]; rfl
theorem sortI_nat : ∀ l : List Nat, sortI (l.map fun (n : Nat) => (n : Int)) = (sortN l).map fun (n : Nat) => (n : Int)
  | [] => rfl
  | x :: xs => by
    rw [List.map_cons, sortI, sortI_nat xs, insI_nat]; rfl
theorem ded_nat : ∀ l : List Nat, dedup (l.map fun (n : Nat) => (n : Int)) = (dedN l).map fun (n : Nat) => (n : Int)
  | [] => rfl
  | x :: xs => by
    rw [List.map_cons, dedup, ded_nat xs]
    have h : ((x : Int) ∈ (dedN xs).map fun (n : Nat) => (n : Int)) ↔ x ∈ dedN xs := by
      rw [List.mem_map]
      constructor
      · rintro ⟨y, h, e⟩; rwa [← Int.ofNat_inj.mp e]
      · exact fun h => ⟨x, h, rfl⟩
    have e : dedN (x :: xs) = if x ∈ dedN xs then dedN xs else x :: dedN xs := rfl
    rw [e]
    by_cases c : x ∈ dedN xs
    · rw [if_pos (h.mpr c), if_pos c]
    · rw [if_neg (fun z => c (h.mp z)), if_neg c]; rfl
theorem sorted_n (l : List Nat) : sortedN [.lst (tn l)] = some (.ow (.lst (tn (sortN l)))) := by
  show (intsT (tn l)).map _ = _
  rw [intsT_tn, Option.map_some, sortI_nat, List.map_map]; rfl
theorem sortSet_n {l : List Nat} (h : l.length < 60) : sortSetN [.tup (tn l)] = some (.ow (.lst (tn (sortN (dedN l))))) := by
  show (intsT (tn l)).bind _ = _
  rw [intsT_tn, Option.bind_some, if_pos (by rw [List.length_map]; exact h), ded_nat, sortI_nat, List.map_map]; rfl
theorem ne_lst (p q : List Nat) : neT (.lst (tn p)) (.lst (tn q)) = some (.sh (.bl (!decide (p = q)))) := by
  unfold neT
  rw [if_pos ⟨okD_lst p 59, okD_lst q 59⟩, eqD_lst]
theorem prm_one {α : Type} (x : α) : prm [0] [x] = [x] := rfl
theorem prm_swap {α : Type} (x y : α) : prm [1, 0] [x, y] = [y, x] := rfl
theorem ex_l (a b : List Nat) (h : a.length + b.length ≤ 1000) : exP (tn a) [.lst (tn b)] = some (tn (a ++ b), .non) := by
  show (if (tn a).length + (tn b).length ≤ sz then some (tn a ++ tn b, T.non) else none) = _
  rw [if_pos (by rw [tn_length, tn_length]; exact len_sz (by omega)), tn_append]
theorem isN_bool_int (z : Int) : isN ["bool"] (.int z) = some (.sh (.bl false)) := isN_int_bool z
theorem mx_in : ∀ (l : List Nat) (a : Nat), l.foldl max a = a ∨ l.foldl max a ∈ l
  | [], a => .inl rfl
  | x :: l, a => by
    rw [List.foldl_cons]
    rcases mx_in l (max a x) with h | h
    · rw [h]
      by_cases q : a ≤ x
      · rw [Nat.max_eq_right q]; exact .inr List.mem_cons_self
      · rw [Nat.max_eq_left (by omega)]; exact .inl rfl
    · exact .inr (List.mem_cons_of_mem _ h)
theorem mx_le : ∀ (l : List Nat) (a x : Nat), x ∈ l ∨ x ≤ a → x ≤ l.foldl max a
  | [], a, x, h => h.elim (fun h => nomatch h) id
  | y :: l, a, x, h => by
    rw [List.foldl_cons]
    refine mx_le l (max a y) x ?_
    rcases h with h | h
    · rcases List.mem_cons.mp h with rfl | h
      · exact .inr (Nat.le_max_right _ _)
      · exact .inl h
    · exact .inr (Nat.le_trans h (Nat.le_max_left _ _))
theorem mx_mem {l : List Nat} (h : l ≠ []) : mx l ∈ l := by
  rcases mx_in l 0 with e | e
  · cases l with
    | nil => exact absurd rfl h
    | cons x l =>
      have := mx_le (x :: l) 0 x (.inl List.mem_cons_self)
      have e' : mx (x :: l) = 0 := e
      rw [e']
      have e2 : (x :: l).foldl max 0 = 0 := e
      rw [e2] at this
      have : x = 0 := by omega
      rw [this]
      exact List.mem_cons_self
  · exact e
theorem seq_nx {f g : SF} {S S1 : Sta} {r : R TL.Flow} (h1 : f S = .ok .nx S1) (h2 : g S1 = r) : seqF f g S = r := by
  rw [w_seq, h1, w_okB, kSeq_nx, h2]
theorem okTs_tl : ∀ (L : List (List Nat)) (n : Nat), T.okTs (tll L) (n + 1) = true
  | [], _ => rfl
  | p :: L, n => by
    show (T.okT (.lst (tn p)) (n + 1) && T.okTs (tll L) (n + 1)) = true
    rw [okTs_tl L n, Bool.and_true]
    exact okD_lst p n
theorem any_tl (f : List Nat) : ∀ L : List (List Nat), ((tll L).any fun y => eqD y (.lst (tn f))) = decide (f ∈ L)
  | [] => by simp [tll]
  | p :: L => by
    show (eqD (.lst (tn p)) (.lst (tn f)) || (tll L).any fun y => eqD y (.lst (tn f))) = _
    rw [any_tl f L, eqD_lst, Bool.eq_iff_iff]
    simp only [Bool.or_eq_true, decide_eq_true_eq, List.mem_cons]
    constructor
    · rintro (h | h)
      · exact .inl h.symm
      · exact .inr h
    · rintro (h | h)
      · exact .inl h.symm
      · exact .inr h
theorem notin_tl {f : List Nat} {L : List (List Nat)} (h : f ∈ L) : inT true (.lst (tn f)) (.lst (tll L)) = some (.sh (.bl false)) := by
  show (if T.okD 60 (.lst (tn f)) = true ∧ T.okD 60 (.lst (tll L)) = true then some (Slot.sh (T.bl (true != (tll L).any fun y => eqD y (.lst (tn f))))) else none) = _
  rw [if_pos ⟨okD_lst f 59, okTs_tl L 58⟩, any_tl, decide_eq_true h]
  rfl
theorem ne_pair (a b : List Nat) : neT (.tup [.tup (tn a), .tup (tn b)]) (.tup [.tup (tn a), .tup (tn b)]) = some (.sh (.bl false)) := by
  have ok : T.okD 60 (.tup [.tup (tn a), .tup (tn b)]) = true := by
    show (T.okT (.tup (tn a)) 59 && (T.okT (.tup (tn b)) 59 && true)) = true
    have h1 : T.okT (.tup (tn a)) 59 = true := okD_tup a 58
    have h2 : T.okT (.tup (tn b)) 59 = true := okD_tup b 58
    rw [h1, h2]; rfl
  unfold neT
  rw [if_pos ⟨ok, ok⟩]
  have e : eqD (.tup [.tup (tn a), .tup (tn b)]) (.tup [.tup (tn a), .tup (tn b)]) = true := by
    show (eqD (.tup (tn a)) (.tup (tn a)) && (eqD (.tup (tn b)) (.tup (tn b)) && true)) = true
    rw [eqD_tup, eqD_tup, decide_eq_true rfl, decide_eq_true rfl]; rfl
  rw [e]; rfl
theorem isN_tup1 (z : List T) : isN ["tuple"] (.tup z) = some (.sh (.bl true)) := by
  simp only [isN, tyN, Option.bind_some, show kitN "tuple" ["tuple"] = some true by decide +kernel]; rfl
theorem repr_bl (b : Bool) : reprN [.bl b] = some (.sh (.str (if b then "True" else "False"))) := by cases b <;> rfl
theorem ne_str (x : Str) (h : PyData.strOk x = true) : neT (.str x) (.str x) = some (.sh (.bl false)) := by
  unfold neT
  rw [if_pos ⟨h, h⟩]
  have e : eqD (.str x) (.str x) = true := by
    show (x == x) = true
    exact beq_self_eq_true x
  rw [e]; rfl
theorem ne_repr (b : Bool) : neT (.str (if b then "True" else "False")) (.str (if b then "True" else "False")) = some (.sh (.bl false)) :=
  ne_str _ (by cases b <;> decide +kernel)
theorem max2_n (a b : Nat) : max2N [.int (a : Int), .int (b : Int)] = some (.sh (.int ((max a b : Nat) : Int))) := by
  show some (Slot.sh (T.int (if (b : Int) > a then (b : Int) else a))) = _
  by_cases h : a < b
  · rw [if_pos (by omega), Nat.max_eq_right (by omega)]
  · rw [if_neg (by omega), Nat.max_eq_left (by omega)]
theorem list_t (ts : List T) : listN [.tup ts] = some (.ow (.lst ts)) := rfl
theorem list_l (ts : List T) : listN [.lst ts] = some (.ow (.lst ts)) := rfl
theorem nil_of {l : List Nat} : l.filterMap (fun _ => (none : Option T)) = [] := by
  induction l with
  | nil => rfl
  | cons a l ih => rw [List.filterMap_cons]; exact ih
theorem pow1030 : powT (.int 10) (.int 30) = some (.sh (.int ((10 ^ 30 : Nat) : Int))) := by
  have := pow_ok (i := 10) (j := 30) (by decide) (by decide)
  exact this
theorem addN (a b : Nat) : addT (.int (a : Int)) (.int (b : Int)) = some (.sh (.int ((a + b : Nat) : Int))) := rfl
theorem catT (a b : List Nat) (h : a.length + b.length ≤ 1000) : addT (.tup (tn a)) (.tup (tn b)) = some (.sh (.tup (tn (a ++ b)))) := by
  show (if (tn a).length + (tn b).length ≤ sz then some (Slot.sh (T.tup (tn a ++ tn b))) else none) = _
  rw [if_pos (by rw [tn_length, tn_length]; exact len_sz (by omega)), tn_append]
theorem ne_self_t (l : List Nat) : neT (.tup (tn l)) (.tup (tn l)) = some (.sh (.bl false)) := by rw [ne_tup, decide_eq_true rfl]; rfl
theorem askF_exc {ask : Nib → FR} {e : Ex} {l gh : List Slot} {nb n : Nib} (h : ask nb = .exc e n) : askF 0 ask ⟨.fu :: l, gh, nb⟩ = .exc e ⟨.fu :: l, gh, n⟩ := by
  show (match ask nb with
    | .ok x n => R.ok x { (⟨.fu :: l, gh, nb⟩ : Sta) with nb := n }
    | .exc e n => .exc e { (⟨.fu :: l, gh, nb⟩ : Sta) with nb := n }
    | .stuck => .stuck) = _
  rw [h]
end TL

end
section
set_option Elab.async false
set_option linter.all false
set_option maxRecDepth 100000
set_option autoImplicit false
set_option maxHeartbeats 2000000
/-! TL26: x, y = a, b by way of a tuple (some of the names are cells), each as it is owned -/
open PySem PySem.Spec PyProof.Rows L2
namespace TL
section
variable {X : Cx} {c : Cfg}
theorem ds_parA {i j : Nat} {x y : Str} {a b : Expr} {fa fb : EF} {px py pt pos : Pos} {kt k2 : Nat} {pt2 : Pos} (hc : X.calm = true) (hij : i ≠ j) (g1 : PG X (.Name x px) (gName i)) (g2 : PG X (.Name y py) (gName j)) (ha : PE X a (rdE c fa)) (hb : PE X b (rdE c fb))
    (e1 : (assignEach [.Name x px, .Name y py] X.env).map (·.2) = assign (.Name x px) X.env :: (assignEach [.Name y py] X.env).map (·.2) := by rfl) (e2 : (assignEach [.Name y py] X.env).map (·.2) = assign (.Name y py) X.env :: (assignEach [] X.env).map (·.2) := by rfl)
    (e3 : (assignEach [.Name x px, .Name y py] X.env).length = 2 := by rfl) (e4 : (assignEach [.Name x px, .Name y py] X.env).findIdx? (·.1) = none := by rfl)
    (hs : swapsWithSole [.Tuple [.Name x px, .Name y py] kt pt] (.Tuple [a, b] k2 pt2) pos.line X.env = pure false := by rfl) (hw : swappedStores [.Tuple [.Name x px, .Name y py] kt pt] (.Tuple [a, b] k2 pt2) X.env = pure none := by rfl)
    (h1 : (assignEach [.Tuple [.Name x px, .Name y py] kt pt] X.env).map (·.2) = [assign (.Tuple [.Name x px, .Name y py] kt pt) X.env] := by rfl)
    (s2 : starEach [a, b] X.env = (false, eval a X.env) :: starEach [b] X.env := by rfl) (s3 : starEach [b] X.env = (false, eval b X.env) :: starEach [] X.env := by rfl) :
    PS X (.Assign [.Tuple [.Name x px, .Name y py] kt pt] (.Tuple [a, b] k2 pt2) pos) (rdS c (parF i j fa fb)) := by
  refine ps_imp (ps_asg (pe_tup (pa_cons ha (pa_cons hb pa_nil s3) s2)) (pg_tup (n := 2) hc (pgs_cons g1 (pgs_cons g2 pgs_nil e2) e1) e3 e4) hs hw h1) fun D σ H q => ?_
  obtain ⟨F, S, A, q⟩ := q
  refine ⟨[], F, S, A, sOut.bind q fun u S1 F1 H1 s1 q1 v A1 => ⟨_, F1, _, A1, ?_⟩⟩
  split at q1
  · rename_i y' S2 ey
    rw [ey]
    intro H2 F2 s2 w A2
    split at q1
    · rename_i x' S3 e3
      have eS := Sta.popG_some e3
      subst eS
      split at q1
      · rename_i hh
        refine ⟨by rw [sizeLine_eq]; simp, fun p np => ?_⟩
        refine ⟨p, [v, w], rfl, .inl (.inl upd_same), rfl, v, [w], rfl, w, [], rfl, rfl, ?_⟩
        have A2 : AbsX c F2 ((S3.push x').push y') σ (([] ++ [some v]) ++ [some w]) (upd H2 p (.tup [v, w])) := A2.st fun b o e => by
          rw [upd_ne (fun z => by rw [z, np] at e; cases e)]
          exact e
        have l3 : S3.lo.length = σ.length := A2.pop.pop.l
        have A3 := A2.assign (i := j) (by rw [← l3]; exact hh.2)
        have A4 : AbsX c F2 (((S3.put j y').push x')) (σ.set j (some w)) ([] ++ [some v]) (upd H2 p (.tup [v, w])) := A3
        have A5 := A4.assign (i := i) (by rw [List.length_set, ← l3]; exact hh.1)
        rw [List.set_comm _ _ (Ne.symm hij)] at A5
        exact q1 _ F2 s2 _ A5
      · exact q1.elim
    · exact q1.elim
  · rename_i ex S2 e2
    rw [e2]
    intro cls d H2 F2 s2 A2 r2
    split at q1
    · rename_i x' S3 e3
      have eS := Sta.popG_some e3
      subst eS
      exact q1 cls d σ H2 F2 s2 A2.pop r2
    · exact q1.elim
  · exact q1.elim
theorem ds_par3A {i j l : Nat} {x y z : Str} {a b d : Expr} {fa fb fd : EF} {px py pz pt pos : Pos} {kt k2 : Nat} {pt2 : Pos} (hc : X.calm = true) (hij : i ≠ j) (hil : i ≠ l) (hjl : j ≠ l) (g1 : PG X (.Name x px) (gName i)) (g2 : PG X (.Name y py) (gName j)) (g3 : PG X (.Name z pz) (gName l)) (ha : PE X a (rdE c fa)) (hb : PE X b (rdE c fb)) (hd : PE X d (rdE c fd))
    (e1 : (assignEach [.Name x px, .Name y py, .Name z pz] X.env).map (·.2) = assign (.Name x px) X.env :: (assignEach [.Name y py, .Name z pz] X.env).map (·.2) := by rfl) (e2 : (assignEach [.Name y py, .Name z pz] X.env).map (·.2) = assign (.Name y py) X.env :: (assignEach [.Name z pz] X.env).map (·.2) := by rfl)
    (e5 : (assignEach [.Name z pz] X.env).map (·.2) = assign (.Name z pz) X.env :: (assignEach [] X.env).map (·.2) := by rfl)
    (e3 : (assignEach [.Name x px, .Name y py, .Name z pz] X.env).length = 3 := by rfl) (e4 : (assignEach [.Name x px, .Name y py, .Name z pz] X.env).findIdx? (·.1) = none := by rfl)
    (hs : swapsWithSole [.Tuple [.Name x px, .Name y py, .Name z pz] kt pt] (.Tuple [a, b, d] k2 pt2) pos.line X.env = pure false := by rfl) (hw : swappedStores [.Tuple [.Name x px, .Name y py, .Name z pz] kt pt] (.Tuple [a, b, d] k2 pt2) X.env = pure none := by rfl)
    (h1 : (assignEach [.Tuple [.Name x px, .Name y py, .Name z pz] kt pt] X.env).map (·.2) = [assign (.Tuple [.Name x px, .Name y py, .Name z pz] kt pt) X.env] := by rfl)
    (s1 : starEach [a, b, d] X.env = (false, eval a X.env) :: starEach [b, d] X.env := by rfl) (s2 : starEach [b, d] X.env = (false, eval b X.env) :: starEach [d] X.env := by rfl) (s3 : starEach [d] X.env = (false, eval d X.env) :: starEach [] X.env := by rfl) :
    PS X (.Assign [.Tuple [.Name x px, .Name y py, .Name z pz] kt pt] (.Tuple [a, b, d] k2 pt2) pos) (rdS c (par3E i j l fa fb fd)) := by
  refine ps_imp (ps_asg (pe_tup (pa_cons ha (pa_cons hb (pa_cons hd pa_nil s3) s2) s1)) (pg_tup (n := 3) hc (pgs_cons g1 (pgs_cons g2 (pgs_cons g3 pgs_nil e5) e2) e1) e3 e4) hs hw h1) fun D σ H q => ?_
  obtain ⟨F, S, A, q⟩ := q
  refine ⟨[], F, S, A, sOut.bind q fun u S1 F1 H1 s1 q1 v A1 => ⟨_, F1, _, A1, ?_⟩⟩
  split at q1
  · rename_i y1 S2 e2
    rw [e2]
    intro H2 F2 s2 w A2
    refine ⟨_, F2, _, A2, ?_⟩
    split at q1
    · rename_i z1 S3 e3
      rw [e3]
      intro H3 F3 s3 t A3
      split at q1
      · rename_i y' S4 e4
        have eS := Sta.popG_some e4
        subst eS
        split at q1
        · rename_i x' S5 e5
          have eS := Sta.popG_some e5
          subst eS
          split at q1
          · rename_i hh
            refine ⟨by rw [sizeLine_eq]; simp, fun p np => ?_⟩
            refine ⟨p, [v, w, t], rfl, .inl (.inl upd_same), rfl, v, [w, t], rfl, w, [t], rfl, t, [], rfl, rfl, ?_⟩
            have A3 := A3.st (H' := upd H3 p (.tup [v, w, t])) fun b o e => by
              rw [upd_ne (fun z => by rw [z, np] at e; cases e)]
              exact e
            have l3 : S5.lo.length = σ.length := A3.pop.pop.pop.l
            have A4 := A3.assign (i := l) (by rw [← l3]; exact hh.2.2)
            have A5 : AbsX c F3 (((S5.put l z1).push x').push y') (σ.set l (some t)) (([] ++ [some v]) ++ [some w]) (upd H3 p (.tup [v, w, t])) := A4
            have A6 := A5.assign (i := j) (by rw [List.length_set, ← l3]; exact hh.2.1)
            have A7 : AbsX c F3 (((S5.put l z1).put j y').push x') ((σ.set l (some t)).set j (some w)) ([] ++ [some v]) (upd H3 p (.tup [v, w, t])) := A6
            have A8 := A7.assign (i := i) (by rw [List.length_set, List.length_set, ← l3]; exact hh.1)
            rw [List.set_comm _ _ (Ne.symm hjl), List.set_comm _ _ (Ne.symm hil), List.set_comm _ _ (Ne.symm hij)] at A8
            exact q1 _ F3 (s2.trans s3) _ A8
          · exact q1.elim
        · exact q1.elim
      · exact q1.elim
    · rename_i ex S3 e3
      rw [e3]
      intro cls dd H3 F3 s3 A3 r3
      split at q1
      · rename_i y' S4 e4
        have eS := Sta.popG_some e4
        subst eS
        split at q1
        · rename_i x' S5 e5
          have eS := Sta.popG_some e5
          subst eS
          exact q1 cls dd σ H3 F3 (s2.trans s3) A3.pop.pop r3
        · exact q1.elim
      · exact q1.elim
    · exact q1.elim
  · rename_i ex S2 e2
    rw [e2]
    intro cls dd H2 F2 s2 A2 r2
    split at q1
    · rename_i x' S3 e3
      have eS := Sta.popG_some e3
      subst eS
      exact q1 cls dd σ H2 F2 s2 A2.pop r2
    · exact q1.elim
  · exact q1.elim
end
end TL

end
section
set_option Elab.async false
set_option linter.all false
set_option maxRecDepth 100000
set_option autoImplicit false
set_option maxHeartbeats 400000
/-! TL27: the text of a tuple of small naturals is a right text -/
open PySem PySem.Spec PyProof.Rows L2
namespace TL
theorem sOk_app {a b : Str} (h1 : PyData.strOk a = true) (h2 : PyData.strOk b = true) : PyData.strOk (a ++ b) = true := by
  unfold PyData.strOk at h1 h2 ⊢
  show ((a.cps ++ b.cps).all fun x => decide (x < 0x110000)) = true
  rw [Array.all_append, h1, h2]
  rfl
theorem sOk_str (s : String) : PyData.strOk (Str.ofString s) = true := by
  rw [Str.ofString_eq_toList]
  unfold PyData.strOk
  rw [List.all_toArray, List.all_map, List.all_eq_true]
  intro c _
  show decide (c.toNat < 0x110000) = true
  have hv := c.valid
  refine decide_eq_true ?_
  have e : c.toNat = c.val.toNat := rfl
  rcases hv with h | ⟨_, h⟩
  · have : c.val.toNat < 0xd800 := h
    omega
  · have : c.val.toNat < 0x110000 := h
    omega
theorem sOk_join {s : Str} (hs : PyData.strOk s = true) : ∀ ts : List Str, (∀ t ∈ ts, PyData.strOk t = true) → PyData.strOk (Str.join s ts) = true
  | [], _ => sOk_str ""
  | [x], h => h x List.mem_cons_self
  | x :: y :: r, h => by
    show PyData.strOk (x ++ s ++ Str.join s (y :: r)) = true
    exact sOk_app (sOk_app (h x List.mem_cons_self) hs) (sOk_join hs (y :: r) fun t ht => h t (List.mem_cons_of_mem _ ht))
theorem shownAll_int (c : List Nat) : ∀ t ∈ PyData.shownAll ((c.map fun (n : Nat) => (n : Int)).map PyData.int), PyData.strOk t = true := by
  induction c with
  | nil => intro t ht; cases ht
  | cons n c ih =>
    intro t ht
    rw [List.map_cons, List.map_cons] at ht
    simp only [PyData.shownAll, List.mem_cons] at ht
    rcases ht with e | h
    · subst e
      simp only [PyData.shown]
      exact sOk_str _
    · exact ih t h
theorem shownI_ok (c : List Nat) : PyData.strOk (shownI (c.map fun (n : Nat) => (n : Int))) = true := by
  unfold shownI
  simp only [PyData.shown]
  unfold tupleText
  refine sOk_app (sOk_app (sOk_str "(") (sOk_join (sOk_str ", ") _ (shownAll_int c))) ?_
  split <;> exact sOk_str _
theorem log_lt {n : Nat} (h : n < 1000000) : n.log2 < 20 := by
  by_cases h0 : n = 0
  · subst h0; decide
  · exact (Nat.log2_lt h0).mpr (Nat.lt_of_lt_of_le h (by decide))
theorem weightAll_tn : ∀ c : List Nat, (∀ n ∈ c, n < 1000000) → PyData.weightAll ((c.map fun (n : Nat) => (n : Int)).map PyData.int) ≤ 30 * c.length
  | [], _ => by simp [PyData.weightAll]
  | n :: r, h => by
    have h1 := weightAll_tn r fun m hm => h m (List.mem_cons_of_mem _ hm)
    have h2 := log_lt (h n List.mem_cons_self)
    simp only [List.map_cons, PyData.weightAll, PyData.weight, List.length_cons, Int.natAbs_natCast]
    split <;> omega
theorem repr_tn {c : List Nat} (hl : c.length ≤ 1000) (hc : ∀ n ∈ c, n < 1000000) : reprTN [.tup (tn c)] = some (.sh (.str (shownI (c.map fun (n : Nat) => (n : Int))))) := by
  have h1 : (shownI (c.map fun (n : Nat) => (n : Int))).length ≤ sizeLine := by
    refine PyData.shown_fits (B := 13) (by decide) (by decide) ?_ ?_
    · simp only [PyData.leavesShort]
      have key : ∀ c : List Nat, (∀ n ∈ c, n < 1000000) → PyData.leavesShortAll 13 ((c.map fun (n : Nat) => (n : Int)).map PyData.int) = true := by
        intro c
        induction c with
        | nil => intro _; rfl
        | cons n c ih =>
          intro h
          have hn := h n List.mem_cons_self
          simp only [List.map_cons, PyData.leavesShortAll, PyData.leavesShort, Bool.and_eq_true, decide_eq_true_eq]
          refine ⟨PyData.shown_int_le ?_, ih fun m hm => h m (List.mem_cons_of_mem _ hm)⟩
          rw [Int.natAbs_natCast]
          omega
      exact key c hc
    · simp only [PyData.weight]
      have := weightAll_tn c hc
      omega
  have h2 : ((c.map fun (n : Nat) => (n : Int)).all fun i => decide (i.natAbs.log2 < 1920)) = true := by
    rw [List.all_eq_true]
    intro i hi
    obtain ⟨n, hn, rfl⟩ := List.mem_map.mp hi
    refine decide_eq_true ?_
    rw [Int.natAbs_natCast]
    have := log_lt (hc n hn)
    omega
  show (intsT (tn c)).bind _ = _
  rw [intsT_tn, Option.bind_some, if_pos ⟨h1, h2⟩]
end TL

end
section
set_option Elab.async false
set_option linter.all false
set_option maxRecDepth 100000
set_option autoImplicit false
set_option maxHeartbeats 2000000
/-! TL28: str(int), bool(int), sep.join, a text so many times, {i: j} of constants -/
open PySem PySem.Spec PyProof.Rows L2
namespace TL
section
variable {X : Cx} {c : Cfg} {e a b : Expr} {es : List Expr} {pos : Pos}
def strN : List T → Option Slot
  | [.int i] => if i.natAbs.log2 < 1920 then some (.sh (.str (toString i))) else none
  | _ => none
theorem p_strI : OpN c (fun xs H Q => ∃ i : Int, xs = [.int i] ∧ i.natAbs.log2 < 1920 ∧ Q (.str (toString i)) H) strN := by
  intro F S σ τ H xs ts z Q A hx hz k
  unfold strN at hz
  split at hz
  · split at hz
    · cases hz
      rename_i hl
      obtain ⟨v, rfl, h⟩ := hx.one
      rw [h.int]
      exact ⟨_, rfl, hl, fin_sh A k (.str _)⟩
    · cases hz
  · cases hz
def boolN : List T → Option Slot
  | [.int i] => some (.sh (.bl (i != 0)))
  | [.bl k] => some (.sh (.bl k))
  | _ => none
theorem p_boolI : OpN c (fun xs H Q => (∃ i : Int, xs = [.int i] ∧ Q (.bl (i != 0)) H) ∨ ∃ k, xs = [.bl k] ∧ Q (.bl k) H) boolN := by
  intro F S σ τ H xs ts z Q A hx hz k
  unfold boolN at hz
  split at hz
  · cases hz
    obtain ⟨v, rfl, h⟩ := hx.one
    rw [h.int]
    exact .inl ⟨_, rfl, fin_sh A k (.bl _)⟩
  · cases hz
    obtain ⟨v, rfl, h⟩ := hx.one
    rw [h.bl]
    exact .inr ⟨_, rfl, fin_sh A k (.bl _)⟩
  · cases hz
def strsT : List T → Option (List Str)
  | [] => some []
  | .str x :: ts => (strsT ts).map (x :: ·)
  | _ :: _ => none
theorem strsT_map : ∀ ns : List Str, strsT (ns.map T.str) = some ns
  | [] => rfl
  | n :: ns => by rw [List.map_cons, strsT, strsT_map ns]; rfl
theorem strsT_rep {g : Ga} {F : Hp} : ∀ {vs : List V} {ts : List T} {ys : List Str}, RepAll g F vs ts → strsT ts = some ys → vs = ys.map V.str
  | _, _, ys, .nil, h => by cases h; rfl
  | _, _, ys, .cons (t := t) (ts := ts) r q, h => by
    cases t <;> simp only [strsT] at h <;> try cases h
    obtain ⟨zs, h1, h2⟩ := Option.map_eq_some_iff.mp h
    subst h2
    cases r
    rw [List.map_cons, strsT_rep q h1]
def joinT (x : Str) : T → Option Slot
  | .lst ts => (strsT ts).bind fun ys => if (ys.map (·.length)).sum + ys.length * x.length ≤ 16777216 then some (.sh (.str (Txt.join x ys))) else none
  | _ => none
theorem de_join {x : Str} {o : Expr} {fa : OF} {apos : Pos} (ho : PE X o (tC (.str x))) (he : PE X e (rdO c fa)) (hs : starEach [e] X.env = [(false, eval e X.env)] := by rfl) (hbase : attributeBase o "join" X.env (eval o X.env) = eval o X.env := by rfl) (hline : (apos.endLine == pos.line) = true := by rfl) :
    PE X (.Call (.Attribute o "join" apos) [e] [] pos) (rdE c (op1 (joinT x) fa)) := by
  refine PE.imp (pe_join ho he hs hbase hline) fun σ H Q q => ?_
  refine ⟨⟨_, rfl⟩, ?_⟩
  refine op1_out (r := fun y H1 Q => ∃ a p, ∃ ys : List Str, V.str x = .str a ∧ [y] = [.ref p] ∧ (SqL X.K H1 p (ys.map V.str) ∨ SqT X.K H1 p (ys.map V.str)) ∧ (ys.map (·.length)).sum + ys.length * a.length ≤ 16777216 ∧ Q (.str (Txt.join a ys)) H1) ?_ q
  intro F S σ τ H x1 t z Q A hx hz k
  unfold joinT at hz
  split at hz
  · obtain ⟨ys, h1, h2⟩ := Option.bind_eq_some_iff.mp hz
    split at h2
    · cases h2
      rename_i hl
      obtain ⟨a, vs, rfl, e1, r1⟩ := hx.lst A.a.fh
      have := strsT_rep r1 h1
      subst this
      exact ⟨x, a, ys, rfl, rfl, .inl (.inl (.inl e1)), hl, fin_sh A k (.str _)⟩
    · cases h2
  · cases hz
def repS (x : Str) (k : Int) : Str := if k < 1 then Str.empty else if (k == 1 || x.length == 0) = true then x else ⟨(List.replicate k.toNat x.cps).foldl (· ++ ·) #[]⟩
def mulST : T → T → Option Slot
  | .str x, .int k => if -100 ≤ k ∧ k ≤ 100 ∧ x.length ≤ 100 then some (.sh (.str (repS x k))) else none
  | _, _ => none
theorem rep_size (x : Array Nat) : ∀ (n : Nat) (acc : Array Nat), ((List.replicate n x).foldl (· ++ ·) acc).size = acc.size + n * x.size
  | 0, acc => by simp
  | n + 1, acc => by
    rw [List.replicate_succ, List.foldl_cons, rep_size x n, Array.size_append, Nat.succ_mul]
    omega
theorem op_mulStr : OpR X (binaryOp .Mult) (fun x y H Q => ∃ (a : Str) (k : Int), x = .str a ∧ y = .int k ∧ (-100 ≤ k ∧ k ≤ 100 ∧ a.length ≤ 100) ∧ Q (.str (repS a k)) H) := by
  intro pins s σ H x y v u Q I rx ry h
  obtain ⟨a, k, rfl, rfl, ⟨h1, h2, h3⟩, q⟩ := h
  obtain ⟨t, rfl⟩ := rx
  obtain ⟨t2, rfl⟩ := ry
  have hh : a.length * k.toNat ≤ 100 * 100 := Nat.mul_le_mul h3 (by omega)
  refine PySem.P.mul_str ?_ ?_ ?_ ?_
  · rw [decide_eq_false (by omega), decide_eq_false (by omega)] <;> rfl
  · intro g1 _
    have e1 : (a.length : Int) * k ≤ 2 ^ 63 - 1 := by
      have e2 : ((a.length * k.toNat : Nat) : Int) = (a.length : Int) * k := by
        rw [Int.natCast_mul, Int.toNat_of_nonneg (by omega)]
      rw [← e2]
      omega
    have := Int.le_ediv_of_mul_le (by omega) e1
    omega
  · intro g1 _
    unfold Builtin.Str.tooLong
    rw [sizeLine_eq]
    exact decide_eq_false (by omega)
  · unfold repS at q
    split
    · rename_i g1
      rw [if_pos g1] at q
      exact ⟨Nat.zero_le _, .str _, H, I.tok _, ⟨_, rfl⟩, q⟩
    · rename_i g1
      rw [if_neg g1] at q
      split
      · rename_i g2
        rw [if_pos g2] at q
        exact ⟨.str a, H, I, ⟨t, rfl⟩, q⟩
      · rename_i g2
        rw [if_neg g2] at q
        refine ⟨?_, .str _, H, I.tok _, ⟨_, rfl⟩, q⟩
        show (((List.replicate k.toNat a.cps).foldl (· ++ ·) #[]).size) ≤ sizeLine
        rw [rep_size, sizeLine_eq]
        have : k.toNat * a.cps.size = a.length * k.toNat := Nat.mul_comm _ _
        have e : (#[] : Array Nat).size = 0 := rfl
        omega
theorem p_mulStr : Op2 c (fun x y H Q => ∃ (a : Str) (k : Int), x = .str a ∧ y = .int k ∧ (-100 ≤ k ∧ k ≤ 100 ∧ a.length ≤ 100) ∧ Q (.str (repS a k)) H) mulST := by
  intro F S σ τ H x y t u z Q A hx hy hz k
  unfold mulST at hz
  split at hz
  · split at hz
    · cases hz
      rename_i hl
      rw [hx.str, hy.int]
      exact ⟨_, _, rfl, rfl, hl, fin_sh A k (.str _)⟩
    · cases hz
  · cases hz
/-- {i: j}, both constants -/
def dic1F (i j : Int) : EF := fun S => .ok (.ow (.dic [(.int i, .int j)])) S
theorem de_dic1 {i j : Int} (ha : PE X a (tC (.int i))) (hb : PE X b (tC (.int j))) : PE X (.Dict [some a] [b] pos) (rdE c (dic1F i j)) := by
  refine PE.imp (pe_disp (pps_cons ha hb pps_nil) rfl rfl (by simp) (Nat.le_of_ble_eq_true rfl)) fun σ H Q q => ?_
  obtain ⟨τ, F, S, A, q⟩ := q
  intro p np
  refine ⟨upd_same, [(.inl i, .int j)], rfl, Nat.le_of_ble_eq_true rfl, ?_⟩
  have e : upd (upd H p (.dK [])) p (.dK (mergeK [] [(.inl i, V.int j)])) = upd H p (.dK [(.inl i, .int j)]) := by
    funext b
    unfold upd
    split <;> rfl
  rw [e]
  exact q _ F (Same.refl F) (.ref p) (A.newOw (.dic (.cons (.int _) .nil)) np)
end
end TL

end
section
set_option Elab.async false
set_option linter.all false
set_option maxRecDepth 100000
set_option autoImplicit false
set_option maxHeartbeats 2000000
/-! TL29: k in d, d[k] = v on an own dict; calls that only borrow an own list -/
open PySem PySem.Spec PyProof.Rows L2
namespace TL
def keyOf : T → Option Key
  | .int i => some (.inl i)
  | .str x => some (.inr x)
  | _ => none
theorem keyOf_T (k : Key) : keyOf (keyT k) = some k := by cases k <;> rfl
def hasK (ts : List (T × T)) (k : Key) : Bool := ts.any fun kt => decide (keyOf kt.1 = some k)
def putT (ts : List (T × T)) (k : Key) (t : T) : List (T × T) := if hasK ts k = true then ts.map (fun kt => if keyOf kt.1 = some k then (kt.1, t) else kt) else ts ++ [(keyT k, t)]
section
variable {g : Ga} {F : Hp}
theorem hasK_rep {k : Key} : ∀ {kvs : List (Key × V)} {ts : List (T × T)}, RepKV g F kvs ts → hasK ts k = kvs.any fun kv => decide (kv.1 = k)
  | _, _, .nil => rfl
  | _, _, .cons (k := k') (vs := vs) (ts := ts) r q => by
    show (decide (keyOf (keyT k') = some k) || hasK ts k) = (decide (k' = k) || _)
    rw [hasK_rep q, keyOf_T]
    congr 1
    exact decide_eq_decide.mpr ⟨fun e => Option.some.inj e, fun e => congrArg some e⟩
theorem RepKV.len : ∀ {kvs : List (Key × V)} {ts : List (T × T)}, RepKV g F kvs ts → kvs.length = ts.length
  | _, _, .nil => rfl
  | _, _, .cons r q => by rw [List.length_cons, List.length_cons, q.len]
theorem RepKV.snoc {k : Key} {v : V} {t : T} (rv : Rep g F v t) : ∀ {kvs : List (Key × V)} {ts : List (T × T)}, RepKV g F kvs ts → RepKV g F (kvs ++ [(k, v)]) (ts ++ [(keyT k, t)])
  | _, _, .nil => .cons rv .nil
  | _, _, .cons r q => .cons r (q.snoc rv)
theorem RepKV.mapK {k : Key} {v : V} {t : T} (rv : Rep g F v t) : ∀ {kvs : List (Key × V)} {ts : List (T × T)}, RepKV g F kvs ts → RepKV g F (kvs.map fun kv => if kv.1 = k then (kv.1, v) else kv) (ts.map fun kt => if keyOf kt.1 = some k then (kt.1, t) else kt)
  | _, _, .nil => .nil
  | _, _, .cons (k := k') (v := v') (t := t') r q => by
    rw [List.map_cons, List.map_cons]
    simp only [keyOf_T]
    by_cases h : k' = k
    · rw [if_pos h, if_pos (congrArg some h)]
      exact .cons rv (q.mapK rv)
    · rw [if_neg h, if_neg (fun e => h (Option.some.inj e))]
      exact .cons r (q.mapK rv)
theorem RepKV.put {k : Key} {v : V} {t : T} {kvs : List (Key × V)} {ts : List (T × T)} (r : RepKV g F kvs ts) (rv : Rep g F v t) : RepKV g F (putK kvs k v) (putT ts k t) := by
  unfold putK putT
  rw [hasK_rep r]
  split
  · exact r.mapK rv
  · exact r.snoc rv
end
section
variable {X : Cx} {c : Cfg} {a b : Expr} {fa fb : OF} {pos : Pos}
theorem keyOf_p {F H : Hp} {v : V} {t : T} {k : Key} (h : PRep c.g F H v t) (e : keyOf t = some k) : v = kV k := by
  cases t <;> simp only [keyOf] at e <;> try cases e
  · rw [h.int]; rfl
  · rw [h.str]; rfl
def inDT (neg : Bool) (t u : T) : Option Slot := match u with
  | .dic ts => (keyOf t).map fun k => .sh (.bl (if neg then !hasK ts k else hasK ts k))
  | _ => none
def rInD2 : Bool → R2
  | false => fun y x H Q => ∃ a o, x = .ref a ∧ DGet H a y o ∧ Q (.bl o.isSome) H
  | true => fun y x H Q => ∃ a o, x = .ref a ∧ DGet H a y o ∧ Q (.bl (!o.isSome)) H
theorem p_inD (neg : Bool) : Op2 c (rInD2 neg) (inDT neg) := by
  intro F S σ τ H x y t u z Q A hx hy hz k
  unfold inDT at hz
  split at hz
  · obtain ⟨ky, h1, h2⟩ := Option.map_eq_some_iff.mp hz
    subst h2
    obtain ⟨a, vs, rfl, e1, r1⟩ := hy.dic A.a.fh
    rw [hasK_rep r1, valV_any] at k
    cases neg with
    | false =>
      refine ⟨a, valV vs ky, rfl, ?_, fin_sh A k (.bl _)⟩
      rw [keyOf_p hx h1]
      exact .k e1
    | true =>
      refine ⟨a, valV vs ky, rfl, ?_, fin_sh A k (.bl _)⟩
      rw [keyOf_p hx h1]
      exact .k e1
  · cases hz
theorem de_dinT (hu : X.A.units + 10 < cLine) (ha : PE X a (rdO c fa)) (hb : PE X b (rdO c fb)) (hm : behindInMarks .In b = false := by rfl) : PE X (.Compare a [.In] [b] pos) (rdE c (op2 (inDT false) fa fb)) :=
  PE.imp (pe_cmp (pc_din (by omega) ha hb) hm) fun _ _ _ q => op2_out (p_inD false) q
theorem de_dninT (hu : X.A.units + 10 < cLine) (ha : PE X a (rdO c fa)) (hb : PE X b (rdO c fb)) (hm : behindInMarks .NotIn b = false := by rfl) : PE X (.Compare a [.NotIn] [b] pos) (rdE c (op2 (inDT true) fa fb)) :=
  PE.imp (pe_cmp (pc_dnotin (by omega) ha hb) hm) fun _ _ _ q => op2_out (p_inD true) q
theorem dt_dinT (hu : X.A.units + 10 < cLine) (ha : PE X a (rdO c fa)) (hb : PE X b (rdO c fb)) (hm : behindInMarks .In b = false := by rfl) : PT X (.Compare a [.In] [b] pos) (rdT c (tst (op2 (inDT false) fa fb))) :=
  PT.imp (pt_cmp (pc_din (by omega) ha hb) hm) fun _ _ _ q => op2_out (p_inD false) (tst_out q)
theorem dt_dninT (hu : X.A.units + 10 < cLine) (ha : PE X a (rdO c fa)) (hb : PE X b (rdO c fb)) (hm : behindInMarks .NotIn b = false := by rfl) : PT X (.Compare a [.NotIn] [b] pos) (rdT c (tst (op2 (inDT true) fa fb))) :=
  PT.imp (pt_cmp (pc_dnotin (by omega) ha hb) hm) fun _ _ _ q => op2_out (p_inD true) (tst_out q)
/-- d[k] = v on an own dict -/
def setDF (i : Nat) (fv fi : OF) : SF := fun S => (fv S).bind fun o S1 => match S1.lo[i]? with
  | some (.ow (.dic _)) => (fi S1).bind fun o' S2 => match o, o', S2.lo[i]? with
    | .val t, .val u, some (.ow (.dic ts)) => match keyOf u with
      | some k => if ts.length < sz then .ok .nx (S2.put i (.ow (.dic (putT ts k t)))) else .stuck
      | none => .stuck
    | _, _, _ => .stuck
  | _ => .stuck
theorem rep_key {F : Hp} {g : Ga} {v : V} {t : T} {k : Key} (h : Rep g F v t) (e : keyOf t = some k) : v = kV k := by
  cases t <;> simp only [keyOf] at e <;> try cases e
  · cases h; rfl
  · cases h; rfl
theorem ds_setD {i : Nat} {x : Str} {fv fi : OF} {p1 pos' : Pos} (hu : X.A.units + 10 < cLine) (ho : PE X (.Name x p1) (tVar i)) (hv : PE X b (rdO c fv)) (hi : PE X a (rdO c fi))
    (ha : ∀ v, assign (.Subscript (.Name x p1) a pos) X.env v = (do
      let ov ← holding [v] (eval (.Name x p1) X.env)
      let iv ← holding [v, ov] (eval a X.env)
      standAt pos
      holding [v, ov, iv] (setItem ov iv v)
      release [v, ov, iv] []) := by intro _; rfl)
    (hs : swapsWithSole [.Subscript (.Name x p1) a pos] b pos'.line X.env = pure false := by rfl) (hw : swappedStores [.Subscript (.Name x p1) a pos] b X.env = pure none := by rfl)
    (h1 : (assignEach [.Subscript (.Name x p1) a pos] X.env).map (·.2) = [assign (.Subscript (.Name x p1) a pos) X.env] := by rfl) : PS X (.Assign [.Subscript (.Name x p1) a pos] b pos') (rdS c (setDF i fv fi)) := by
  refine ps_imp (ps_asg hv (pg_sub ho hi (set_dict (by omega)) ha) hs hw h1) fun D σ H q => ?_
  obtain ⟨F, S, A, q⟩ := q
  refine ⟨[], F, S, A, sOut.bind q fun o S1 F1 H1 s1 q1 v A1 r1 => ?_⟩
  split at q1
  · rename_i t0 e0
    obtain ⟨o2, h1, a2, h2, ⟨u, hu, mk⟩, r2⟩ := A1.slot e0
    subst h2
    refine ⟨_, h1, [], F1, S1, A1, sOut.bind q1 fun o' S2 F2 H2 s2 q2 w A2 r2 => ?_⟩
    split at q2
    · rename_i t u0 ts e2
      split at q2
      · rename_i k e3
        split at q2
        · rename_i hlt
          obtain ⟨o3, h3, a3, h4, ⟨u', hu', mk'⟩, r3⟩ := A2.slot e2
          subst h4
          rw [h1] at h3
          cases h3
          cases mk' with
          | dic rl =>
            have hk := rep_key r2 e3
            subst hk
            refine ⟨_, _, rfl, .k hu' (by rw [rl.len, ← sz_eq]; exact hlt), q2 _ F2 (Same.refl F2) σ (A2.change e2 h1 (.dic (rl.put (r1.mono s2))))⟩
        · exact q2.elim
      · exact q2.elim
    · exact q2.elim
  · exact q1.elim
end
end TL

end
section
set_option Elab.async false
set_option linter.all false
set_option maxRecDepth 100000
set_option autoImplicit false
set_option maxHeartbeats 2000000
/-! TL30: calls that only borrow what a slot owns: the answer holds no list -/
open PySem PySem.Spec PyProof.Rows L2
namespace TL
mutual
def lf : T → Bool
  | .non => true
  | .bl _ => true
  | .int _ => true
  | .str _ => true
  | .tup ts => lfs ts
  | _ => false
def lfs : List T → Bool
  | [] => true
  | t :: ts => lf t && lfs ts
end
theorem lf_rep {g : Ga} {F F' : Hp} (h : ∀ a o xs, F a = some (.frz o (.tup xs)) → F' a = some (.frz o (.tup xs))) {v : V} {t : T} (r : Rep g F v t) : lf t = true → Rep g F' v t :=
  Rep.rec (motive_1 := fun v t _ => lf t = true → Rep g F' v t) (motive_2 := fun vs ts _ => lfs ts = true → RepAll g F' vs ts) (motive_3 := fun _ _ _ => True) (motive_4 := fun _ _ _ => True)
    (fun _ => .non) (fun b _ => .bl b) (fun i _ => .int i) (fun x _ => .str x) (fun e => by simp [lf] at e) (fun _ _ _ e => by simp [lf] at e)
    (fun e _ ih q => by
      refine .tup ?_ (ih (by simpa [lf] using q))
      rcases e with ⟨o, e1, e2⟩ | e
      · exact .inl ⟨o, h _ _ _ e1, e2⟩
      · exact .inr e)
    (fun _ _ _ e => by simp [lf] at e) (fun _ _ _ e => by simp [lf] at e) (fun _ _ _ e => by simp [lf] at e) (fun _ _ _ _ e => by simp [lf] at e) (fun _ e => by simp [lf] at e)
    (fun _ => .nil) (fun _ _ a b q => by
      rw [lfs, Bool.and_eq_true] at q
      exact .cons (a q.1) (b q.2)) trivial (fun _ _ _ _ => trivial) trivial (fun _ _ _ _ => trivial) r
def callBF (np : Nat) (fn : Fn) (a : AF) : EF := fun S => (a S).bind fun os S1 => match gets S1 os with
  | some ts => if ts.length = np then match fn ts S1.nb with
    | .ok (.sh t) n => if lf t = true then .ok (.sh t) { S1 with nb := n } else .stuck
    | _ => .stuck
    else .stuck
  | none => .stuck
section
variable {X : Cx} {c : Cfg}
def Own (S : Sta) (σ : List (Option V)) (b : Addr) : Prop := ∃ (i : Nat) (t : T), S.lo[i]? = some (.ow t) ∧ σ[i]? = some (some (.ref b))
open Classical in
noncomputable def lent (F H : Hp) (B : Addr → Prop) : Hp := fun b => if B b then H b else F b
open Classical in
noncomputable def kept (F : Hp) (B : Addr → Prop) : Hp := fun b => if B b then none else F b
theorem own_at {F H : Hp} {S : Sta} {σ τ : List (Option V)} {b : Addr} (A : AbsX c F S σ τ H) (o : Own S σ b) : (∃ u t, H b = some u ∧ Mk c.g F u t) ∧ F b = none ∧ b ≠ c.g.nb := by
  obtain ⟨i, t, h1, h2⟩ := o
  obtain ⟨o, e1, a, e2, ⟨u, hu, mk⟩, f, _, nn⟩ := A.slot h1
  rw [e2] at e1
  rw [h2] at e1
  cases e1
  exact ⟨⟨u, t, hu, mk⟩, f, nn⟩
theorem gets_rep {F H : Hp} {S : Sta} {σ τ : List (Option V)} (A : AbsX c F S σ τ H) {F' : Hp} (s : Same F F') (hB : ∀ b u, Own S σ b → H b = some u → F' b = some u) : ∀ {os : List Opd} {vs : List V} {ts : List T}, OpdAll c.g F σ os vs → gets S os = some ts → RepAll c.g F' vs ts
  | _, _, _, .nil, e => by cases e; exact .nil
  | o :: os, _, _, .cons (v := v) (vs := vs) a b, e => by
    obtain ⟨t, h1, h2⟩ := Option.bind_eq_some_iff.mp e
    obtain ⟨us, h3, h4⟩ := Option.map_eq_some_iff.mp h2
    subst h4
    refine .cons ?_ (gets_rep A s hB b h3)
    cases o with
    | val t' =>
      cases h1
      exact Rep.mono s a
    | pl i =>
      obtain ⟨x, h5, h6⟩ := Option.bind_eq_some_iff.mp (show (S.lo[i]?).bind Slot.tree = some t from h1)
      have a : σ[i]? = some (some v) := a
      obtain ⟨o2, e1, r⟩ := A.slot h5
      rw [a] at e1
      cases e1
      cases x with
      | no => cases h6
      | fu => cases h6
      | sh t2 =>
        cases h6
        obtain ⟨w, e2, r2⟩ := r
        cases e2
        exact r2.mono s
      | ow t2 =>
        cases h6
        obtain ⟨b2, e2, ⟨u, hu, mk⟩, _⟩ := r
        cases e2
        exact (mk.mono s).rep (hB b2 u ⟨i, _, h5, a⟩ hu)
theorem callBOut {np : Nat} {fn : Fn} {fa : AF} {σ : L2.St} {H : Hp} {Q : VK} (q : rdE c (callBF np fn fa) σ H Q) : tCallS (spT c.g np fn) c.E (rdA c fa) σ H Q := by
  obtain ⟨τ, F, S, A, q⟩ := q
  refine ⟨τ, F, S, A, rOut.bind q fun os S1 F1 H1 s1 q1 vs A1 r1 => ?_⟩
  split at q1
  · rename_i ts e1
    split at q1
    · rename_i hl
      have ow := fun b (h : Own S1 σ b) => own_at A1 h
      obtain ⟨c0, n1, n2⟩ := A1.a.nib
      have nc0 : ¬ Own S1 σ c0 := fun h => by
        have := (ow c0 h).2.1
        rw [this] at n2
        cases n2
      have lo : ∀ b, Own S1 σ b → lent F1 H1 (Own S1 σ) b = H1 b := fun b h => by unfold lent; rw [if_pos h]
      have ln : ∀ b, ¬ Own S1 σ b → lent F1 H1 (Own S1 σ) b = F1 b := fun b h => by unfold lent; rw [if_neg h]
      have sF : Same F1 (lent F1 H1 (Own S1 σ)) := fun b u e => by
        rw [ln b (fun h => by have := (ow b h).2.1; rw [this] at e; cases e)]
        exact e
      have sH : Same (lent F1 H1 (Own S1 σ)) H1 := fun b u e => by
        by_cases h : Own S1 σ b
        · rw [lo b h] at e; exact e
        · rw [ln b h] at e; exact A1.a.fh b u e
      have hnb : ¬ Own S1 σ c.g.nb := fun h => (ow _ h).2.2 rfl
      refine ⟨lent F1 H1 (Own S1 σ), ts, S1.nb, hl, gets_rep A1 sF (fun b u h e => by rw [lo b h]; exact e) r1 e1, sH, by rw [ln _ hnb]; exact A1.a.fn, ⟨c0, n1, sF _ _ n2⟩, A1.a.ext.tabs, fun b u e => ?_, ?_⟩
      · by_cases h : Own S1 σ b
        · rw [lo b h] at e
          obtain ⟨⟨u2, t2, hu, mk⟩, _⟩ := ow b h
          rw [hu] at e
          cases e
          exact mk.noT
        · rw [ln b h] at e
          exact A1.a.ext.nt b u e
      cases e2 : fn ts S1.nb with
      | ok x n =>
        rw [e2] at q1
        cases x with
        | no => exact q1.elim
        | fu => exact q1.elim
        | ow t => exact q1.elim
        | sh t =>
          dsimp only at q1
          split at q1
          · rename_i hlf
            intro nf v F' H' p r
            have ko : ∀ b, Own S1 σ b → kept F' (Own S1 σ) b = none := fun b h => by unfold kept; rw [if_pos h]
            have kn : ∀ b, ¬ Own S1 σ b → kept F' (Own S1 σ) b = F' b := fun b h => by unfold kept; rw [if_neg h]
            have sK : Same (kept F' (Own S1 σ)) F' := fun b u e => by
              by_cases h : Own S1 σ b
              · rw [ko b h] at e; cases e
              · rw [kn b h] at e; exact e
            have s2 : Same F1 (kept F' (Own S1 σ)) := fun b u e => by
              rw [kn b (fun h => by have := (ow b h).2.1; rw [this] at e; cases e)]
              exact p.sF b u (sF b u e)
            have p2 : Post c.g F1 H1 (kept F' (Own S1 σ)) H' n := by
              refine ⟨s2, fun b u e => p.fh b u (sK b u e), ?_, ?_, p.keep, p.tabs, fun b u e1 e2 e3 => ?_, fun b u e => p.nt b u (sK b u e), p.cel⟩
              · rw [kn _ hnb]; exact p.fn
              · obtain ⟨c1, m1, m2⟩ := p.nib
                obtain ⟨x', y', m3⟩ := p.cel _ _ _ n1
                rw [m3] at m1
                cases m1
                exact ⟨c0, m3, by rw [kn c0 nc0]; exact m2⟩
              · by_cases h : Own S1 σ b
                · exact ko b h
                · rw [kn b h]
                  exact p.fre b u e1 e2 (by rw [ln b h]; exact e3)
            obtain ⟨w, ew, rw1⟩ := r
            cases ew
            have r2 : Rep c.g (kept F' (Own S1 σ)) v t := lf_rep (fun b o xs e => by
              rw [kn b (fun h => by
                obtain ⟨⟨u2, t2, hu, mk⟩, _⟩ := ow b h
                have := p.sF b u2 (by rw [lo b h]; exact hu)
                rw [e] at this
                cases this
                cases mk)]
              exact e) rw1 hlf
            exact q1 H' _ s2 v (p2.res A1 nf ⟨v, rfl, r2⟩)
          · exact q1.elim
      | exc e n => rw [e2] at q1; exact q1.elim
      | stuck => rw [e2] at q1; exact q1.elim
    · exact q1.elim
  · exact q1.elim
end
section
variable {X : Cx} {c : Cfg} {k : Nat} {f : Addr} {fd : FuncData} {ps : List Str} {fn : Fn} {x : Str} {p pos : Pos} {e : Expr} {es : List Expr}
theorem de_callBo {fa : AF} (F : FnOk X.prog X.w X.K X.mg X.base (L2.CX X.prog X.w) k f fd ps (spT c.g ps.length fn)) (hr : Room k X.A) (hg : Gl X x) (hm : X.mg x = some (.ref f)) (hk : PySem.W.keepIn X.K (.ref f) = true) (hb : Binds X.K fd ps []) (hx : ∀ σ, PassesAt (L2.CX X.prog X.w) X σ (c.E σ))
    (ha : PA X (e :: es) (rdA c fa)) (hdb : (x == ("__debug__" : Str)) = false := by decide) (he : starEach (e :: es) X.env = (false, eval e X.env) :: starEach es X.env := by rfl) (hpl : (backTo pos (starEach es X.env)).any (·.1) = false := by rfl) :
    PE X (.Call (.Name x p) (e :: es) [] pos) (rdE c (callBF ps.length fn fa)) :=
  PE.imp (pe_callS F hr hg hm hk hb hx ha hdb he hpl) fun _ _ _ q => callBOut q
end
end TL

end
section
set_option Elab.async false
set_option linter.all false
set_option maxRecDepth 100000
set_option autoImplicit false
set_option maxHeartbeats 400000
/-! TL31: the runner for dicts and borrowing calls -/
open PySem PySem.Spec PyProof.Rows L2
namespace TL
def gFRB (S1 : Sta) (o : FR) : R Slot := match o with
  | .ok (.sh t) n => if lf t = true then .ok (.sh t) { S1 with nb := n } else .stuck
  | _ => .stuck
def gCallB (np : Nat) (fn : Fn) (o : Option (List T)) (S1 : Sta) : R Slot := match o with
  | some ts => if ts.length = np then gFRB S1 (fn ts S1.nb) else .stuck
  | none => .stuck
def kCallB (np : Nat) (fn : Fn) : List Opd → Sta → R Slot := fun os S1 => gCallB np fn (gets S1 os) S1
section
variable (S : Sta) (i np : Nat) (a : OF) (r : AF) (fn : Fn) (t u : T) (z : Slot) (ts : List T) (kts : List (T × T)) (os : List Opd) (l gh : List Slot) (nb nb' : Nib)
theorem w_callBF : callBF np fn r S = (r S).bind (kCallB np fn) := rfl
theorem kCallB_ap : kCallB np fn os S = gCallB np fn (gets S os) S := rfl
theorem gCallB_ap (h : ts.length = np) : gCallB np fn (some ts) ⟨l, gh, nb⟩ = gFRB ⟨l, gh, nb⟩ (fn ts nb) := if_pos h
theorem gFRB_ok (h : lf t = true) : gFRB ⟨l, gh, nb⟩ (.ok (.sh t) nb') = .ok (.sh t) ⟨l, gh, nb'⟩ := if_pos h
theorem lf_int (j : Int) : lf (.int j) = true := by simp [lf]
theorem lf_bl (b : Bool) : lf (.bl b) = true := by simp [lf]
theorem lf_non : lf .non = true := by simp [lf]
theorem lf_str (x : Str) : lf (.str x) = true := by simp [lf]
theorem lfs_tn : ∀ p : List Nat, lfs (tn p) = true
  | [] => by simp [tn, lfs]
  | a :: p => by rw [tn_cons, lfs, lf_int, lfs_tn p]; rfl
theorem lf_tn (p : List Nat) : lf (.tup (tn p)) = true := by rw [lf, lfs_tn]
theorem lfs_tr : ∀ P : List (List Nat), lfs (tr P) = true
  | [] => by simp [tr, lfs]
  | p :: P => by
    show lfs (.tup (tn p) :: tr P) = true
    rw [lfs, lf_tn, lfs_tr P]
    rfl
theorem lf_tr (P : List (List Nat)) : lf (.tup (tr P)) = true := by rw [lf, lfs_tr]
def gSetD (i : Nat) (o o' : Opd) (x : Option Slot) (S2 : Sta) : R Flow := match o, o', x with
  | .val t, .val u, some (.ow (.dic ts)) => match keyOf u with
    | some k => if ts.length < sz then .ok .nx (S2.put i (.ow (.dic (putT ts k t)))) else .stuck
    | none => .stuck
  | _, _, _ => .stuck
def kSetD2 (i : Nat) (o : Opd) : Opd → Sta → R Flow := fun o' S2 => gSetD i o o' S2.lo[i]? S2
def gSetD0 (i : Nat) (fi : OF) (o : Opd) (x : Option Slot) (S1 : Sta) : R Flow := match x with
  | some (.ow (.dic _)) => (fi S1).bind (kSetD2 i o)
  | _ => .stuck
def kSetD (i : Nat) (fi : OF) : Opd → Sta → R Flow := fun o S1 => gSetD0 i fi o S1.lo[i]? S1
theorem w_setDF (fv fi : OF) : setDF i fv fi S = (fv S).bind (kSetD i fi) := by
  unfold setDF kSetD gSetD0 kSetD2 gSetD
  rfl
theorem kSetD_ap (fi : OF) (o : Opd) : kSetD i fi o ⟨l, gh, nb⟩ = gSetD0 i fi o l[i]? ⟨l, gh, nb⟩ := rfl
theorem gSetD0_ap (fi : OF) (o : Opd) : gSetD0 i fi o (some (.ow (.dic kts))) S = (fi S).bind (kSetD2 i o) := rfl
theorem kSetD2_ap (o o' : Opd) : kSetD2 i o o' ⟨l, gh, nb⟩ = gSetD i o o' l[i]? ⟨l, gh, nb⟩ := rfl
theorem gSetD_ap (j : Int) (h : kts.length < sz) : gSetD i (.val t) (.val (.int j)) (some (.ow (.dic kts))) ⟨l, gh, nb⟩ = .ok .nx ⟨l.set i (.ow (.dic (putT kts (.inl j) t))), gh, nb⟩ := if_pos h
end
def dT (ks : List Nat) : List (T × T) := ks.map fun (k : Nat) => (T.int (k : Int), T.bl true)
theorem dT_length (ks : List Nat) : (dT ks).length = ks.length := List.length_map _
theorem hasK_dT (s : Nat) : ∀ ks : List Nat, hasK (dT ks) (.inl (s : Int)) = decide (s ∈ ks)
  | [] => by simp [dT, hasK]
  | k :: ks => by
    show (decide (keyOf (.int (k : Int)) = some (.inl (s : Int))) || hasK (dT ks) (.inl (s : Int))) = _
    rw [hasK_dT s ks, Bool.eq_iff_iff]
    simp only [Bool.or_eq_true, decide_eq_true_eq, List.mem_cons, keyOf, Option.some.injEq, Sum.inl.injEq]
    constructor
    · rintro (h | h)
      · exact .inl (by omega)
      · exact .inr h
    · rintro (h | h)
      · exact .inl (by omega)
      · exact .inr h
theorem notin_dT (s : Nat) (ks : List Nat) : inDT true (.int (s : Int)) (.dic (dT ks)) = some (.sh (.bl (!decide (s ∈ ks)))) := by
  show some (Slot.sh (T.bl (if true = true then !hasK (dT ks) (.inl (s : Int)) else hasK (dT ks) (.inl (s : Int))))) = _
  rw [if_pos rfl, hasK_dT]
theorem put_dT {s : Nat} {ks : List Nat} (h : s ∉ ks) : putT (dT ks) (.inl (s : Int)) (.bl true) = dT (ks ++ [s]) := by
  unfold putT
  rw [hasK_dT, decide_eq_false h, if_neg (by decide)]
  unfold dT
  rw [List.map_append]
  rfl
end TL

end
section
set_option Elab.async false
set_option linter.all false
set_option maxRecDepth 100000
set_option autoImplicit false
set_option maxHeartbeats 2000000
/-! TL32: t[::-1] of a tuple, of a list -/
namespace HT
open PySem PySem.Spec PyProof.Rows L2
section
variable {prog : Program} {w : World} {A : Around} {E : Value → Shared → Prop} {s : Shared}
theorem adjust_rev (n : Nat) : Builtin.Slice.sliceAdjust none none (-1) (n : Int) = ((n : Int) - 1, -1) := by
  unfold Builtin.Slice.sliceAdjust
  have h1 : (-1 : Int) < 0 := by omega
  simp only [h1, if_true]
theorem places_rev (n : Nat) : Builtin.Slice.slicePlaces ((n : Int) - 1) (-1) (-1) = n := by
  unfold Builtin.Slice.slicePlaces
  have h1 : ¬ ((-1 : Int) > 0) := by omega
  have h2 : (- -1 : Int) = 1 := by decide
  simp only [h1, h2, if_false, Int.ediv_one]
  split <;> omega
theorem fm_congr {α β : Type} {f g : α → Option β} : ∀ {l : List α}, (∀ a ∈ l, f a = g a) → l.filterMap f = l.filterMap g
  | [], _ => rfl
  | a :: l, h => by
    rw [List.filterMap_cons, List.filterMap_cons, h a List.mem_cons_self, fm_congr fun b hb => h b (List.mem_cons_of_mem _ hb)]
theorem sliceApplied_rev {sl : Addr} {vl vu vs : Value} {n : Nat} {Q : Int × Int × Nat → Shared → Prop} (hs : s.heap.IsSliceOf sl vl vu vs) (pl : IsPart vl none) (pu : IsPart vu none) (ps : IsPart vs (some (-1)))
    (h : Q ((n : Int) - 1, -1, n) s) : wpAny (model prog w) A (Builtin.Slice.sliceApplied (.ref sl) (pure (n : Int))) Q E s := by
  obtain ⟨os, hos, hcs, hds⟩ := id hs
  unfold Builtin.Slice.sliceApplied Builtin.Slice.sliceFields
  refine wpAny_bind (wpAny_bind (wpAny_field hos hds (x := vl) rfl (wpAny_bind (wpAny_field hos hds (x := vu) rfl (wpAny_bind (wpAny_field hos hds (x := vs) rfl (wpAny_pure ?_)))))))
  refine wpAny_bind (slicePart_ ps ?_)
  show wpAny _ _ (if ((-1 : Int) == 0) = true then _ else _) _ _ s
  rw [if_neg (by decide)]
  refine wpAny_bind (slicePart_ pl (wpAny_bind (slicePart_ pu (wpAny_bind (wpAny_pure ?_)))))
  show wpAny _ _ (match Builtin.Slice.sliceAdjust none none (-1) (n : Int) with | (lo, hi) => pure (lo, (-1 : Int), Builtin.Slice.slicePlaces lo hi (-1))) _ _ s
  rw [adjust_rev n]
  show wpAny _ _ (pure ((n : Int) - 1, (-1 : Int), Builtin.Slice.slicePlaces ((n : Int) - 1) (-1) (-1))) _ _ s
  rw [places_rev]
  exact wpAny_pure h
theorem pick_rev (xs : Array Value) : ((List.range xs.size).filterMap fun (k : Nat) => xs[(((xs.size : Int) - 1) + (k : Int) * (-1)).toNat]?).toArray = xs.toList.reverse.toArray := by
  congr 1
  have e : ∀ k ∈ List.range xs.size, xs[(((xs.size : Int) - 1) + (k : Int) * (-1)).toNat]? = xs.toList.reverse[k]? := fun k hk => by
    have hk := List.mem_range.mp hk
    have : (((xs.size : Int) - 1) + (k : Int) * (-1)).toNat = xs.size - 1 - k := by omega
    rw [this, List.getElem?_reverse (by rw [Array.length_toList]; exact hk), Array.length_toList, Array.getElem?_toList]
  have key : ∀ (l : List Value) (n : Nat), n = l.length → (List.range n).filterMap (fun k => l[k]?) = l := by
    intro l n hn
    subst hn
    induction l with
    | nil => rfl
    | cons a l ih =>
      rw [List.length_cons, List.range_succ_eq_map, List.filterMap_cons]
      show a :: _ = _
      rw [List.filterMap_map]
      exact congrArg (a :: ·) ih
  rw [fm_congr e]
  exact key _ _ (by rw [List.length_reverse, Array.length_toList])
theorem getItem_tuple_rev {t sl : Addr} {items : Array Value} {vl vu vs : Value} {Q : Value → Shared → Prop} (ht : IsTup s.heap t items) (hs : s.heap.IsSliceOf sl vl vu vs) (pl : IsPart vl none) (pu : IsPart vu none) (ps : IsPart vs (some (-1)))
    (h : Q (.ref s.heap.objs.size) { s with heap := s.heap.push { cls := .type "tuple", data := .seq items.toList.reverse.toArray } })
    (hsz : items.size ≤ sizeLine) : wpAny (model prog w) A (getItem (.ref t) (.ref sl)) Q E s := by
  have htake : sizeOk (.seq items.toList.reverse.toArray) := by
    show items.toList.reverse.toArray.size ≤ sizeLine
    rw [List.size_toArray, List.length_reverse, Array.length_toList]
    exact hsz
  obtain ⟨os, hos, hcs, hds⟩ := id hs
  have hTs : s.TypeIs (.ref sl) "slice" := ⟨os, hos, hcs⟩
  unfold getItem
  try with_reducible refine wpAny_holding ?_
  first | refine wpAny_bind (wpAny_pure ?_) | skip
  refine wpAny_bind (wpAny_sequenceKey ht.typeIs (by decide) ?_)
  refine wpAny_bind (wpAny_callSpecial?_slot (name := Str.ofString "__getitem__") ht.typeIs PyProof.Rows.slot_tuple_getitem
    (wpAny_call_entry PyProof.Rows.slot_tuple_getitem ht.typeIs entry_tuple_getitem ?_ (args_tuple_getitem _ _)))
  show wpAny _ _ (Builtin.Tuple.tupleItemsOf (.ref t) >>= _) _ _ s
  refine wpAny_bind (tupleItemsOf_ ht ?_)
  refine wpAny_bind (wpAny_typeOf hTs ?_)
  rw [if_pos (by decide)]
  refine wpAny_bind (sliceApplied_rev hs pl pu ps ?_)
  have hno : ¬ ((((items.size : Int) - 1) == 0 && (-1 : Int) == 1 && items.size == items.size) = true) := by
    intro q
    rw [Bool.and_eq_true, Bool.and_eq_true] at q
    exact absurd q.1.2 (by decide)
  show wpAny _ _ (if (((items.size : Int) - 1) == 0 && (-1 : Int) == 1 && items.size == items.size) = true then _ else _) _ _ s
  rw [if_neg hno, pick_rev]
  first
    | exact wpAny_bind (m := Builtin.Tuple.tupleExact _) (wpAny_newObj_type (wpAny_pure ⟨_, rfl, wpAny_pure h⟩) htake)
    | exact wpAny_bind (m := Builtin.Tuple.tupleExact _) (wpAny_newObj_type (wpAny_bind (wpAny_pure (wpAny_pure ⟨_, rfl, wpAny_pure h⟩))) htake)
    | exact wpAny_bind (wpAny_bind (m := Builtin.Tuple.tupleExact _) (wpAny_newObj_type (wpAny_pure (wpAny_pure ⟨_, rfl, wpAny_pure h⟩)) htake))
    | exact wpAny_bind (wpAny_bind (m := Builtin.Tuple.tupleExact _) (wpAny_newObj_type (wpAny_pure ⟨_, rfl, wpAny_pure h⟩) htake))
end
end HT
namespace TL
open PySem PySem.Spec PyProof.Rows L2
section
variable {X : Cx} {c : Cfg} {e : Expr} {te : TE} {fa : OF} {k : Nat} {p1 p2 p3 pos : Pos}
def tRevT (K : PySem.W.Frag) (te : TE) : TE := fun σ H Q => te σ H fun x H1 => ∃ a xs, x = .ref a ∧ SqT K H1 a xs ∧ ∀ p o, H1 p = none → o.dict = none → Q (.ref p) (upd H1 p (.frz o (.tup xs.reverse)))
theorem pe_revT (he : PE X e te) : PE X (.Subscript e (.Slice none none (some (.UnaryOp .USub (.Constant (.int 1) k p1) p2)) p3) pos) (tRevT X.K te) := by
  refine ⟨fun pins s σ H Q I h => ?_⟩
  refine Subscript_ (thn (he.run pins s σ H _ I h) fun v s1 ⟨x, H1, I1, r1, q1⟩ => ?_)
  obtain ⟨a, xs, ex, hx, q⟩ := q1
  subst ex
  cases r1
  have hst : PO X (some (.UnaryOp .USub (.Constant (.int 1) k p1) p2)) (tPart (tUn (rU fun i => .int (-i)) (tC (.int 1)))) := po_some (pe_un un_neg pe_int)
  refine wpAny_Slice (thn (po_none.run pins s1 σ H1 (fun o H2 => o = none ∧ H2 = H1) I1 ⟨rfl, rfl⟩) fun vl s2 ⟨l, H2, I2, pl, el, e2⟩ => ?_)
  subst el e2
  refine thn (po_none.run pins s2 σ H2 (fun o H3 => o = none ∧ H3 = H2) I2 ⟨rfl, rfl⟩) fun vu s3 ⟨u, H3, I3, pu, eu, e3⟩ => ?_
  subst eu e3
  refine thn (hst.run pins s3 σ H3 (fun o H4 => o = some (-1) ∧ H4 = H3) I3 ⟨1, rfl, -1, rfl, rfl, rfl⟩) fun vs s4 ⟨o, H4, I4, ps, eo, e4⟩ => ?_
  subst eo e4
  have I5 : Inv X pins σ H4 { s4 with heap := s4.heap.push { cls := .type "slice", data := .fields #[vl, vu, vs] } } := I4.kept (t' := s4.toks) fun b ob q => Heap.get?_push_of_some _ q
  obtain ⟨its, r, ht, hz⟩ := I5.tuple hx
  have hlen := r.length
  show wpAny (model X.prog X.w) X.A (subscriptTail e (.Slice none none (some (.UnaryOp .USub (.Constant (.int 1) k p1) p2)) p3) (.ref a) (.ref s4.heap.objs.size)) (EP X pins σ Q) X.xe { s4 with heap := s4.heap.push { cls := .type "slice", data := .fields #[vl, vu, vs] } }
  refine tail_any (ops := [.ref a, .ref s4.heap.objs.size]) ht.typeIs (PyProof.Rows.slot_tuple_getitem.lookup) ?_ (by with_unfolding_all rfl)
  refine HT.getItem_tuple_rev ht (Heap.IsSliceOf.new _ vl vu vs) pl pu ps ?_ (by rw [List.size_toArray]; omega)
  exact ⟨.ref _, _, I5.laid (t' := s4.toks) (o := .frz (tupObj its.reverse) (.tup xs.reverse)) (fun b ob q => Heap.get?_push_of_some _ q) (Nat.le_refl _) (frz_tup (by rw [List.length_reverse]; exact hz) r.reverse), rfl, q _ _ (I5.hok.fresh (Nat.le_refl _)) rfl⟩
/-- [::-1] of either kind -/
def revA : T → Option Slot
  | .lst ts => some (.ow (.lst ts.reverse))
  | .tup ts => some (.sh (.tup ts.reverse))
  | _ => none
theorem RepAll.rev {g : Ga} {F : Hp} : ∀ {vs : List V} {ts : List T}, RepAll g F vs ts → RepAll g F vs.reverse ts.reverse
  | _, _, .nil => .nil
  | _, _, .cons r q => by
    rw [List.reverse_cons, List.reverse_cons]
    exact q.rev.append (.cons r .nil)
theorem de_revA (hK : c.g.K = X.K) (ha : PE X e (rdO c fa)) : PE X (.Subscript e (.Slice none none (some (.UnaryOp .USub (.Constant (.int 1) k p1) p2)) p3) pos) (rdE c (op1 revA fa)) := by
  refine PE.either (pe_revL ha) (pe_revT ha) fun σ H Q q => ?_
  obtain ⟨τ, F, S, A, q⟩ := q
  cases e : fa S with
  | stuck =>
    have q : rOut c F σ τ _ (op1 revA fa S) := q
    unfold op1 at q
    rw [e] at q
    exact q.elim
  | exc ex S1 =>
    refine .inl ⟨τ, F, S, A, ?_⟩
    have q : rOut c F σ τ _ (op1 revA fa S) := q
    unfold op1 at q
    rw [e] at q ⊢
    exact q
  | ok o S1 =>
    have q : rOut c F σ τ _ (op1 revA fa S) := q
    unfold op1 at q
    rw [e, R.bind_ok] at q
    cases e1 : o.get S1 with
    | none => simp only [e1] at q; exact q.elim
    | some t =>
      simp only [e1] at q
      unfold res at q
      cases hz : revA t with
      | none => rw [hz] at q; exact q.elim
      | some z =>
        rw [hz] at q
        unfold revA at hz
        split at hz
        · cases hz
          refine .inl ⟨τ, F, S, A, ?_⟩
          rw [e]
          intro H1 F1 s1 v A1 r1
          obtain ⟨a, vs, rfl, h1, r2⟩ := (A1.opd r1 e1).lst A1.a.fh
          exact ⟨a, vs, rfl, .inl (.inl h1), fun p np => (q.mono s1) _ F1 (Same.refl F1) (.ref p) (A1.newOw (.lst r2.rev) np)⟩
        · cases hz
          refine .inr ⟨τ, F, S, A, ?_⟩
          rw [e]
          intro H1 F1 s1 v A1 r1
          obtain ⟨a, vs, rfl, h1, r2⟩ := (A1.opd r1 e1).tup A1.a.fh
          refine ⟨a, vs, rfl, hK ▸ h1, fun p o2 np hd => ?_⟩
          obtain ⟨F2, s2, A2⟩ := A1.newTup r2.rev np hd
          exact (q.mono s1) _ F2 s2 (.ref p) A2
        · cases hz
end
end TL

end
section
set_option Elab.async false
set_option linter.all false
set_option maxRecDepth 100000
set_option autoImplicit false
set_option maxHeartbeats 0
open PySem PySem.Spec PyProof.Rows L2 TL
namespace K05
def topS (i : Nat) : Stmt := PySem.Challenge.pw_fromsize_k05_signs_and_rounds.main.body.getD i (.Pass ⟨0, 0, 0, 0⟩)
def clsS (i j : Nat) : Stmt := match topS i with
  | .ClassDef _ _ _ b _ _ _ _ _ _ _ => b.getD j (.Pass ⟨0, 0, 0, 0⟩)
  | _ => .Pass ⟨0, 0, 0, 0⟩
abbrev st_init_BadWiring : Stmt := clsS 5 0
theorem sc_init_BadWiring : FnScope ["self", "part"] ["self", "part"] (defScope st_init_BadWiring) := ⟨rfl, rfl, rfl, by decide +kernel, rfl, by decide +kernel, by decide +kernel⟩
abbrev st_init_Misfit : Stmt := clsS 6 0
theorem sc_init_Misfit : FnScope ["self", "part"] ["self", "part"] (defScope st_init_Misfit) := ⟨rfl, rfl, rfl, by decide +kernel, rfl, by decide +kernel, by decide +kernel⟩
abbrev st_init_TooMany : Stmt := clsS 7 0
theorem sc_init_TooMany : FnScope ["self", "what", "most"] ["self", "what", "most"] (defScope st_init_TooMany) := ⟨rfl, rfl, rfl, by decide +kernel, rfl, by decide +kernel, by decide +kernel⟩
abbrev st_law_mug : Stmt := topS 23
abbrev N_law_mug : List Str := ["_law_script", "_law_cell"]
theorem sc_law_mug : FnScope N_law_mug ["_law_script"] (defScope st_law_mug) := ⟨rfl, rfl, rfl, by decide +kernel, rfl, by decide +kernel, by decide +kernel⟩
abbrev st_law_sip : Stmt := topS 24
abbrev N_law_sip : List Str := ["_law_mug_here", "_law_many", "_law_held", "_law_turn", "_law_cell", "_law_mixed"]
theorem sc_law_sip : FnScope N_law_sip ["_law_mug_here", "_law_many"] (defScope st_law_sip) := ⟨rfl, rfl, rfl, by decide +kernel, rfl, by decide +kernel, by decide +kernel⟩
abbrev st_law_one_of : Stmt := topS 25
abbrev N_law_one_of : List Str := ["_law_mug_here", "_law_some"]
theorem sc_law_one_of : FnScope N_law_one_of ["_law_mug_here", "_law_some"] (defScope st_law_one_of) := ⟨rfl, rfl, rfl, by decide +kernel, rfl, by decide +kernel, by decide +kernel⟩
abbrev st_law_row : Stmt := topS 26
abbrev N_law_row : List Str := ["_law_mug_here", "_law_wires", "_law_stays", "_law_left", "_law_found", "_law_top"]
theorem sc_law_row : FnScope N_law_row ["_law_mug_here", "_law_wires"] (defScope st_law_row) := ⟨rfl, rfl, rfl, by decide +kernel, rfl, by decide +kernel, by decide +kernel⟩
abbrev st_rounds_of : Stmt := topS 15
abbrev N_rounds_of : List Str := ["row", "found", "known", "start", "places", "spot"]
theorem sc_rounds_of : FnScope N_rounds_of ["row"] (defScope st_rounds_of) := ⟨rfl, rfl, rfl, by decide +kernel, rfl, by decide +kernel, by decide +kernel⟩
abbrev st_is_integer : Stmt := topS 1
abbrev N_is_integer : List Str := ["value"]
theorem sc_is_integer : FnScope N_is_integer ["value"] (defScope st_is_integer) := ⟨rfl, rfl, rfl, by decide +kernel, rfl, by decide +kernel, by decide +kernel⟩
abbrev st_is_numbers : Stmt := topS 2
abbrev N_is_numbers : List Str := ["value", "part"]
theorem sc_is_numbers : FnScope N_is_numbers ["value"] (defScope st_is_numbers) := ⟨rfl, rfl, rfl, by decide +kernel, rfl, by decide +kernel, by decide +kernel⟩
abbrev st_is_wiring : Stmt := topS 10
abbrev N_is_wiring : List Str := ["value"]
theorem sc_is_wiring : FnScope N_is_wiring ["value"] (defScope st_is_wiring) := ⟨rfl, rfl, rfl, by decide +kernel, rfl, by decide +kernel, by decide +kernel⟩
abbrev st_need_wiring : Stmt := topS 11
abbrev N_need_wiring : List Str := ["value", "part"]
theorem sc_need_wiring : FnScope N_need_wiring ["value", "part"] (defScope st_need_wiring) := ⟨rfl, rfl, rfl, by decide +kernel, rfl, by decide +kernel, by decide +kernel⟩
abbrev st_rounds : Stmt := topS 21
abbrev N_rounds : List Str := ["row"]
theorem sc_rounds : FnScope N_rounds ["row"] (defScope st_rounds) := ⟨rfl, rfl, rfl, by decide +kernel, rfl, by decide +kernel, by decide +kernel⟩
abbrev st_sign_of : Stmt := topS 16
abbrev N_sign_of : List Str := ["row"]
theorem sc_sign_of : FnScope N_sign_of ["row"] (defScope st_sign_of) := ⟨rfl, rfl, rfl, by decide +kernel, rfl, by decide +kernel, by decide +kernel⟩
abbrev st_sign : Stmt := topS 20
abbrev N_sign : List Str := ["row"]
theorem sc_sign : FnScope N_sign ["row"] (defScope st_sign) := ⟨rfl, rfl, rfl, by decide +kernel, rfl, by decide +kernel, by decide +kernel⟩
abbrev st_law_rounds : Stmt := topS 27
abbrev N_law_rounds : List Str := ["_law_row_here", "_law_found", "_law_start", "_law_told"]
theorem sc_law_rounds : FnScope N_law_rounds ["_law_row_here"] (defScope st_law_rounds) := ⟨rfl, rfl, rfl, by decide +kernel, rfl, by decide +kernel, by decide +kernel⟩
abbrev st_law_sign : Stmt := topS 28
abbrev N_law_sign : List Str := ["_law_row_here", "_law_crossed", "_law_top", "_law_ahead"]
theorem sc_law_sign : FnScope N_law_sign ["_law_row_here"] (defScope st_law_sign) := ⟨rfl, rfl, rfl, by decide +kernel, rfl, by decide +kernel, by decide +kernel⟩
abbrev st_back_of : Stmt := topS 13
abbrev N_back_of : List Str := ["row", "found", "top", "bottom"]
theorem sc_back_of : FnScope N_back_of ["row"] (defScope st_back_of) := ⟨rfl, rfl, rfl, by decide +kernel, rfl, by decide +kernel, by decide +kernel⟩
abbrev st_back : Stmt := topS 18
abbrev N_back : List Str := ["row"]
theorem sc_back : FnScope N_back ["row"] (defScope st_back) := ⟨rfl, rfl, rfl, by decide +kernel, rfl, by decide +kernel, by decide +kernel⟩
abbrev st_law_one_right : Stmt := topS 30
abbrev N_law_one_right : List Str := ["_law_mug_here", "_law_wires", "_law_row_here", "_law_told", "_law_number", "_law_copy", "_law_home", "_law_one", "_law_other", "_law_kept", "_law_each", "_law_part"]
theorem sc_law_one_right : FnScope N_law_one_right ["_law_mug_here", "_law_wires"] (defScope st_law_one_right) := ⟨rfl, rfl, rfl, by decide +kernel, rfl, by decide +kernel, by decide +kernel⟩
abbrev st_behind_of : Stmt := topS 12
abbrev N_behind_of : List Str := ["one", "other", "place"]
theorem sc_behind_of : FnScope N_behind_of ["one", "other"] (defScope st_behind_of) := ⟨rfl, rfl, rfl, by decide +kernel, rfl, by decide +kernel, by decide +kernel⟩
abbrev st_behind : Stmt := topS 17
abbrev N_behind : List Str := ["one", "other", "first", "then"]
theorem sc_behind : FnScope N_behind ["one", "other"] (defScope st_behind) := ⟨rfl, rfl, rfl, by decide +kernel, rfl, by decide +kernel, by decide +kernel⟩
abbrev st_law_renamed : Stmt := topS 29
abbrev N_law_renamed : List Str := ["_law_told", "_law_names", "_law_found", "_law_each", "_law_fresh", "_law_at", "_law_wire"]
theorem sc_law_renamed : FnScope N_law_renamed ["_law_told", "_law_names"] (defScope st_law_renamed) := ⟨rfl, rfl, rfl, by decide +kernel, rfl, by decide +kernel, by decide +kernel⟩
abbrev st_law_two_right : Stmt := topS 31
abbrev N_law_two_right : List Str := ["_law_mug_here", "_law_wires", "_law_one", "_law_other"]
theorem sc_law_two_right : FnScope N_law_two_right ["_law_mug_here", "_law_wires"] (defScope st_law_two_right) := ⟨rfl, rfl, rfl, by decide +kernel, rfl, by decide +kernel, by decide +kernel⟩
abbrev st_beside_of : Stmt := topS 14
abbrev N_beside_of : List Str := ["one", "other", "place"]
theorem sc_beside_of : FnScope N_beside_of ["one", "other"] (defScope st_beside_of) := ⟨rfl, rfl, rfl, by decide +kernel, rfl, by decide +kernel, by decide +kernel⟩
abbrev st_beside : Stmt := topS 19
abbrev N_beside : List Str := ["one", "other", "first", "then"]
theorem sc_beside : FnScope N_beside ["one", "other"] (defScope st_beside) := ⟨rfl, rfl, rfl, by decide +kernel, rfl, by decide +kernel, by decide +kernel⟩
abbrev st_law_beside_right : Stmt := topS 32
abbrev N_law_beside_right : List Str := ["_law_mug_here", "_law_near", "_law_one", "_law_other", "_law_wide", "_law_due", "_law_each", "_law_wire"]
theorem sc_law_beside_right : FnScope N_law_beside_right ["_law_mug_here"] (defScope st_law_beside_right) := ⟨rfl, rfl, rfl, by decide +kernel, rfl, by decide +kernel, by decide +kernel⟩
abbrev st_law : Stmt := topS 34
abbrev N_law : List Str := ["_law_script", "_law_mug_here", "_law_lap", "_law_wires", "_law_heard_here", "_law_odd"]
theorem sc_law : FnScope N_law ["_law_script"] (defScope st_law) := ⟨rfl, rfl, rfl, by decide +kernel, rfl, by decide +kernel, by decide +kernel⟩
abbrev st_law_heard : Stmt := topS 33
abbrev N_law_heard : List Str := ["_law_ask", "_law_heard_here", "error"]
theorem sc_law_heard : FnScope N_law_heard ["_law_ask"] (defScope st_law_heard) := ⟨rfl, rfl, rfl, by decide +kernel, rfl, by decide +kernel, by decide +kernel⟩
def btN : String → Option Bool := fun n => if n = "NoneType" then some false else none
def ctch_SizeError : Nat → Option Bool
  | 1 => some true
  | 2 => some true
  | 3 => some true
  | _ => none
def own_BadWiring : Nat → Option Bool
  | 1 => some true
  | 2 => some false
  | 3 => some false
  | _ => none
def okc_part : Nat → Bool
  | 1 => true
  | 2 => true
  | _ => false
def b_law_heard (ask : Nib → FR) : SF := seqF (setF 1 (con .non)) (seqF (tryF ctch_SizeError 2 (dropF (askF 0 ask)) (setF 1 (ite3 (tst (op1 (isX own_BadWiring btN) (var 2))) (op1 (attrT okc_part "part") (var 2)) (con (.str "another"))))) (retF (varR 1)))
def b_law_sip : SF := seqF (ifF (tst (op2 gtA (opE (nibGet 0 2)) (opE (con (.int 0))))) (seqF (setF 2 (nibGet 0 2)) (seqF (nibSet 0 2 (opE (op2 fdivT (opE (opN intN (consA (var 2) (nilA)))) (var 1)))) (retF (op2 modT (opE (opN intN (consA (var 2) (nilA)))) (var 1))))) (nxF)) (seqF (setF 3 (nibGet 0 1)) (seqF (nibSet 0 1 (opE (op2 addT (var 3) (opE (con (.int 1)))))) (seqF (setF 4 (op2 addT (opE (op2 mulT (opE (con (.int 81041))) (var 3))) (opE (con (.int 4523))))) (seqF (ifF (tst (op2 neT (opE (nibGet 0 0)) (opE (lstF (nilA))))) (setF 4 (op2 ixT (opE (nibGet 0 0)) (opE (op2 modT (opE (opN intN (consA (var 3) (nilA)))) (opE (opN lenN (consA (opE (nibGet 0 0)) (nilA)))))))) (nxF)) (seqF (ifF (andT (tst (op2 ltA (var 3) (opE (opN lenN (consA (opE (nibGet 0 0)) (nilA)))))) (tst (op2 geT (opE (opN absN (consA (var 4) (nilA)))) (opE (op2 powT (opE (con (.int 10))) (opE (con (.int 18)))))))) (seqF (setF 2 (op2 addT (opE (op2 mulT (opE (con (.int 2))) (opE (op2 subT (opE (opN absN (consA (var 4) (nilA)))) (opE (op2 powT (opE (con (.int 10))) (opE (con (.int 18))))))))) (opE (opN intN (consA (opE (op2 ltA (var 4) (opE (con (.int 0))))) (nilA)))))) (seqF (nibSet 0 2 (opE (op2 fdivT (opE (opN intN (consA (var 2) (nilA)))) (var 1)))) (retF (op2 modT (opE (opN intN (consA (var 2) (nilA)))) (var 1))))) (nxF)) (seqF (setF 5 (op2 modT (opE (opN intN (consA (opE (op2 powT (opE (op2 addT (opE (op2 addT (opE (op2 modT (opE (opN intN (consA (var 4) (nilA)))) (opE (con (.int 2147483579))))) (opE (op2 mulT (opE (con (.int 61417))) (var 3))))) (opE (con (.int 4523))))) (opE (con (.int 5))))) (nilA)))) (opE (con (.int 2147483477))))) (seqF (setF 5 (op2 modT (opE (opN intN (consA (opE (op2 powT (opE (op2 addT (opE (op2 addT (opE (op2 mulT (var 5) (opE (op2 addT (opE (op2 mulT (opE (con (.int 2))) (var 3))) (opE (con (.int 2521))))))) (opE (op2 mulT (opE (op2 mulT (opE (con (.int 81041))) (var 3))) (var 3))))) (opE (con (.int 61417))))) (opE (con (.int 3))))) (nilA)))) (opE (con (.int 2147483587))))) (retF (op2 modT (opE (opN intN (consA (opE (op2 fdivT (var 5) (opE (con (.int 64))))) (nilA)))) (var 1))))))))))
def f_law_sip : Fn := fnOf N_law_sip.length b_law_sip
def b_law_one_of : SF := retF (op2 ixT (var 1) (opE (callF 2 f_law_sip (consA (opE (varE 0)) (consA (opE (opN lenN (consA (var 1) (nilA)))) (nilA))))))
def f_law_one_of : Fn := fnOf N_law_one_of.length b_law_one_of
def b_law_row_L1 : SF := dropF (methF 4 apP (consA (opE (methF 3 popAtP (consA (opE (ite3 (tst (op2 ltA (var 5) (var 2))) (con (.int 0)) (callF 2 f_law_sip (consA (opE (varE 0)) (consA (opE (opN lenN (consA (var 3) (nilA)))) (nilA)))))) (nilA)))) (nilA)))
def b_law_row : SF := seqF (setF 2 (callF 2 f_law_one_of (consA (opE (varE 0)) (consA (opE (lstF (consA (opE (con (.int 0))) (consA (opE (con (.int 0))) (consA (opE (con (.int 1))) (consA (opE (con (.int 2))) (nilA))))))) (nilA))))) (seqF (parF 3 4 (op1 lrg1 (var 1)) (lstF (nilA))) (seqF (forF (rngI1 (opE (varE 1))) (.nm 5) (b_law_row_L1)) (retF (varR 4))))
def f_law_row : Fn := fnOf N_law_row.length b_law_row
def b_rounds_of_L1 : SF := seqF (setDF 2 (opE (con (.bl true))) (opE (varE 5))) (seqF (dropF (methF 4 apP (consA (opE (varE 5)) (nilA)))) (setF 5 (op2 ixT (var 0) (var 5))))
def b_rounds_of_L2 : SF := ifF (tst (op2 (inDT true) (var 3) (var 2))) (seqF (parF 4 5 (lstF (nilA)) (varE 3)) (seqF (whileF 1000000 (tst (op2 (inDT true) (var 5) (var 2))) (b_rounds_of_L1)) (dropF (methF 1 apP (consA (opE (opN tupleN (consA (var 4) (nilA)))) (nilA)))))) (nxF)
def b_rounds_of : SF := seqF (parF 1 2 (lstF (nilA)) (dicF)) (seqF (forF (rngI1 (opE (opN lenN (consA (var 0) (nilA))))) (.nm 3) (b_rounds_of_L2)) (retF (opN tupleN (consA (var 1) (nilA)))))
def f_rounds_of : Fn := fnOf N_rounds_of.length b_rounds_of
def b_is_integer : SF := retF (andE (op1 (isN ["int"]) (var 0)) (notE (op1 (isN ["bool"]) (var 0))))
def f_is_integer : Fn := fnOf N_is_integer.length b_is_integer
def b_is_numbers_C1 : EF := compF [1] (seqI (opE (varE 0))) (.nm 1) (yesT) (callF 1 f_is_integer (consA (opE (varE 1)) (nilA)))
def b_is_numbers : SF := retF (andE (op1 (isN ["list", "tuple"]) (var 0)) (opN allN (consA (opE (b_is_numbers_C1)) (nilA))))
def f_is_numbers : Fn := fnOf N_is_numbers.length b_is_numbers
def b_is_wiring : SF := seqF (ifF (orT (notT (tst (callF 1 f_is_numbers (consA (opE (varE 0)) (nilA))))) (notT (tst (chn leT leT (opE (con (.int 1))) (opE (opN lenN (consA (var 0) (nilA)))) (opE (con (.int 6))))))) (retF (con (.bl false))) (nxF)) (retF (op2 eqT (opE (opN sortBN (consA (var 0) (nilA)))) (opE (op1 lrg1 (opE (opN lenN (consA (var 0) (nilA))))))))
def f_is_wiring : Fn := fnOf N_is_wiring.length b_is_wiring
def b_need_wiring : SF := seqF (ifF (notT (tst (callF 1 f_is_wiring (consA (opE (varE 0)) (nilA))))) (raiseF 1 ["part"] (consA (opE (varE 1)) (nilA))) (nxF)) (retF (opN tupleN (consA (var 0) (nilA))))
def f_need_wiring : Fn := fnOf N_need_wiring.length b_need_wiring
def b_rounds : SF := retF (callF 1 f_rounds_of (consA (opE (callF 2 f_need_wiring (consA (opE (varE 0)) (consA (opE (con (.str "row"))) (nilA))))) (nilA)))
def f_rounds : Fn := fnOf N_rounds.length b_rounds
def b_sign_of : SF := retF (ite3 (tst (op2 eqT (opE (op2 modT (opE (op2 subT (opE (opN lenN (consA (var 0) (nilA)))) (opE (opN lenN (consA (opE (callF 1 f_rounds_of (consA (opE (varE 0)) (nilA)))) (nilA)))))) (opE (con (.int 2))))) (opE (con (.int 0))))) (con (.int 1)) (op1 negT (opE (con (.int 1)))))
def f_sign_of : Fn := fnOf N_sign_of.length b_sign_of
def b_sign : SF := retF (callF 1 f_sign_of (consA (opE (callF 2 f_need_wiring (consA (opE (varE 0)) (consA (opE (con (.str "row"))) (nilA))))) (nilA)))
def f_sign : Fn := fnOf N_sign.length b_sign
def b_law_rounds_L1 : SF := dropF (methF 3 apP (consA (opE (op2 ixT (var 0) (opE (op2 ixT (var 3) (opE (op1 negT (opE (con (.int 1))))))))) (nilA)))
def b_law_rounds_L2 : SF := seqF (setF 3 (lstF (consA (opE (varE 2)) (nilA)))) (seqF (whileF 1000000 (tst (op2 neT (opE (op2 ixT (var 0) (opE (op2 ixT (var 3) (opE (op1 negT (opE (con (.int 1))))))))) (var 2))) (b_law_rounds_L1)) (ifF (tst (op2 eqT (opE (opN minN (consA (var 3) (nilA)))) (var 2))) (dropF (methF 1 apP (consA (opE (opN tupleN (consA (var 3) (nilA)))) (nilA)))) (nxF)))
def b_law_rounds : SF := seqF (setF 1 (lstF (nilA))) (seqF (forF (rngI1 (opE (opN lenN (consA (var 0) (nilA))))) (.nm 2) (b_law_rounds_L2)) (retF (opN tupleN (consA (var 1) (nilA)))))
def f_law_rounds : Fn := fnOf N_law_rounds.length b_law_rounds
def b_law_sign_C1 : EF := compF [3] (rngI1 (opE (varE 2))) (.nm 3) (tst (op2 gtA (opE (op2 ixT (var 0) (var 3))) (opE (op2 ixT (var 0) (var 2))))) (varE 3)
def b_law_sign_C2 : EF := compF [2] (rngI1 (opE (opN lenN (consA (var 0) (nilA))))) (.nm 2) (yesT) (opN lenN (consA (opE (b_law_sign_C1)) (nilA)))
def b_law_sign : SF := seqF (setF 1 (opN sumN (consA (opE (b_law_sign_C2)) (nilA)))) (retF (ite3 (tst (op2 eqT (opE (op2 modT (opE (opN intN (consA (var 1) (nilA)))) (opE (con (.int 2))))) (opE (con (.int 0))))) (con (.int 1)) (op1 negT (opE (con (.int 1))))))
def f_law_sign : Fn := fnOf N_law_sign.length b_law_sign
def b_back_of_L1 : SF := setIF 1 (opE (varE 2)) (opE (varE 3))
def b_back_of : SF := seqF (setF 1 (opN listN (consA (var 0) (nilA)))) (seqF (forF (enumI (opE (varE 0))) (.tp [2, 3]) (b_back_of_L1)) (retF (opN tupleN (consA (var 1) (nilA)))))
def f_back_of : Fn := fnOf N_back_of.length b_back_of
def b_back : SF := retF (callF 1 f_back_of (consA (opE (callF 2 f_need_wiring (consA (opE (varE 0)) (consA (opE (con (.str "row"))) (nilA))))) (nilA)))
def f_back : Fn := fnOf N_back.length b_back
def b_law_one_right_C1 : EF := compF [10] (seqI (opE (varE 3))) (.nm 10) (notT (tst (op1 (isN ["tuple"]) (var 10)))) (varE 10)
def b_law_one_right_C2 : EF := compF [11] (seqI (opE (varE 10))) (.nm 11) (tst (op1 (isN ["bool"]) (var 11))) (varE 11)
def b_law_one_right_C3 : EF := compF [10] (seqI (opE (varE 3))) (.nm 10) (tst (op2 neT (opE (b_law_one_right_C2)) (opE (lstF (nilA))))) (varE 10)
def b_law_one_right_C4 : EF := compF [10] (seqI (opE (varE 3))) (.nm 10) (yesT) (op2 addT (opE (slF slT' (var 10) (noB) (someB (opE (con (.int 1)))))) (opE (op1 revA (opE (slF slT' (var 10) (someB (opE (con (.int 1)))) (noB))))))
def b_law_one_right : SF := seqF (setF 2 (callF 2 f_law_row (consA (opE (varE 0)) (consA (opE (varE 1)) (nilA))))) (seqF (par3E 3 4 5 (callBF 1 f_rounds (consA (var 2) (nilA))) (callBF 1 f_sign (consA (var 2) (nilA))) (opN listN (consA (var 2) (nilA)))) (seqF (ifF (orT (notT (tst (op1 (isN ["tuple"]) (var 3)))) (orT (tst (op2 neT (opE (b_law_one_right_C1)) (opE (lstF (nilA))))) (tst (op2 neT (var 3) (opE (callBF 1 f_law_rounds (consA (var 2) (nilA)))))))) (retF (con (.bl false))) (nxF)) (seqF (ifF (tst (op2 neT (opE (b_law_one_right_C3)) (opE (lstF (nilA))))) (retF (con (.bl false))) (nxF)) (seqF (ifF (orT (tst (op1 (isN ["bool"]) (var 4))) (orT (notT (tst (op1 (isN ["int"]) (var 4)))) (orT (tst (op2 neT (var 4) (opE (callBF 1 f_law_sign (consA (var 2) (nilA)))))) (tst (op2 neT (var 4) (opE (ite3 (tst (op2 eqT (opE (op2 modT (opE (opN intN (consA (opE (op2 subT (var 1) (opE (opN lenN (consA (var 3) (nilA)))))) (nilA)))) (opE (con (.int 2))))) (opE (con (.int 0))))) (con (.int 1)) (op1 negT (opE (con (.int 1))))))))))) (retF (con (.bl false))) (nxF)) (seqF (ifF (orT (tst (op2 neT (opE (callKF 1 1 [0] f_rounds nilA (consA (opE (opN tupleN (consA (var 2) (nilA)))) (nilA)))) (var 3))) (orT (tst (op2 neT (opE (callKF 1 1 [0] f_sign nilA (consA (opE (opN tupleN (consA (var 2) (nilA)))) (nilA)))) (var 4))) (tst (op2 neT (var 2) (var 5))))) (retF (con (.bl false))) (nxF)) (seqF (setF 6 (callBF 1 f_back (consA (var 2) (nilA)))) (seqF (ifF (orT (tst (op2 neT (opE (callF 1 f_sign (consA (opE (varE 6)) (nilA)))) (var 4))) (tst (op2 neT (opE (callF 1 f_rounds (consA (opE (varE 6)) (nilA)))) (opE (opN tupleN (consA (opE (b_law_one_right_C4)) (nilA))))))) (retF (con (.bl false))) (nxF)) (seqF (parF 7 8 (callF 2 f_law_sip (consA (opE (varE 0)) (consA (opE (varE 1)) (nilA)))) (callF 2 f_law_sip (consA (opE (varE 0)) (consA (opE (varE 1)) (nilA))))) (seqF (setF 9 (op2 ixT (var 2) (var 7))) (seqF (setIF 2 (opE (op2 ixT (var 2) (var 8))) (opE (varE 7))) (seqF (setIF 2 (opE (varE 9)) (opE (varE 8))) (retF (op2 eqT (opE (callBF 1 f_sign (consA (var 2) (nilA)))) (opE (ite3 (tst (op2 eqT (var 7) (var 8))) (varE 4) (op1 negT (var 4)))))))))))))))))
def f_law_one_right : Fn := fnOf N_law_one_right.length b_law_one_right
def b_behind_of_C1 : EF := compF [2] (seqI (opE (varE 0))) (.nm 2) (yesT) (op2 ixT (var 1) (var 2))
def b_behind_of : SF := retF (opN tupleN (consA (opE (b_behind_of_C1)) (nilA)))
def f_behind_of : Fn := fnOf N_behind_of.length b_behind_of
def b_behind : SF := seqF (parF 2 3 (callF 2 f_need_wiring (consA (opE (varE 0)) (consA (opE (con (.str "one"))) (nilA)))) (callF 2 f_need_wiring (consA (opE (varE 1)) (consA (opE (con (.str "other"))) (nilA))))) (seqF (ifF (tst (op2 neT (opE (opN lenN (consA (var 2) (nilA)))) (opE (opN lenN (consA (var 3) (nilA)))))) (raiseF 2 ["part"] (consA (opE (con (.str "wires"))) (nilA))) (nxF)) (retF (callF 2 f_behind_of (consA (opE (varE 2)) (consA (opE (varE 3)) (nilA))))))
def f_behind : Fn := fnOf N_behind.length b_behind
def b_law_renamed_C1 : EF := compF [6] (seqI (opE (varE 3))) (.nm 6) (yesT) (op2 ixT (var 1) (var 6))
def b_law_renamed_L2 : SF := seqF (setF 4 (b_law_renamed_C1)) (seqF (setF 5 (idxF (var 4) (opE (opN minN (consA (var 4) (nilA)))))) (dropF (methF 2 apP (consA (opE (opN tupleN (consA (opE (op2 addT (opE (slF slT' (var 4) (someB (var 5)) (noB))) (opE (slF slT' (var 4) (noB) (someB (var 5)))))) (nilA)))) (nilA)))))
def b_law_renamed : SF := seqF (setF 2 (lstF (nilA))) (seqF (forF (seqI (opE (varE 0))) (.nm 3) (b_law_renamed_L2)) (retF (opN tupleN (consA (opE (opN sortBN (consA (var 2) (nilA)))) (nilA)))))
def f_law_renamed : Fn := fnOf N_law_renamed.length b_law_renamed
def b_law_two_right : SF := seqF (parF 2 3 (callF 2 f_law_row (consA (opE (varE 0)) (consA (opE (varE 1)) (nilA)))) (callF 2 f_law_row (consA (opE (varE 0)) (consA (opE (varE 1)) (nilA))))) (seqF (ifF (orT (tst (op2 neT (opE (callF 1 f_sign (consA (opE (callF 2 f_behind (consA (opE (varE 2)) (consA (opE (varE 3)) (nilA))))) (nilA)))) (opE (op2 mulT (opE (callF 1 f_sign (consA (opE (varE 2)) (nilA)))) (opE (callF 1 f_sign (consA (opE (varE 3)) (nilA)))))))) (tst (op2 neT (opE (callF 1 f_sign (consA (opE (callF 2 f_behind (consA (opE (varE 3)) (consA (opE (varE 2)) (nilA))))) (nilA)))) (opE (op2 mulT (opE (callF 1 f_sign (consA (opE (varE 2)) (nilA)))) (opE (callF 1 f_sign (consA (opE (varE 3)) (nilA))))))))) (retF (con (.bl false))) (nxF)) (seqF (ifF (tst (op2 neT (opE (opN lenN (consA (opE (callF 1 f_rounds (consA (opE (callF 2 f_behind (consA (opE (varE 2)) (consA (opE (varE 3)) (nilA))))) (nilA)))) (nilA)))) (opE (opN lenN (consA (opE (callF 1 f_rounds (consA (opE (callF 2 f_behind (consA (opE (varE 3)) (consA (opE (varE 2)) (nilA))))) (nilA)))) (nilA)))))) (retF (con (.bl false))) (nxF)) (retF (op2 eqT (opE (callF 1 f_rounds (consA (opE (callF 2 f_behind (consA (opE (callF 2 f_behind (consA (opE (callF 1 f_back (consA (opE (varE 3)) (nilA)))) (consA (opE (varE 2)) (nilA))))) (consA (opE (varE 3)) (nilA))))) (nilA)))) (opE (callF 2 f_law_renamed (consA (opE (callF 1 f_law_rounds (consA (opE (varE 2)) (nilA)))) (consA (opE (varE 3)) (nilA)))))))))
def f_law_two_right : Fn := fnOf N_law_two_right.length b_law_two_right
def b_beside_of_C1 : EF := compF [2] (seqI (opE (varE 1))) (.nm 2) (yesT) (op2 addT (opE (opN lenN (consA (var 0) (nilA)))) (var 2))
def b_beside_of : SF := retF (opN tupleN (consA (opE (lstF (starA (opE (varE 0)) (starA (opE (b_beside_of_C1)) (nilA))))) (nilA)))
def f_beside_of : Fn := fnOf N_beside_of.length b_beside_of
def b_beside : SF := seqF (parF 2 3 (callF 2 f_need_wiring (consA (opE (varE 0)) (consA (opE (con (.str "one"))) (nilA)))) (callF 2 f_need_wiring (consA (opE (varE 1)) (consA (opE (con (.str "other"))) (nilA))))) (seqF (ifF (tst (op2 gtA (opE (op2 addT (opE (opN lenN (consA (var 2) (nilA)))) (opE (opN lenN (consA (var 3) (nilA)))))) (opE (con (.int 6))))) (raiseF 3 ["what", "most"] (consA (opE (con (.str "wires"))) (consA (opE (con (.int 6))) (nilA)))) (nxF)) (retF (callF 2 f_beside_of (consA (opE (varE 2)) (consA (opE (varE 3)) (nilA))))))
def f_beside : Fn := fnOf N_beside.length b_beside
def b_law_beside_right_C1 : EF := compF [7] (seqI (opE (varE 6))) (.nm 7) (yesT) (op2 addT (var 1) (var 7))
def b_law_beside_right_C2 : EF := compF [6] (seqI (opE (callF 1 f_law_rounds (consA (opE (varE 3)) (nilA))))) (.nm 6) (yesT) (opN tupleN (consA (opE (b_law_beside_right_C1)) (nilA)))
def b_law_beside_right : SF := seqF (setF 1 (op2 addT (opE (con (.int 1))) (opE (callF 2 f_law_sip (consA (opE (varE 0)) (consA (opE (con (.int 5))) (nilA))))))) (seqF (parF 2 3 (callF 2 f_law_row (consA (opE (varE 0)) (consA (opE (varE 1)) (nilA)))) (callF 2 f_law_row (consA (opE (varE 0)) (consA (opE (op2 addT (opE (con (.int 1))) (opE (callF 2 f_law_sip (consA (opE (varE 0)) (consA (opE (op2 subT (opE (con (.int 6))) (var 1))) (nilA))))))) (nilA))))) (seqF (setF 4 (callF 2 f_beside (consA (opE (varE 2)) (consA (opE (varE 3)) (nilA))))) (seqF (setF 5 (op2 addT (opE (callF 1 f_law_rounds (consA (opE (varE 2)) (nilA)))) (opE (opN tupleN (consA (opE (b_law_beside_right_C2)) (nilA)))))) (retF (andE (op2 eqT (opE (callF 1 f_sign (consA (opE (varE 4)) (nilA)))) (opE (op2 mulT (opE (callF 1 f_sign (consA (opE (varE 2)) (nilA)))) (opE (callF 1 f_sign (consA (opE (varE 3)) (nilA))))))) (op2 eqT (opE (callF 1 f_rounds (consA (opE (varE 4)) (nilA)))) (var 5)))))))
def f_law_beside_right : Fn := fnOf N_law_beside_right.length b_law_beside_right
def b_law_L1 : SF := seqF (setF 3 (op2 addT (opE (con (.int 1))) (opE (callF 2 f_law_sip (consA (opE (varE 1)) (consA (opE (con (.int 6))) (nilA))))))) (ifF (orT (notT (tst (callF 2 f_law_one_right (consA (opE (varE 1)) (consA (opE (varE 3)) (nilA)))))) (orT (notT (tst (callF 2 f_law_two_right (consA (opE (varE 1)) (consA (opE (varE 3)) (nilA)))))) (notT (tst (callF 1 f_law_beside_right (consA (opE (varE 1)) (nilA))))))) (retF (con (.bl false))) (nxF))
def b_law_X2 : EF := callF 1 f_rounds (consA (opE (varE 5)) (nilA))
def b_law_X3 : EF := callF 1 f_sign (consA (opE (varE 5)) (nilA))
def b_law : SF := seqF (forF (rngI1 (opE (con (.int 3)))) (.nm 2) (b_law_L1)) (seqF (setF 5 (callF 2 f_law_one_of (consA (opE (varE 1)) (consA (opE (lstF (consA (opE (con .non)) (consA (opE (con (.int 5))) (consA (opE (con (.bl true))) (consA (opE (con (.str "10"))) (consA (opE (dicF)) (consA (opE (lstF (nilA))) (consA (opE (tupF (nilA))) (consA (opE (lstF (consA (opE (con (.int 1))) (nilA)))) (consA (opE (lstF (consA (opE (con (.int 0))) (consA (opE (con (.int 0))) (nilA))))) (consA (opE (lstF (consA (opE (con (.int 1))) (consA (opE (con (.int 2))) (nilA))))) (consA (opE (lstF (consA (opE (con (.int 0))) (consA (opE (op1 negT (opE (con (.int 1))))) (nilA))))) (consA (opE (lstF (consA (opE (con (.bl true))) (consA (opE (con (.bl false))) (nilA))))) (consA (opE (lstF (consA (opE (con (.str "0"))) (nilA)))) (consA (opE (lstF (consA (opE (lstF (consA (opE (con (.int 0))) (nilA)))) (nilA)))) (consA (opE (op1 lrg1 (opE (con (.int 7))))) (consA (opE (lstF (consA (opE (con (.int 0))) (consA (opE (con .non)) (consA (opE (con (.int 1))) (nilA)))))) (nilA))))))))))))))))))) (nilA))))) (seqF (setF 4 (lstF (consA (opE (lamF [5] (b_law_X2) (hFn N_law_heard.length b_law_heard))) (nilA)))) (seqF (dropF (methF 4 apP (consA (opE (lamF [5] (b_law_X3) (hFn N_law_heard.length b_law_heard))) (nilA)))) (retF (andE (op2 eqT (var 4) (opE (lstF (consA (opE (con (.str "row"))) (consA (opE (con (.str "row"))) (nilA)))))) (andE (op2 eqT (opE (callF 1 f_rounds (consA (opE (lstF (consA (opE (con (.int 0))) (nilA)))) (nilA)))) (opE (tupF (consA (opE (tupF (consA (opE (con (.int 0))) (nilA)))) (nilA))))) (op2 eqT (opE (callF 1 f_sign (consA (opE (tupF (consA (opE (con (.int 0))) (nilA)))) (nilA)))) (opE (con (.int 1))))))))))
structure Tab (K : PySem.W.Frag) (mg : Str → Option Value) where
  X_SizeError : Addr
  G_SizeError : mg "SizeError" = some (.ref X_SizeError)
  X_BadWiring : Addr
  G_BadWiring : mg "BadWiring" = some (.ref X_BadWiring)
  I_BadWiring : Addr
  DI_BadWiring : FuncData
  FI_BadWiring : Fun K "__init__" "BadWiring.__init__" st_init_BadWiring I_BadWiring DI_BadWiring
  B_BadWiring : Binds K DI_BadWiring ["self", "part"] []
  E_BadWiring : ExcT K mg "BadWiring" X_BadWiring I_BadWiring
  no_BadWiring_part : PySem.W.findIn K (.ref X_BadWiring) "part" = some none
  X_Misfit : Addr
  G_Misfit : mg "Misfit" = some (.ref X_Misfit)
  I_Misfit : Addr
  DI_Misfit : FuncData
  FI_Misfit : Fun K "__init__" "Misfit.__init__" st_init_Misfit I_Misfit DI_Misfit
  B_Misfit : Binds K DI_Misfit ["self", "part"] []
  E_Misfit : ExcT K mg "Misfit" X_Misfit I_Misfit
  no_Misfit_part : PySem.W.findIn K (.ref X_Misfit) "part" = some none
  X_TooMany : Addr
  G_TooMany : mg "TooMany" = some (.ref X_TooMany)
  I_TooMany : Addr
  DI_TooMany : FuncData
  FI_TooMany : Fun K "__init__" "TooMany.__init__" st_init_TooMany I_TooMany DI_TooMany
  B_TooMany : Binds K DI_TooMany ["self", "what", "most"] []
  E_TooMany : ExcT K mg "TooMany" X_TooMany I_TooMany
  no_TooMany_what : PySem.W.findIn K (.ref X_TooMany) "what" = some none
  no_TooMany_most : PySem.W.findIn K (.ref X_TooMany) "most" = some none
  kitN_BadWiring : PySem.W.kitOne K (.type "NoneType") (.ref X_BadWiring) = some false
  kit_BadWiring_BadWiring : PySem.W.kitOne K (.ref X_BadWiring) (.ref X_BadWiring) = some true
  kit_Misfit_BadWiring : PySem.W.kitOne K (.ref X_Misfit) (.ref X_BadWiring) = some false
  kit_TooMany_BadWiring : PySem.W.kitOne K (.ref X_TooMany) (.ref X_BadWiring) = some false
  exm_BadWiring_SizeError : PySem.W.exmOne K (.ref X_BadWiring) (.ref X_SizeError) = some true
  exm_Misfit_SizeError : PySem.W.exmOne K (.ref X_Misfit) (.ref X_SizeError) = some true
  exm_TooMany_SizeError : PySem.W.exmOne K (.ref X_TooMany) (.ref X_SizeError) = some true
  a_law_mug : Addr
  d_law_mug : FuncData
  F_law_mug : Fun K "_law_mug" "_law_mug" st_law_mug a_law_mug d_law_mug
  m_law_mug : mg "_law_mug" = some (.ref a_law_mug)
  b_law_mug : Binds K d_law_mug ["_law_script"] []
  a_law_sip : Addr
  d_law_sip : FuncData
  F_law_sip : Fun K "_law_sip" "_law_sip" st_law_sip a_law_sip d_law_sip
  m_law_sip : mg "_law_sip" = some (.ref a_law_sip)
  b_law_sip : Binds K d_law_sip ["_law_mug_here", "_law_many"] []
  a_law_one_of : Addr
  d_law_one_of : FuncData
  F_law_one_of : Fun K "_law_one_of" "_law_one_of" st_law_one_of a_law_one_of d_law_one_of
  m_law_one_of : mg "_law_one_of" = some (.ref a_law_one_of)
  b_law_one_of : Binds K d_law_one_of ["_law_mug_here", "_law_some"] []
  a_law_row : Addr
  d_law_row : FuncData
  F_law_row : Fun K "_law_row" "_law_row" st_law_row a_law_row d_law_row
  m_law_row : mg "_law_row" = some (.ref a_law_row)
  b_law_row : Binds K d_law_row ["_law_mug_here", "_law_wires"] []
  a_rounds_of : Addr
  d_rounds_of : FuncData
  F_rounds_of : Fun K "rounds_of" "rounds_of" st_rounds_of a_rounds_of d_rounds_of
  m_rounds_of : mg "rounds_of" = some (.ref a_rounds_of)
  b_rounds_of : Binds K d_rounds_of ["row"] []
  a_is_integer : Addr
  d_is_integer : FuncData
  F_is_integer : Fun K "is_integer" "is_integer" st_is_integer a_is_integer d_is_integer
  m_is_integer : mg "is_integer" = some (.ref a_is_integer)
  b_is_integer : Binds K d_is_integer ["value"] []
  a_is_numbers : Addr
  d_is_numbers : FuncData
  F_is_numbers : Fun K "is_numbers" "is_numbers" st_is_numbers a_is_numbers d_is_numbers
  m_is_numbers : mg "is_numbers" = some (.ref a_is_numbers)
  b_is_numbers : Binds K d_is_numbers ["value"] []
  a_is_wiring : Addr
  d_is_wiring : FuncData
  F_is_wiring : Fun K "is_wiring" "is_wiring" st_is_wiring a_is_wiring d_is_wiring
  m_is_wiring : mg "is_wiring" = some (.ref a_is_wiring)
  b_is_wiring : Binds K d_is_wiring ["value"] []
  a_need_wiring : Addr
  d_need_wiring : FuncData
  F_need_wiring : Fun K "need_wiring" "need_wiring" st_need_wiring a_need_wiring d_need_wiring
  m_need_wiring : mg "need_wiring" = some (.ref a_need_wiring)
  b_need_wiring : Binds K d_need_wiring ["value", "part"] []
  a_rounds : Addr
  d_rounds : FuncData
  F_rounds : Fun K "rounds" "rounds" st_rounds a_rounds d_rounds
  m_rounds : mg "rounds" = some (.ref a_rounds)
  b_rounds : Binds K d_rounds ["row"] []
  a_sign_of : Addr
  d_sign_of : FuncData
  F_sign_of : Fun K "sign_of" "sign_of" st_sign_of a_sign_of d_sign_of
  m_sign_of : mg "sign_of" = some (.ref a_sign_of)
  b_sign_of : Binds K d_sign_of ["row"] []
  a_sign : Addr
  d_sign : FuncData
  F_sign : Fun K "sign" "sign" st_sign a_sign d_sign
  m_sign : mg "sign" = some (.ref a_sign)
  b_sign : Binds K d_sign ["row"] []
  a_law_rounds : Addr
  d_law_rounds : FuncData
  F_law_rounds : Fun K "_law_rounds" "_law_rounds" st_law_rounds a_law_rounds d_law_rounds
  m_law_rounds : mg "_law_rounds" = some (.ref a_law_rounds)
  b_law_rounds : Binds K d_law_rounds ["_law_row_here"] []
  a_law_sign : Addr
  d_law_sign : FuncData
  F_law_sign : Fun K "_law_sign" "_law_sign" st_law_sign a_law_sign d_law_sign
  m_law_sign : mg "_law_sign" = some (.ref a_law_sign)
  b_law_sign : Binds K d_law_sign ["_law_row_here"] []
  a_back_of : Addr
  d_back_of : FuncData
  F_back_of : Fun K "back_of" "back_of" st_back_of a_back_of d_back_of
  m_back_of : mg "back_of" = some (.ref a_back_of)
  b_back_of : Binds K d_back_of ["row"] []
  a_back : Addr
  d_back : FuncData
  F_back : Fun K "back" "back" st_back a_back d_back
  m_back : mg "back" = some (.ref a_back)
  b_back : Binds K d_back ["row"] []
  a_law_one_right : Addr
  d_law_one_right : FuncData
  F_law_one_right : Fun K "_law_one_right" "_law_one_right" st_law_one_right a_law_one_right d_law_one_right
  m_law_one_right : mg "_law_one_right" = some (.ref a_law_one_right)
  b_law_one_right : Binds K d_law_one_right ["_law_mug_here", "_law_wires"] []
  a_behind_of : Addr
  d_behind_of : FuncData
  F_behind_of : Fun K "behind_of" "behind_of" st_behind_of a_behind_of d_behind_of
  m_behind_of : mg "behind_of" = some (.ref a_behind_of)
  b_behind_of : Binds K d_behind_of ["one", "other"] []
  a_behind : Addr
  d_behind : FuncData
  F_behind : Fun K "behind" "behind" st_behind a_behind d_behind
  m_behind : mg "behind" = some (.ref a_behind)
  b_behind : Binds K d_behind ["one", "other"] []
  a_law_renamed : Addr
  d_law_renamed : FuncData
  F_law_renamed : Fun K "_law_renamed" "_law_renamed" st_law_renamed a_law_renamed d_law_renamed
  m_law_renamed : mg "_law_renamed" = some (.ref a_law_renamed)
  b_law_renamed : Binds K d_law_renamed ["_law_told", "_law_names"] []
  a_law_two_right : Addr
  d_law_two_right : FuncData
  F_law_two_right : Fun K "_law_two_right" "_law_two_right" st_law_two_right a_law_two_right d_law_two_right
  m_law_two_right : mg "_law_two_right" = some (.ref a_law_two_right)
  b_law_two_right : Binds K d_law_two_right ["_law_mug_here", "_law_wires"] []
  a_beside_of : Addr
  d_beside_of : FuncData
  F_beside_of : Fun K "beside_of" "beside_of" st_beside_of a_beside_of d_beside_of
  m_beside_of : mg "beside_of" = some (.ref a_beside_of)
  b_beside_of : Binds K d_beside_of ["one", "other"] []
  a_beside : Addr
  d_beside : FuncData
  F_beside : Fun K "beside" "beside" st_beside a_beside d_beside
  m_beside : mg "beside" = some (.ref a_beside)
  b_beside : Binds K d_beside ["one", "other"] []
  a_law_beside_right : Addr
  d_law_beside_right : FuncData
  F_law_beside_right : Fun K "_law_beside_right" "_law_beside_right" st_law_beside_right a_law_beside_right d_law_beside_right
  m_law_beside_right : mg "_law_beside_right" = some (.ref a_law_beside_right)
  b_law_beside_right : Binds K d_law_beside_right ["_law_mug_here"] []
  a_law : Addr
  d_law : FuncData
  cc_law : Addr
  P_law : Addr
  FC_law : FunC K "law" "law" st_law a_law d_law cc_law
  kp_law : PySem.W.keepIn K (.ref a_law) = true
  ti_law : PySem.W.tabIn K "law" = some (cc_law, P_law)
  m_law : mg "law" = some (.ref a_law)
  b_law : Binds K d_law ["_law_script"] []
  a_law_heard : Addr
  d_law_heard : FuncData
  F_law_heard : Fun K "_law_heard" "_law_heard" st_law_heard a_law_heard d_law_heard
  m_law_heard : mg "_law_heard" = some (.ref a_law_heard)
  b_law_heard : Binds K d_law_heard ["_law_ask"] []
  k_rounds_row : BindsK d_rounds ["row"] ["row"] [0]
  k_sign_row : BindsK d_sign ["row"] ["row"] [0]
  z_abs : mg "abs" = none
  z_all : mg "all" = none
  z_bool : mg "bool" = none
  z_enumerate : mg "enumerate" = none
  z_int : mg "int" = none
  z_isinstance : mg "isinstance" = none
  z_len : mg "len" = none
  z_list : mg "list" = none
  z_min : mg "min" = none
  z_range : mg "range" = none
  z_sorted : mg "sorted" = none
  z_sum : mg "sum" = none
  z_tuple : mg "tuple" = none
  tk_MOST_WIRES : Tok
  c_MOST_WIRES : mg "MOST_WIRES" = some (.int 6 tk_MOST_WIRES)
namespace Tab
variable {K : PySem.W.Frag} {mg : Str → Option Value}
def ca (T : Tab K mg) : Nat → Addr
  | 0 => T.X_SizeError
  | 1 => T.X_BadWiring
  | 2 => T.X_Misfit
  | _ => T.X_TooMany
def tb (T : Tab K mg) : List (Addr × Str) := [(T.P_law, "law.<locals>.<lambda>")]
theorem tbm_law (T : Tab K mg) (q : Str) (h : q = "law.<locals>.<lambda>") : (T.P_law, q) ∈ T.tb := by subst h; exact .head _
theorem tbu_law (T : Tab K mg) : ∀ p ∈ T.tb, p.1 = T.P_law → p.2 = "law.<locals>.<lambda>" := fun p hp _ => by
  rw [List.mem_singleton.mp hp]
theorem ct_SizeError (T : Tab K mg) : ∀ k b, ctch_SizeError k = some b → PySem.W.exmOne K (.ref (T.ca k)) (.ref T.X_SizeError) = some b := fun k b h => by
  match k, h with
  | 1, h => cases h; exact T.exm_BadWiring_SizeError
  | 2, h => cases h; exact T.exm_Misfit_SizeError
  | 3, h => cases h; exact T.exm_TooMany_SizeError
theorem is_BadWiring (T : Tab K mg) : IsOk K T.ca own_BadWiring btN [.ref T.X_BadWiring] where
  own := fun k b h => by
    match k, h with
    | 1, h => cases h; exact ⟨T.E_BadWiring.exc, kitAny1 T.kit_BadWiring_BadWiring⟩
    | 2, h => cases h; exact ⟨T.E_Misfit.exc, kitAny1 T.kit_Misfit_BadWiring⟩
    | 3, h => cases h; exact ⟨T.E_TooMany.exc, kitAny1 T.kit_TooMany_BadWiring⟩
  bt := fun n b h => by
    unfold btN at h
    split at h
    · rename_i e; subst e; cases h; exact kitAny1 T.kitN_BadWiring
    · cases h
theorem at_part (T : Tab K mg) : ∀ k, okc_part k = true → ExcC K (T.ca k) ∧ PySem.W.findIn K (.ref (T.ca k)) "part" = some none := fun k h => by
  match k, h with
  | 1, h => exact ⟨T.E_BadWiring.exc, T.no_BadWiring_part⟩
  | 2, h => exact ⟨T.E_Misfit.exc, T.no_Misfit_part⟩
end Tab
structure TabL {K : PySem.W.Frag} {mg : Str → Option Value} (T : Tab K mg) (base : Heap) : Prop where
  tb_law : LamX.TabB base mg T.cc_law T.P_law
section
variable {P : Program} {w : World} {K : PySem.W.Frag} {mg : Str → Option Value} {base : Heap}
theorem ok_init_BadWiring (T : Tab K mg) : FnOk P w K mg base (L2.CX P w) 1 T.I_BadWiring T.DI_BadWiring ["self", "part"] (spInit K T.X_BadWiring ["part"]) := by
  refine T.FI_BadWiring.okX (k := 0) sc_init_BadWiring (fun vs H Q E h => ?_) (fun cdv A outer s H vs Q E hr h => ⟨_, pss_one (ps_ost (pv 0) (pv 1)), init1_read T.E_BadWiring.oex T.no_BadWiring_part h⟩)
  obtain ⟨a, ys, rfl, hl, _⟩ := h
  rw [List.length_cons, hl] <;> rfl
theorem ok_init_Misfit (T : Tab K mg) : FnOk P w K mg base (L2.CX P w) 1 T.I_Misfit T.DI_Misfit ["self", "part"] (spInit K T.X_Misfit ["part"]) := by
  refine T.FI_Misfit.okX (k := 0) sc_init_Misfit (fun vs H Q E h => ?_) (fun cdv A outer s H vs Q E hr h => ⟨_, pss_one (ps_ost (pv 0) (pv 1)), init1_read T.E_Misfit.oex T.no_Misfit_part h⟩)
  obtain ⟨a, ys, rfl, hl, _⟩ := h
  rw [List.length_cons, hl] <;> rfl
theorem ok_init_TooMany (T : Tab K mg) : FnOk P w K mg base (L2.CX P w) 1 T.I_TooMany T.DI_TooMany ["self", "what", "most"] (spInit K T.X_TooMany ["what", "most"]) := by
  refine T.FI_TooMany.okX (k := 0) sc_init_TooMany (fun vs H Q E h => ?_) (fun cdv A outer s H vs Q E hr h => ⟨_, pss_cons (ps_ost (pv 0) (pv 1)) (pss_one (ps_ost (pv 0) (pv 2))), init2_read T.E_TooMany.oex T.no_TooMany_what T.no_TooMany_most h⟩)
  obtain ⟨a, ys, rfl, hl, _⟩ := h
  rw [List.length_cons, hl] <;> rfl
end
theorem bk_rounds_row {kV doc pm : Value} {an : Option Addr} {cdv ct : Value} (us ws : List Value) (h1 : us.length + ws.length = 1) (h2 : ws.length = 1) : bindArgs (PySem.W.fnOf "rounds" "rounds" (defArgs st_rounds) (defBody st_rounds) (defScope st_rounds) .none kV doc pm an cdv ct) ⟨us, (["row"] : List Str).zip ws⟩ = pure ((["row"] : List Str).zip (us ++ prm [0] ws)) := by
  obtain ⟨w0, rfl⟩ : ∃ w0, ws = [w0] := by
    match ws, h2 with | [w0], _ => exact ⟨w0, rfl⟩
  obtain rfl : us = [] := by
    match us, h1 with | [], _ => rfl
  rfl
theorem bk_sign_row {kV doc pm : Value} {an : Option Addr} {cdv ct : Value} (us ws : List Value) (h1 : us.length + ws.length = 1) (h2 : ws.length = 1) : bindArgs (PySem.W.fnOf "sign" "sign" (defArgs st_sign) (defBody st_sign) (defScope st_sign) .none kV doc pm an cdv ct) ⟨us, (["row"] : List Str).zip ws⟩ = pure ((["row"] : List Str).zip (us ++ prm [0] ws)) := by
  obtain ⟨w0, rfl⟩ : ∃ w0, ws = [w0] := by
    match ws, h2 with | [w0], _ => exact ⟨w0, rfl⟩
  obtain rfl : us = [] := by
    match us, h1 with | [], _ => rfl
  rfl
end K05

end
section
set_option Elab.async false
set_option linter.all false
set_option maxRecDepth 100000
set_option autoImplicit false
set_option maxHeartbeats 0
open PySem PySem.Spec PyProof.Rows L2 TL
namespace K05
section
variable {P : Program} {w : World} {K : PySem.W.Frag} {mg : Str → Option Value} {base : Heap} {nb : Addr}
theorem gives_law_heard (T : Tab K mg) {X : Cx} (hK : X.K = K) (hm : X.mg = mg) {q : Str} {gd : Addr} {cdg : Value} : GivesS X N_law_heard "_law_heard" (defScope st_law_heard) gd cdg (defBody st_law_heard) "_law_ask" q (TTh ⟨K, nb, T.ca, T.tb⟩ (hFn N_law_heard.length b_law_heard)) := by
  subst hK; subst hm
  exact heard_gives rfl fun ask f c' s H F tl act hc hn ht =>
    ds_cons (ds_set (i := 1) sc_law_heard.nd rfl (.inl rfl) (de_con pe_non (fun _ => .non)) (.inr rfl)) (ds_cons (ds_try (i := 2) rfl rfl rfl sc_law_heard.nd rfl rfl ⟨rfl, by decide, .inl T.G_SizeError⟩ T.ct_SizeError LamX.takes0 (fun W pn xe tk hp => by exact ds_one (ds_expr (by exact de_ask (act W pn xe _ _ tk) hc hn rfl rfl ht))) (fun a pn => by exact ds_one (ds_set (i := 1) sc_law_heard.nd rfl (.inl rfl) (de_if (dt_val (de_isE (cv := .ref T.X_BadWiring) rfl (by rfl) T.z_isinstance (do_var (pv 2)) (pe_glob (v := .ref T.X_BadWiring) (by rfl) (by exact T.G_BadWiring) rfl) (.own _) T.is_BadWiring)) (de_attr rfl (do_var (pv 2)) T.at_part) (de_con pe_str (fun _ => .str _))) (.inr rfl)))) (ds_one (ds_ret (de_varR (pv 1)))))
end
end K05

end
section
set_option Elab.async false
set_option linter.all false
set_option maxRecDepth 100000
set_option autoImplicit false
set_option maxHeartbeats 0
open PySem PySem.Spec PyProof.Rows L2 TL
namespace K05
section
variable {P : Program} {w : World} {K : PySem.W.Frag} {mg : Str → Option Value} {base : Heap} {nb : Addr}
theorem ok_law_sip (T : Tab K mg) : FnOk P w K mg base (L2.CX P w) 1 T.a_law_sip T.d_law_sip ["_law_mug_here", "_law_many"] (spT ⟨K, nb, T.ca, T.tb⟩ 2 f_law_sip) :=
  fn_ok (g := ⟨K, nb, T.ca, T.tb⟩) (k := 0) (b := b_law_sip) (N := N_law_sip) (ps := ["_law_mug_here", "_law_many"]) T.F_law_sip sc_law_sip fun cdv A outer s H F0 E hr =>
    ds_cons (ds_if (dt_cmp (op_gtA (hu0 hr)) (p_ord rfl _ _) (do_of (de_nib (k := 2) (pv 0))) (do_of (de_con pe_int (fun _ => .int _))) (nomark _)) (ds_cons (ds_set (i := 2) sc_law_sip.nd rfl (.inl rfl) (de_nib (k := 2) (pv 0)) (.inr rfl)) (ds_cons (ds_nib (k := 2) (pv 0) (do_of (de_bin op_fdivW p_fdiv (do_of (de_callTy call_int1 p_int (by rfl) T.z_int bt_int (da_cons (do_var (pv 2)) (da_nil)))) (do_var (pv 1))))) (ds_one (ds_ret (de_bin op_mod p_mod (do_of (de_callTy call_int1 p_int (by rfl) T.z_int bt_int (da_cons (do_var (pv 2)) (da_nil)))) (do_var (pv 1))))))) (ds_nil)) (ds_cons (ds_set (i := 3) sc_law_sip.nd rfl (.inl rfl) (de_nib (k := 1) (pv 0)) (.inr rfl)) (ds_cons (ds_nib (k := 1) (pv 0) (do_of (de_bin op_addA (p_add rfl) (do_var (pv 3)) (do_of (de_con pe_int (fun _ => .int _)))))) (ds_cons (ds_set (i := 4) sc_law_sip.nd rfl (.inl rfl) (de_bin op_addA (p_add rfl) (do_of (de_bin op_mulA p_mul (do_of (de_con pe_int (fun _ => .int _))) (do_var (pv 3)))) (do_of (de_con pe_int (fun _ => .int _)))) (.inr rfl)) (ds_cons (ds_if (dt_cmp (op_neD hr.units) (p_ne rfl) (do_of (de_nib (k := 0) (pv 0))) (do_of (de_lst (da_nil))) (nomark _)) (ds_one (ds_set (i := 4) sc_law_sip.nd rfl (.inl rfl) (de_ix ix_seq (p_ix rfl) (do_of (de_nib (k := 0) (pv 0))) (do_of (de_bin op_mod p_mod (do_of (de_callTy call_int1 p_int (by rfl) T.z_int bt_int (da_cons (do_var (pv 3)) (da_nil)))) (do_of (de_callB call_len (p_len rfl) (by rfl) T.z_len bt_len (da_cons (do_of (de_nib (k := 0) (pv 0))) (da_nil)))))) (fun _ _ => rfl)) (.inr rfl))) (ds_nil)) (ds_cons (ds_if ((dw_and (dt_cmp (op_ltA (hu0 hr)) (p_ord rfl _ _) (do_var (pv 3)) (do_of (de_callB call_len (p_len rfl) (by rfl) T.z_len bt_len (da_cons (do_of (de_nib (k := 0) (pv 0))) (da_nil)))) (nomark _)) (dw_and1 (dt_cmp op_ge (p_cmp _) (do_of (de_callB call_abs p_abs (by rfl) T.z_abs bt_abs (da_cons (do_var (pv 4)) (da_nil)))) (do_of (de_bin op_pow p_pow (do_of (de_con pe_int (fun _ => .int _))) (do_of (de_con pe_int (fun _ => .int _))))) (nomark _)))).pt) (ds_cons (ds_set (i := 2) sc_law_sip.nd rfl (.inl rfl) (de_bin op_addA (p_add rfl) (do_of (de_bin op_mulA p_mul (do_of (de_con pe_int (fun _ => .int _))) (do_of (de_bin op_sub p_sub (do_of (de_callB call_abs p_abs (by rfl) T.z_abs bt_abs (da_cons (do_var (pv 4)) (da_nil)))) (do_of (de_bin op_pow p_pow (do_of (de_con pe_int (fun _ => .int _))) (do_of (de_con pe_int (fun _ => .int _))))))))) (do_of (de_callTy call_int1 p_int (by rfl) T.z_int bt_int (da_cons (do_of (de_cmp (op_ltA (hu0 hr)) (p_ord rfl _ _) (do_var (pv 4)) (do_of (de_con pe_int (fun _ => .int _))) (nomark _))) (da_nil))))) (.inr rfl)) (ds_cons (ds_nib (k := 2) (pv 0) (do_of (de_bin op_fdivW p_fdiv (do_of (de_callTy call_int1 p_int (by rfl) T.z_int bt_int (da_cons (do_var (pv 2)) (da_nil)))) (do_var (pv 1))))) (ds_one (ds_ret (de_bin op_mod p_mod (do_of (de_callTy call_int1 p_int (by rfl) T.z_int bt_int (da_cons (do_var (pv 2)) (da_nil)))) (do_var (pv 1))))))) (ds_nil)) (ds_cons (ds_set (i := 5) sc_law_sip.nd rfl (.inl rfl) (de_bin op_mod p_mod (do_of (de_callTy call_int1 p_int (by rfl) T.z_int bt_int (da_cons (do_of (de_bin op_pow p_pow (do_of (de_bin op_addA (p_add rfl) (do_of (de_bin op_addA (p_add rfl) (do_of (de_bin op_mod p_mod (do_of (de_callTy call_int1 p_int (by rfl) T.z_int bt_int (da_cons (do_var (pv 4)) (da_nil)))) (do_of (de_con pe_int (fun _ => .int _))))) (do_of (de_bin op_mulA p_mul (do_of (de_con pe_int (fun _ => .int _))) (do_var (pv 3)))))) (do_of (de_con pe_int (fun _ => .int _))))) (do_of (de_con pe_int (fun _ => .int _))))) (da_nil)))) (do_of (de_con pe_int (fun _ => .int _)))) (.inr rfl)) (ds_cons (ds_set (i := 5) sc_law_sip.nd rfl (.inl rfl) (de_bin op_mod p_mod (do_of (de_callTy call_int1 p_int (by rfl) T.z_int bt_int (da_cons (do_of (de_bin op_pow p_pow (do_of (de_bin op_addA (p_add rfl) (do_of (de_bin op_addA (p_add rfl) (do_of (de_bin op_mulA p_mul (do_var (pv 5)) (do_of (de_bin op_addA (p_add rfl) (do_of (de_bin op_mulA p_mul (do_of (de_con pe_int (fun _ => .int _))) (do_var (pv 3)))) (do_of (de_con pe_int (fun _ => .int _))))))) (do_of (de_bin op_mulA p_mul (do_of (de_bin op_mulA p_mul (do_of (de_con pe_int (fun _ => .int _))) (do_var (pv 3)))) (do_var (pv 3)))))) (do_of (de_con pe_int (fun _ => .int _))))) (do_of (de_con pe_int (fun _ => .int _))))) (da_nil)))) (do_of (de_con pe_int (fun _ => .int _)))) (.inr rfl)) (ds_one (ds_ret (de_bin op_mod p_mod (do_of (de_callTy call_int1 p_int (by rfl) T.z_int bt_int (da_cons (do_of (de_bin op_fdivW p_fdiv (do_var (pv 5)) (do_of (de_con pe_int (fun _ => .int _))))) (da_nil)))) (do_var (pv 1))))))))))))
end
end K05

end
section
set_option Elab.async false
set_option linter.all false
set_option maxRecDepth 100000
set_option autoImplicit false
set_option maxHeartbeats 0
open PySem PySem.Spec PyProof.Rows L2 TL
namespace K05
section
variable {P : Program} {w : World} {K : PySem.W.Frag} {mg : Str → Option Value} {base : Heap} {nb : Addr}
theorem ok_law_one_of (T : Tab K mg) : FnOk P w K mg base (L2.CX P w) 2 T.a_law_one_of T.d_law_one_of ["_law_mug_here", "_law_some"] (spT ⟨K, nb, T.ca, T.tb⟩ 2 f_law_one_of) :=
  fn_ok (g := ⟨K, nb, T.ca, T.tb⟩) (k := 1) (b := b_law_one_of) (N := N_law_one_of) (ps := ["_law_mug_here", "_law_some"]) T.F_law_one_of sc_law_one_of fun cdv A outer s H F0 E hr =>
    ds_one (ds_ret (de_ix ix_seq (p_ix rfl) (do_var (pv 1)) (do_of (by exact de_call (ps := ["_law_mug_here", "_law_many"]) (fn := f_law_sip) (ok_law_sip T) (hr.mono (by decide)) (by rfl) T.m_law_sip T.F_law_sip.kp T.b_law_sip (passS (pass_own rfl rfl rfl rfl)) (da_cons (do_of (de_var (pv 0))) (da_cons (do_of (de_callB call_len (p_len rfl) (by rfl) T.z_len bt_len (da_cons (do_var (pv 1)) (da_nil)))) (da_nil))))) (fun _ _ => rfl)))
end
end K05

end
section
set_option Elab.async false
set_option linter.all false
set_option maxRecDepth 100000
set_option autoImplicit false
set_option maxHeartbeats 0
open PySem PySem.Spec PyProof.Rows L2 TL
namespace K05
section
variable {P : Program} {w : World} {K : PySem.W.Frag} {mg : Str → Option Value} {base : Heap} {nb : Addr}
theorem ok_law_row (T : Tab K mg) : FnOk P w K mg base (L2.CX P w) 3 T.a_law_row T.d_law_row ["_law_mug_here", "_law_wires"] (spT ⟨K, nb, T.ca, T.tb⟩ 2 f_law_row) :=
  fn_ok (g := ⟨K, nb, T.ca, T.tb⟩) (k := 2) (b := b_law_row) (N := N_law_row) (ps := ["_law_mug_here", "_law_wires"]) T.F_law_row sc_law_row fun cdv A outer s H F0 E hr =>
    ds_cons (ds_set (i := 2) sc_law_row.nd rfl (.inl rfl) (by exact de_call (ps := ["_law_mug_here", "_law_some"]) (fn := f_law_one_of) (ok_law_one_of T) (hr.mono (by decide)) (by rfl) T.m_law_one_of T.F_law_one_of.kp T.b_law_one_of (passS (pass_own rfl rfl rfl rfl)) (da_cons (do_of (de_var (pv 0))) (da_cons (do_of (de_lst (da_cons (do_of (de_con pe_int (fun _ => .int _))) (da_cons (do_of (de_con pe_int (fun _ => .int _))) (da_cons (do_of (de_con pe_int (fun _ => .int _))) (da_cons (do_of (de_con pe_int (fun _ => .int _))) (da_nil))))))) (da_nil)))) (.inr rfl)) (ds_cons (ds_par rfl sc_law_row.nd rfl rfl (by decide) rfl rfl (de_lrg1 rfl (by rfl) T.z_list (by rfl) T.z_range (do_var (pv 1))) (de_lst (da_nil)) (by rfl)) (ds_cons (ds_for (passes_of rfl) rfl (di_rng1 (by rfl) T.z_range (do_of (de_var (pv 1)))) (dg_nm (pg_name (i := 5) sc_law_row.nd rfl (by first | exact .inl rfl | exact .inr rfl))) (ds_one (ds_expr (by refine de_meth PySem.F.slot_list_append PySem.F.type_list_append mt_append p_append (pv 4) ?_; exact (da_cons (do_of (by refine de_meth PySem.F.slot_list_pop PySem.F.type_list_pop mt_popAt p_popAt (pv 3) ?_; exact (da_cons (do_of (de_if (dt_cmp (op_ltA (hu0 hr)) (p_ord rfl _ _) (do_var (pv 5)) (do_var (pv 2)) (nomark _)) (de_con pe_int (fun _ => .int _)) (by exact de_call (ps := ["_law_mug_here", "_law_many"]) (fn := f_law_sip) (ok_law_sip T) (hr.mono (by decide)) (by rfl) T.m_law_sip T.F_law_sip.kp T.b_law_sip (passS (pass_own rfl rfl rfl rfl)) (da_cons (do_of (de_var (pv 0))) (da_cons (do_of (de_callB call_len (p_len rfl) (by rfl) T.z_len bt_len (da_cons (do_var (pv 3)) (da_nil)))) (da_nil)))))) (da_nil)))) (da_nil)))))) (ds_one (ds_ret (de_varR (pv 4))))))
end
end K05

end
section
set_option Elab.async false
set_option linter.all false
set_option maxRecDepth 100000
set_option autoImplicit false
set_option maxHeartbeats 0
open PySem PySem.Spec PyProof.Rows L2 TL
namespace K05
section
variable {P : Program} {w : World} {K : PySem.W.Frag} {mg : Str → Option Value} {base : Heap} {nb : Addr}
theorem ok_rounds_of (T : Tab K mg) : FnOk P w K mg base (L2.CX P w) 1 T.a_rounds_of T.d_rounds_of ["row"] (spT ⟨K, nb, T.ca, T.tb⟩ 1 f_rounds_of) :=
  fn_ok (g := ⟨K, nb, T.ca, T.tb⟩) (k := 0) (b := b_rounds_of) (N := N_rounds_of) (ps := ["row"]) T.F_rounds_of sc_rounds_of fun cdv A outer s H F0 E hr =>
    ds_cons (ds_par rfl sc_rounds_of.nd rfl rfl (by decide) rfl rfl (de_lst (da_nil)) (de_dnew) (by rfl)) (ds_cons (ds_for (passes_of rfl) rfl (di_rng1 (by rfl) T.z_range (do_of (de_callB call_len (p_len rfl) (by rfl) T.z_len bt_len (da_cons (do_var (pv 0)) (da_nil))))) (dg_nm (pg_name (i := 3) sc_rounds_of.nd rfl (by first | exact .inl rfl | exact .inr rfl))) (ds_one (ds_if (by exact dt_dninT (hu10 hr) (do_var (pv 3)) (do_var (pv 2))) (ds_cons (ds_par rfl sc_rounds_of.nd rfl rfl (by decide) rfl rfl (de_lst (da_nil)) (de_var (pv 3)) (by rfl)) (ds_cons (ds_while 1000000 (passes_of rfl) (by exact dt_dninT (hu10 hr) (do_var (pv 5)) (do_var (pv 2))) (ds_cons (ds_setD (hu10 hr) (pv 2) (do_of (de_con pe_bl (fun _ => .bl _))) (do_of (de_var (pv 5)))) (ds_cons (ds_expr (by refine de_meth PySem.F.slot_list_append PySem.F.type_list_append mt_append p_append (pv 4) ?_; exact (da_cons (do_of (de_var (pv 5))) (da_nil)))) (ds_one (ds_set (i := 5) sc_rounds_of.nd rfl (.inl rfl) (de_ix ix_seq (p_ix rfl) (do_var (pv 0)) (do_var (pv 5)) (fun _ _ => rfl)) (.inr rfl)))))) (ds_one (ds_expr (by refine de_meth PySem.F.slot_list_append PySem.F.type_list_append mt_append p_append (pv 1) ?_; exact (da_cons (do_of (de_callTy call_tuple_ofF (p_tuple rfl) (by rfl) T.z_tuple bt_tuple (da_cons (do_var (pv 4)) (da_nil)))) (da_nil))))))) (ds_nil)))) (ds_one (ds_ret (de_callTy call_tuple_ofF (p_tuple rfl) (by rfl) T.z_tuple bt_tuple (da_cons (do_var (pv 1)) (da_nil))))))
end
end K05

end
section
set_option Elab.async false
set_option linter.all false
set_option maxRecDepth 100000
set_option autoImplicit false
set_option maxHeartbeats 0
open PySem PySem.Spec PyProof.Rows L2 TL
namespace K05
section
variable {P : Program} {w : World} {K : PySem.W.Frag} {mg : Str → Option Value} {base : Heap} {nb : Addr}
theorem ok_is_integer (T : Tab K mg) : FnOk P w K mg base (L2.CX P w) 1 T.a_is_integer T.d_is_integer ["value"] (spT ⟨K, nb, T.ca, T.tb⟩ 1 f_is_integer) :=
  fn_ok (g := ⟨K, nb, T.ca, T.tb⟩) (k := 0) (b := b_is_integer) (N := N_is_integer) (ps := ["value"]) T.F_is_integer sc_is_integer fun cdv A outer s H F0 E hr =>
    ds_one (ds_ret (de_and (de_isi rfl (by rfl) T.z_isinstance (do_var (pv 0)) (by rfl) T.z_int bt_int) (de_one (de_not (de_isi rfl (by rfl) T.z_isinstance (do_var (pv 0)) (by rfl) T.z_bool bt_bool)))))
end
end K05

end
section
set_option Elab.async false
set_option linter.all false
set_option maxRecDepth 100000
set_option autoImplicit false
set_option maxHeartbeats 0
open PySem PySem.Spec PyProof.Rows L2 TL
namespace K05
section
variable {P : Program} {w : World} {K : PySem.W.Frag} {mg : Str → Option Value} {base : Heap} {nb : Addr}
theorem ok_is_numbers (T : Tab K mg) : FnOk P w K mg base (L2.CX P w) 2 T.a_is_numbers T.d_is_numbers ["value"] (spT ⟨K, nb, T.ca, T.tb⟩ 1 f_is_numbers) :=
  fn_ok (g := ⟨K, nb, T.ca, T.tb⟩) (k := 1) (b := b_is_numbers) (N := N_is_numbers) (ps := ["value"]) T.F_is_numbers sc_is_numbers fun cdv A outer s H F0 E hr =>
    ds_one (ds_ret (de_and (de_isi2 rfl (by rfl) T.z_isinstance (do_var (pv 0)) (by rfl) T.z_list bt_list (by rfl) T.z_tuple bt_tuple) (de_one (de_callB (cr_all rfl) p_all (by rfl) T.z_all bt_all (da_cons (do_of (by exact de_comp (own := [("part", 1)]) rfl sc_is_numbers.nd (di_seq rfl (do_of (de_var (pv 0)))) (blkOk_by (own := [("part", 1)]) (N := N_is_numbers) (sc := defScope st_is_numbers) (by decide +kernel)) (fun _ _ _ _ _ => dg_nm (pg_name (i := 1) sc_is_numbers.nd rfl (by first | exact .inl rfl | exact .inr rfl))) (fun _ _ _ _ _ => dts_nil) (fun _ _ _ _ _ => by exact de_call (ps := ["value"]) (fn := f_is_integer) (ok_is_integer T) (hr.mono (by decide)) (by rfl) T.m_is_integer T.F_is_integer.kp T.b_is_integer (passS passL) (da_cons (do_of (de_var (pv 1))) (da_nil))))) (da_nil))))))
end
end K05

end
section
set_option Elab.async false
set_option linter.all false
set_option maxRecDepth 100000
set_option autoImplicit false
set_option maxHeartbeats 0
open PySem PySem.Spec PyProof.Rows L2 TL
namespace K05
section
variable {P : Program} {w : World} {K : PySem.W.Frag} {mg : Str → Option Value} {base : Heap} {nb : Addr}
theorem ok_is_wiring (T : Tab K mg) : FnOk P w K mg base (L2.CX P w) 3 T.a_is_wiring T.d_is_wiring ["value"] (spT ⟨K, nb, T.ca, T.tb⟩ 1 f_is_wiring) :=
  fn_ok (g := ⟨K, nb, T.ca, T.tb⟩) (k := 2) (b := b_is_wiring) (N := N_is_wiring) (ps := ["value"]) T.F_is_wiring sc_is_wiring fun cdv A outer s H F0 E hr =>
    ds_cons (ds_if ((dw_or (dt_not (dt_val (by exact de_call (ps := ["value"]) (fn := f_is_numbers) (ok_is_numbers T) (hr.mono (by decide)) (by rfl) T.m_is_numbers T.F_is_numbers.kp T.b_is_numbers (passS (pass_own rfl rfl rfl rfl)) (da_cons (do_of (de_var (pv 0))) (da_nil))))) (dw_or1 (dt_not (dt_chn op_le op_le (p_cmp _) (p_cmp _) (do_of (de_con pe_int (fun _ => .int _))) (do_of (de_callB call_len (p_len rfl) (by rfl) T.z_len bt_len (da_cons (do_var (pv 0)) (da_nil)))) (do_of (de_con (pe_glob (v := .int 6) (by rfl) T.c_MOST_WIRES ⟨T.tk_MOST_WIRES, rfl⟩) (fun _ => .int _))))))).pt) (ds_one (ds_ret (de_con pe_bl (fun _ => .bl _)))) (ds_nil)) (ds_one (ds_ret (de_cmp (op_eqD hr.units) (p_eq rfl) (do_of (de_callB cr_sortB (p_sortB rfl) (by rfl) T.z_sorted bt_sorted (da_cons (do_var (pv 0)) (da_nil)))) (do_of (de_lrg1 rfl (by rfl) T.z_list (by rfl) T.z_range (do_of (de_callB call_len (p_len rfl) (by rfl) T.z_len bt_len (da_cons (do_var (pv 0)) (da_nil)))))) (nomark _))))
end
end K05

end
section
set_option Elab.async false
set_option linter.all false
set_option maxRecDepth 100000
set_option autoImplicit false
set_option maxHeartbeats 0
open PySem PySem.Spec PyProof.Rows L2 TL
namespace K05
section
variable {P : Program} {w : World} {K : PySem.W.Frag} {mg : Str → Option Value} {base : Heap} {nb : Addr}
theorem ok_need_wiring (T : Tab K mg) : FnOk P w K mg base (L2.CX P w) 4 T.a_need_wiring T.d_need_wiring ["value", "part"] (spT ⟨K, nb, T.ca, T.tb⟩ 2 f_need_wiring) :=
  fn_ok (g := ⟨K, nb, T.ca, T.tb⟩) (k := 3) (b := b_need_wiring) (N := N_need_wiring) (ps := ["value", "part"]) T.F_need_wiring sc_need_wiring fun cdv A outer s H F0 E hr =>
    ds_cons (ds_if (dt_not (dt_val (by exact de_call (ps := ["value"]) (fn := f_is_wiring) (ok_is_wiring T) (hr.mono (by decide)) (by rfl) T.m_is_wiring T.F_is_wiring.kp T.b_is_wiring (passS (pass_own rfl rfl rfl rfl)) (da_cons (do_of (de_var (pv 0))) (da_nil))))) (ds_one (by exact ds_raise (fl := ["part"]) (ps := ["self", "part"]) rfl (takes_of rfl rfl rfl rfl) T.E_BadWiring rfl (ok_init_BadWiring T) (hr.mono (by decide)) T.B_BadWiring passL (by rfl) (da_cons (do_of (de_var (pv 1))) (da_nil)))) (ds_nil)) (ds_one (ds_ret (de_callTy call_tuple_ofF (p_tuple rfl) (by rfl) T.z_tuple bt_tuple (da_cons (do_var (pv 0)) (da_nil)))))
end
end K05

end
section
set_option Elab.async false
set_option linter.all false
set_option maxRecDepth 100000
set_option autoImplicit false
set_option maxHeartbeats 0
open PySem PySem.Spec PyProof.Rows L2 TL
namespace K05
section
variable {P : Program} {w : World} {K : PySem.W.Frag} {mg : Str → Option Value} {base : Heap} {nb : Addr}
theorem ok_rounds (T : Tab K mg) : FnOk P w K mg base (L2.CX P w) 5 T.a_rounds T.d_rounds ["row"] (spT ⟨K, nb, T.ca, T.tb⟩ 1 f_rounds) :=
  fn_ok (g := ⟨K, nb, T.ca, T.tb⟩) (k := 4) (b := b_rounds) (N := N_rounds) (ps := ["row"]) T.F_rounds sc_rounds fun cdv A outer s H F0 E hr =>
    ds_one (ds_ret (by exact de_call (ps := ["row"]) (fn := f_rounds_of) (ok_rounds_of T) (hr.mono (by decide)) (by rfl) T.m_rounds_of T.F_rounds_of.kp T.b_rounds_of (passS (pass_own rfl rfl rfl rfl)) (da_cons (do_of (by exact de_call (ps := ["value", "part"]) (fn := f_need_wiring) (ok_need_wiring T) (hr.mono (by decide)) (by rfl) T.m_need_wiring T.F_need_wiring.kp T.b_need_wiring (passS (pass_own rfl rfl rfl rfl)) (da_cons (do_of (de_var (pv 0))) (da_cons (do_of (de_con pe_str (fun _ => .str _))) (da_nil))))) (da_nil))))
end
end K05

end
section
set_option Elab.async false
set_option linter.all false
set_option maxRecDepth 100000
set_option autoImplicit false
set_option maxHeartbeats 0
open PySem PySem.Spec PyProof.Rows L2 TL
namespace K05
section
variable {P : Program} {w : World} {K : PySem.W.Frag} {mg : Str → Option Value} {base : Heap} {nb : Addr}
theorem ok_sign_of (T : Tab K mg) : FnOk P w K mg base (L2.CX P w) 2 T.a_sign_of T.d_sign_of ["row"] (spT ⟨K, nb, T.ca, T.tb⟩ 1 f_sign_of) :=
  fn_ok (g := ⟨K, nb, T.ca, T.tb⟩) (k := 1) (b := b_sign_of) (N := N_sign_of) (ps := ["row"]) T.F_sign_of sc_sign_of fun cdv A outer s H F0 E hr =>
    ds_one (ds_ret (de_if (dt_cmp (op_eqD hr.units) (p_eq rfl) (do_of (de_bin op_mod p_mod (do_of (de_bin op_sub p_sub (do_of (de_callB call_len (p_len rfl) (by rfl) T.z_len bt_len (da_cons (do_var (pv 0)) (da_nil)))) (do_of (de_callB call_len (p_len rfl) (by rfl) T.z_len bt_len (da_cons (do_of (by exact de_call (ps := ["row"]) (fn := f_rounds_of) (ok_rounds_of T) (hr.mono (by decide)) (by rfl) T.m_rounds_of T.F_rounds_of.kp T.b_rounds_of (passS (pass_own rfl rfl rfl rfl)) (da_cons (do_of (de_var (pv 0))) (da_nil)))) (da_nil)))))) (do_of (de_con pe_int (fun _ => .int _))))) (do_of (de_con pe_int (fun _ => .int _))) (nomark _)) (de_con pe_int (fun _ => .int _)) (de_un un_neg p_neg (do_of (de_con pe_int (fun _ => .int _))))))
end
end K05

end
section
set_option Elab.async false
set_option linter.all false
set_option maxRecDepth 100000
set_option autoImplicit false
set_option maxHeartbeats 0
open PySem PySem.Spec PyProof.Rows L2 TL
namespace K05
section
variable {P : Program} {w : World} {K : PySem.W.Frag} {mg : Str → Option Value} {base : Heap} {nb : Addr}
theorem ok_sign (T : Tab K mg) : FnOk P w K mg base (L2.CX P w) 5 T.a_sign T.d_sign ["row"] (spT ⟨K, nb, T.ca, T.tb⟩ 1 f_sign) :=
  fn_ok (g := ⟨K, nb, T.ca, T.tb⟩) (k := 4) (b := b_sign) (N := N_sign) (ps := ["row"]) T.F_sign sc_sign fun cdv A outer s H F0 E hr =>
    ds_one (ds_ret (by exact de_call (ps := ["row"]) (fn := f_sign_of) (ok_sign_of T) (hr.mono (by decide)) (by rfl) T.m_sign_of T.F_sign_of.kp T.b_sign_of (passS (pass_own rfl rfl rfl rfl)) (da_cons (do_of (by exact de_call (ps := ["value", "part"]) (fn := f_need_wiring) (ok_need_wiring T) (hr.mono (by decide)) (by rfl) T.m_need_wiring T.F_need_wiring.kp T.b_need_wiring (passS (pass_own rfl rfl rfl rfl)) (da_cons (do_of (de_var (pv 0))) (da_cons (do_of (de_con pe_str (fun _ => .str _))) (da_nil))))) (da_nil))))
end
end K05

end
section
set_option Elab.async false
set_option linter.all false
set_option maxRecDepth 100000
set_option autoImplicit false
set_option maxHeartbeats 0
open PySem PySem.Spec PyProof.Rows L2 TL
namespace K05
section
variable {P : Program} {w : World} {K : PySem.W.Frag} {mg : Str → Option Value} {base : Heap} {nb : Addr}
theorem ok_law_rounds (T : Tab K mg) : FnOk P w K mg base (L2.CX P w) 1 T.a_law_rounds T.d_law_rounds ["_law_row_here"] (spT ⟨K, nb, T.ca, T.tb⟩ 1 f_law_rounds) :=
  fn_ok (g := ⟨K, nb, T.ca, T.tb⟩) (k := 0) (b := b_law_rounds) (N := N_law_rounds) (ps := ["_law_row_here"]) T.F_law_rounds sc_law_rounds fun cdv A outer s H F0 E hr =>
    ds_cons (ds_set (i := 1) sc_law_rounds.nd rfl (.inl rfl) (de_lst (da_nil)) (.inr rfl)) (ds_cons (ds_for (passes_of rfl) rfl (di_rng1 (by rfl) T.z_range (do_of (de_callB call_len (p_len rfl) (by rfl) T.z_len bt_len (da_cons (do_var (pv 0)) (da_nil))))) (dg_nm (pg_name (i := 2) sc_law_rounds.nd rfl (by first | exact .inl rfl | exact .inr rfl))) (ds_cons (ds_set (i := 3) sc_law_rounds.nd rfl (.inl rfl) (de_lst (da_cons (do_of (de_var (pv 2))) (da_nil))) (.inr rfl)) (ds_cons (ds_while 1000000 (passes_of rfl) (dt_cmp (op_neD hr.units) (p_ne rfl) (do_of (de_ix ix_seq (p_ix rfl) (do_var (pv 0)) (do_of (de_ix ix_seq (p_ix rfl) (do_var (pv 3)) (do_of (de_un un_neg p_neg (do_of (de_con pe_int (fun _ => .int _))))) (fun _ _ => rfl))) (fun _ _ => rfl))) (do_var (pv 2)) (nomark _)) (ds_one (ds_expr (by refine de_meth PySem.F.slot_list_append PySem.F.type_list_append mt_append p_append (pv 3) ?_; exact (da_cons (do_of (de_ix ix_seq (p_ix rfl) (do_var (pv 0)) (do_of (de_ix ix_seq (p_ix rfl) (do_var (pv 3)) (do_of (de_un un_neg p_neg (do_of (de_con pe_int (fun _ => .int _))))) (fun _ _ => rfl))) (fun _ _ => rfl))) (da_nil)))))) (ds_one (ds_if (dt_cmp (op_eqD hr.units) (p_eq rfl) (do_of (de_callB (cr_min rfl) p_min (by rfl) T.z_min bt_min (da_cons (do_var (pv 3)) (da_nil)))) (do_var (pv 2)) (nomark _)) (ds_one (ds_expr (by refine de_meth PySem.F.slot_list_append PySem.F.type_list_append mt_append p_append (pv 1) ?_; exact (da_cons (do_of (de_callTy call_tuple_ofF (p_tuple rfl) (by rfl) T.z_tuple bt_tuple (da_cons (do_var (pv 3)) (da_nil)))) (da_nil))))) (ds_nil)))))) (ds_one (ds_ret (de_callTy call_tuple_ofF (p_tuple rfl) (by rfl) T.z_tuple bt_tuple (da_cons (do_var (pv 1)) (da_nil))))))
end
end K05

end
section
set_option Elab.async false
set_option linter.all false
set_option maxRecDepth 100000
set_option autoImplicit false
set_option maxHeartbeats 0
open PySem PySem.Spec PyProof.Rows L2 TL
namespace K05
section
variable {P : Program} {w : World} {K : PySem.W.Frag} {mg : Str → Option Value} {base : Heap} {nb : Addr}
theorem ok_law_sign (T : Tab K mg) : FnOk P w K mg base (L2.CX P w) 1 T.a_law_sign T.d_law_sign ["_law_row_here"] (spT ⟨K, nb, T.ca, T.tb⟩ 1 f_law_sign) :=
  fn_ok (g := ⟨K, nb, T.ca, T.tb⟩) (k := 0) (b := b_law_sign) (N := N_law_sign) (ps := ["_law_row_here"]) T.F_law_sign sc_law_sign fun cdv A outer s H F0 E hr =>
    ds_cons (ds_set (i := 1) sc_law_sign.nd rfl (.inl rfl) (de_callB (cr_sum rfl) p_sum (by rfl) T.z_sum bt_sum (da_cons (do_of (by exact de_comp (own := [("_law_top", 2)]) rfl sc_law_sign.nd (di_rng1 (by rfl) T.z_range (do_of (de_callB call_len (p_len rfl) (by rfl) T.z_len bt_len (da_cons (do_var (pv 0)) (da_nil))))) (blkOk_by (own := [("_law_top", 2)]) (N := N_law_sign) (sc := defScope st_law_sign) (by decide +kernel)) (fun _ _ _ _ _ => dg_nm (pg_name (i := 2) sc_law_sign.nd rfl (by first | exact .inl rfl | exact .inr rfl))) (fun _ _ _ _ _ => dts_nil) (fun _ _ _ _ _ => de_callB call_len (p_len rfl) (by rfl) T.z_len bt_len (da_cons (do_of (by exact de_comp (own := [("_law_ahead", 3)]) rfl sc_law_sign.nd (di_rng1 (by rfl) T.z_range (do_of (de_var (pv 2)))) (blkOk_in (own := [("_law_ahead", 3)]) (N := N_law_sign) (by decide +kernel)) (fun _ _ _ _ _ => dg_nm (pg_name (i := 3) sc_law_sign.nd rfl (by first | exact .inl rfl | exact .inr rfl))) (fun _ _ _ _ _ => dts_one (dt_cmp (op_gtA (hu0 hr)) (p_ord rfl _ _) (do_of (de_ix ix_seq (p_ix rfl) (do_var (pv 0)) (do_var (pv 3)) (fun _ _ => rfl))) (do_of (de_ix ix_seq (p_ix rfl) (do_var (pv 0)) (do_var (pv 2)) (fun _ _ => rfl))) (nomark _))) (fun _ _ _ _ _ => de_var (pv 3)))) (da_nil))))) (da_nil))) (.inr rfl)) (ds_one (ds_ret (de_if (dt_cmp (op_eqD hr.units) (p_eq rfl) (do_of (de_bin op_mod p_mod (do_of (de_callTy call_int1 p_int (by rfl) T.z_int bt_int (da_cons (do_var (pv 1)) (da_nil)))) (do_of (de_con pe_int (fun _ => .int _))))) (do_of (de_con pe_int (fun _ => .int _))) (nomark _)) (de_con pe_int (fun _ => .int _)) (de_un un_neg p_neg (do_of (de_con pe_int (fun _ => .int _)))))))
end
end K05

end
section
set_option Elab.async false
set_option linter.all false
set_option maxRecDepth 100000
set_option autoImplicit false
set_option maxHeartbeats 0
open PySem PySem.Spec PyProof.Rows L2 TL
namespace K05
section
variable {P : Program} {w : World} {K : PySem.W.Frag} {mg : Str → Option Value} {base : Heap} {nb : Addr}
theorem ok_back_of (T : Tab K mg) : FnOk P w K mg base (L2.CX P w) 1 T.a_back_of T.d_back_of ["row"] (spT ⟨K, nb, T.ca, T.tb⟩ 1 f_back_of) :=
  fn_ok (g := ⟨K, nb, T.ca, T.tb⟩) (k := 0) (b := b_back_of) (N := N_back_of) (ps := ["row"]) T.F_back_of sc_back_of fun cdv A outer s H F0 E hr =>
    ds_cons (ds_set (i := 1) sc_back_of.nd rfl (.inl rfl) (de_callTy call_list_of (p_list rfl) (by rfl) T.z_list bt_list (da_cons (do_var (pv 0)) (da_nil))) (.inr rfl)) (ds_cons (ds_for (passes_of rfl) rfl (di_enum rfl (by rfl) T.z_enumerate (do_of (de_var (pv 0)))) (dg_tp (l := [2, 3]) rfl (pg_tup rfl (pgs_cons (pg_name (i := 2) sc_back_of.nd rfl (by first | exact .inl rfl | exact .inr rfl)) (pgs_cons (pg_name (i := 3) sc_back_of.nd rfl (by first | exact .inl rfl | exact .inr rfl)) (pgs_nil)))) (pg_unl rfl (pgs_cons (pg_name (i := 2) sc_back_of.nd rfl (by first | exact .inl rfl | exact .inr rfl)) (pgs_cons (pg_name (i := 3) sc_back_of.nd rfl (by first | exact .inl rfl | exact .inr rfl)) (pgs_nil))))) (ds_one (ds_setI (pv 1) (do_of (de_var (pv 2))) (do_of (de_var (pv 3)))))) (ds_one (ds_ret (de_callTy call_tuple_ofF (p_tuple rfl) (by rfl) T.z_tuple bt_tuple (da_cons (do_var (pv 1)) (da_nil))))))
end
end K05

end
section
set_option Elab.async false
set_option linter.all false
set_option maxRecDepth 100000
set_option autoImplicit false
set_option maxHeartbeats 0
open PySem PySem.Spec PyProof.Rows L2 TL
namespace K05
section
variable {P : Program} {w : World} {K : PySem.W.Frag} {mg : Str → Option Value} {base : Heap} {nb : Addr}
theorem ok_back (T : Tab K mg) : FnOk P w K mg base (L2.CX P w) 5 T.a_back T.d_back ["row"] (spT ⟨K, nb, T.ca, T.tb⟩ 1 f_back) :=
  fn_ok (g := ⟨K, nb, T.ca, T.tb⟩) (k := 4) (b := b_back) (N := N_back) (ps := ["row"]) T.F_back sc_back fun cdv A outer s H F0 E hr =>
    ds_one (ds_ret (by exact de_call (ps := ["row"]) (fn := f_back_of) (ok_back_of T) (hr.mono (by decide)) (by rfl) T.m_back_of T.F_back_of.kp T.b_back_of (passS (pass_own rfl rfl rfl rfl)) (da_cons (do_of (by exact de_call (ps := ["value", "part"]) (fn := f_need_wiring) (ok_need_wiring T) (hr.mono (by decide)) (by rfl) T.m_need_wiring T.F_need_wiring.kp T.b_need_wiring (passS (pass_own rfl rfl rfl rfl)) (da_cons (do_of (de_var (pv 0))) (da_cons (do_of (de_con pe_str (fun _ => .str _))) (da_nil))))) (da_nil))))
end
end K05

end
section
set_option Elab.async false
set_option linter.all false
set_option maxRecDepth 100000
set_option autoImplicit false
set_option maxHeartbeats 0
open PySem PySem.Spec PyProof.Rows L2 TL
namespace K05
section
variable {P : Program} {w : World} {K : PySem.W.Frag} {mg : Str → Option Value} {base : Heap} {nb : Addr}
theorem ok_law_one_right (T : Tab K mg) : FnOk P w K mg base (L2.CX P w) 6 T.a_law_one_right T.d_law_one_right ["_law_mug_here", "_law_wires"] (spT ⟨K, nb, T.ca, T.tb⟩ 2 f_law_one_right) :=
  fn_ok (g := ⟨K, nb, T.ca, T.tb⟩) (k := 5) (b := b_law_one_right) (N := N_law_one_right) (ps := ["_law_mug_here", "_law_wires"]) T.F_law_one_right sc_law_one_right fun cdv A outer s H F0 E hr =>
    ds_cons (ds_set (i := 2) sc_law_one_right.nd rfl (.inl rfl) (by exact de_call (ps := ["_law_mug_here", "_law_wires"]) (fn := f_law_row) (ok_law_row T) (hr.mono (by decide)) (by rfl) T.m_law_row T.F_law_row.kp T.b_law_row (passS (pass_own rfl rfl rfl rfl)) (da_cons (do_of (de_var (pv 0))) (da_cons (do_of (de_var (pv 1))) (da_nil)))) (.inr rfl)) (ds_cons (ds_par3E rfl sc_law_one_right.nd rfl rfl rfl (by decide) (by decide) (by decide) rfl rfl rfl (by exact de_callBo (ps := ["row"]) (fn := f_rounds) (ok_rounds T) (hr.mono (by decide)) (by rfl) T.m_rounds T.F_rounds.kp T.b_rounds (passS (pass_own rfl rfl rfl rfl)) (da_cons (do_var (pv 2)) (da_nil))) (by exact de_callBo (ps := ["row"]) (fn := f_sign) (ok_sign T) (hr.mono (by decide)) (by rfl) T.m_sign T.F_sign.kp T.b_sign (passS (pass_own rfl rfl rfl rfl)) (da_cons (do_var (pv 2)) (da_nil))) (de_callTy call_list_of (p_list rfl) (by rfl) T.z_list bt_list (da_cons (do_var (pv 2)) (da_nil))) (by rfl)) (ds_cons (ds_if ((dw_or (dt_not (dt_val (de_isi rfl (by rfl) T.z_isinstance (do_var (pv 3)) (by rfl) T.z_tuple bt_tuple))) (dw_or (dt_cmp (op_neD hr.units) (p_ne rfl) (do_of (by exact de_comp (own := [("_law_each", 10)]) rfl sc_law_one_right.nd (di_seq rfl (do_of (de_var (pv 3)))) (blkOk_by (own := [("_law_each", 10)]) (N := N_law_one_right) (sc := defScope st_law_one_right) (by decide +kernel)) (fun _ _ _ _ _ => dg_nm (pg_name (i := 10) sc_law_one_right.nd rfl (by first | exact .inl rfl | exact .inr rfl))) (fun _ _ _ _ _ => dts_one (dt_not (dt_val (de_isi rfl (by rfl) T.z_isinstance (do_var (pv 10)) (by rfl) T.z_tuple bt_tuple)))) (fun _ _ _ _ _ => de_var (pv 10)))) (do_of (de_lst (da_nil))) (nomark _)) (dw_or1 (dt_cmp (op_neD hr.units) (p_ne rfl) (do_var (pv 3)) (do_of (by exact de_callBo (ps := ["_law_row_here"]) (fn := f_law_rounds) (ok_law_rounds T) (hr.mono (by decide)) (by rfl) T.m_law_rounds T.F_law_rounds.kp T.b_law_rounds (passS (pass_own rfl rfl rfl rfl)) (da_cons (do_var (pv 2)) (da_nil)))) (nomark _))))).pt) (ds_one (ds_ret (de_con pe_bl (fun _ => .bl _)))) (ds_nil)) (ds_cons (ds_if (dt_cmp (op_neD hr.units) (p_ne rfl) (do_of (by exact de_comp (own := [("_law_each", 10)]) rfl sc_law_one_right.nd (di_seq rfl (do_of (de_var (pv 3)))) (blkOk_by (own := [("_law_each", 10)]) (N := N_law_one_right) (sc := defScope st_law_one_right) (by decide +kernel)) (fun _ _ _ _ _ => dg_nm (pg_name (i := 10) sc_law_one_right.nd rfl (by first | exact .inl rfl | exact .inr rfl))) (fun _ _ _ _ _ => dts_one (dt_cmp (op_neD hr.units) (p_ne rfl) (do_of (by exact de_comp (own := [("_law_part", 11)]) rfl sc_law_one_right.nd (di_seq rfl (do_of (de_var (pv 10)))) (blkOk_in (own := [("_law_part", 11)]) (N := N_law_one_right) (by decide +kernel)) (fun _ _ _ _ _ => dg_nm (pg_name (i := 11) sc_law_one_right.nd rfl (by first | exact .inl rfl | exact .inr rfl))) (fun _ _ _ _ _ => dts_one (dt_val (de_isi rfl (by rfl) T.z_isinstance (do_var (pv 11)) (by rfl) T.z_bool bt_bool))) (fun _ _ _ _ _ => de_var (pv 11)))) (do_of (de_lst (da_nil))) (nomark _))) (fun _ _ _ _ _ => de_var (pv 10)))) (do_of (de_lst (da_nil))) (nomark _)) (ds_one (ds_ret (de_con pe_bl (fun _ => .bl _)))) (ds_nil)) (ds_cons (ds_if ((dw_or (dt_val (de_isi rfl (by rfl) T.z_isinstance (do_var (pv 4)) (by rfl) T.z_bool bt_bool)) (dw_or (dt_not (dt_val (de_isi rfl (by rfl) T.z_isinstance (do_var (pv 4)) (by rfl) T.z_int bt_int))) (dw_or (dt_cmp (op_neD hr.units) (p_ne rfl) (do_var (pv 4)) (do_of (by exact de_callBo (ps := ["_law_row_here"]) (fn := f_law_sign) (ok_law_sign T) (hr.mono (by decide)) (by rfl) T.m_law_sign T.F_law_sign.kp T.b_law_sign (passS (pass_own rfl rfl rfl rfl)) (da_cons (do_var (pv 2)) (da_nil)))) (nomark _)) (dw_or1 (dt_cmp (op_neD hr.units) (p_ne rfl) (do_var (pv 4)) (do_of (de_if (dt_cmp (op_eqD hr.units) (p_eq rfl) (do_of (de_bin op_mod p_mod (do_of (de_callTy call_int1 p_int (by rfl) T.z_int bt_int (da_cons (do_of (de_bin op_sub p_sub (do_var (pv 1)) (do_of (de_callB call_len (p_len rfl) (by rfl) T.z_len bt_len (da_cons (do_var (pv 3)) (da_nil)))))) (da_nil)))) (do_of (de_con pe_int (fun _ => .int _))))) (do_of (de_con pe_int (fun _ => .int _))) (nomark _)) (de_con pe_int (fun _ => .int _)) (de_un un_neg p_neg (do_of (de_con pe_int (fun _ => .int _)))))) (nomark _)))))).pt) (ds_one (ds_ret (de_con pe_bl (fun _ => .bl _)))) (ds_nil)) (ds_cons (ds_if ((dw_or (dt_cmp (op_neD hr.units) (p_ne rfl) (do_of (by exact de_callKW0 (ps := ["row"]) (fn := f_rounds) (ks := ["row"]) (pm := [0]) (ok_rounds T) (hr.mono (by decide)) (by rfl) T.m_rounds T.F_rounds.kp T.k_rounds_row ⟨rfl, by decide⟩ (passS (pass_own rfl rfl rfl rfl)) (dk_cons (do_of (de_callTy call_tuple_ofF (p_tuple rfl) (by rfl) T.z_tuple bt_tuple (da_cons (do_var (pv 2)) (da_nil)))) (dk_nil)))) (do_var (pv 3)) (nomark _)) (dw_or (dt_cmp (op_neD hr.units) (p_ne rfl) (do_of (by exact de_callKW0 (ps := ["row"]) (fn := f_sign) (ks := ["row"]) (pm := [0]) (ok_sign T) (hr.mono (by decide)) (by rfl) T.m_sign T.F_sign.kp T.k_sign_row ⟨rfl, by decide⟩ (passS (pass_own rfl rfl rfl rfl)) (dk_cons (do_of (de_callTy call_tuple_ofF (p_tuple rfl) (by rfl) T.z_tuple bt_tuple (da_cons (do_var (pv 2)) (da_nil)))) (dk_nil)))) (do_var (pv 4)) (nomark _)) (dw_or1 (dt_cmp (op_neD hr.units) (p_ne rfl) (do_var (pv 2)) (do_var (pv 5)) (nomark _))))).pt) (ds_one (ds_ret (de_con pe_bl (fun _ => .bl _)))) (ds_nil)) (ds_cons (ds_set (i := 6) sc_law_one_right.nd rfl (.inl rfl) (by exact de_callBo (ps := ["row"]) (fn := f_back) (ok_back T) (hr.mono (by decide)) (by rfl) T.m_back T.F_back.kp T.b_back (passS (pass_own rfl rfl rfl rfl)) (da_cons (do_var (pv 2)) (da_nil))) (.inr rfl)) (ds_cons (ds_if ((dw_or (dt_cmp (op_neD hr.units) (p_ne rfl) (do_of (by exact de_call (ps := ["row"]) (fn := f_sign) (ok_sign T) (hr.mono (by decide)) (by rfl) T.m_sign T.F_sign.kp T.b_sign (passS (pass_own rfl rfl rfl rfl)) (da_cons (do_of (de_var (pv 6))) (da_nil)))) (do_var (pv 4)) (nomark _)) (dw_or1 (dt_cmp (op_neD hr.units) (p_ne rfl) (do_of (by exact de_call (ps := ["row"]) (fn := f_rounds) (ok_rounds T) (hr.mono (by decide)) (by rfl) T.m_rounds T.F_rounds.kp T.b_rounds (passS (pass_own rfl rfl rfl rfl)) (da_cons (do_of (de_var (pv 6))) (da_nil)))) (do_of (de_callTy call_tuple_ofF (p_tuple rfl) (by rfl) T.z_tuple bt_tuple (da_cons (do_of (by exact de_comp (own := [("_law_each", 10)]) rfl sc_law_one_right.nd (di_seq rfl (do_of (de_var (pv 3)))) (blkOk_by (own := [("_law_each", 10)]) (N := N_law_one_right) (sc := defScope st_law_one_right) (by decide +kernel)) (fun _ _ _ _ _ => dg_nm (pg_name (i := 10) sc_law_one_right.nd rfl (by first | exact .inl rfl | exact .inr rfl))) (fun _ _ _ _ _ => dts_nil) (fun _ _ _ _ _ => de_bin op_addA (p_add rfl) (do_of (de_sl sl_all (p_sl rfl) (do_var (pv 10)) (db_none) (db_some (do_of (de_con pe_int (fun _ => .int _)))))) (do_of (by exact de_revA rfl (do_of (de_sl sl_all (p_sl rfl) (do_var (pv 10)) (db_some (do_of (de_con pe_int (fun _ => .int _)))) (db_none)))))))) (da_nil)))) (nomark _)))).pt) (ds_one (ds_ret (de_con pe_bl (fun _ => .bl _)))) (ds_nil)) (ds_cons (ds_par rfl sc_law_one_right.nd rfl rfl (by decide) rfl rfl (by exact de_call (ps := ["_law_mug_here", "_law_many"]) (fn := f_law_sip) (ok_law_sip T) (hr.mono (by decide)) (by rfl) T.m_law_sip T.F_law_sip.kp T.b_law_sip (passS (pass_own rfl rfl rfl rfl)) (da_cons (do_of (de_var (pv 0))) (da_cons (do_of (de_var (pv 1))) (da_nil)))) (by exact de_call (ps := ["_law_mug_here", "_law_many"]) (fn := f_law_sip) (ok_law_sip T) (hr.mono (by decide)) (by rfl) T.m_law_sip T.F_law_sip.kp T.b_law_sip (passS (pass_own rfl rfl rfl rfl)) (da_cons (do_of (de_var (pv 0))) (da_cons (do_of (de_var (pv 1))) (da_nil)))) (by rfl)) (ds_cons (ds_set (i := 9) sc_law_one_right.nd rfl (.inl rfl) (de_ix ix_seq (p_ix rfl) (do_var (pv 2)) (do_var (pv 7)) (fun _ _ => rfl)) (.inr rfl)) (ds_cons (ds_setI (pv 2) (do_of (de_ix ix_seq (p_ix rfl) (do_var (pv 2)) (do_var (pv 8)) (fun _ _ => rfl))) (do_of (de_var (pv 7)))) (ds_cons (ds_setI (pv 2) (do_of (de_var (pv 9))) (do_of (de_var (pv 8)))) (ds_one (ds_ret (de_cmp (op_eqD hr.units) (p_eq rfl) (do_of (by exact de_callBo (ps := ["row"]) (fn := f_sign) (ok_sign T) (hr.mono (by decide)) (by rfl) T.m_sign T.F_sign.kp T.b_sign (passS (pass_own rfl rfl rfl rfl)) (da_cons (do_var (pv 2)) (da_nil)))) (do_of (de_if (dt_cmp (op_eqD hr.units) (p_eq rfl) (do_var (pv 7)) (do_var (pv 8)) (nomark _)) (de_var (pv 4)) (de_un un_neg p_neg (do_var (pv 4))))) (nomark _)))))))))))))))
end
end K05

end
section
set_option Elab.async false
set_option linter.all false
set_option maxRecDepth 100000
set_option autoImplicit false
set_option maxHeartbeats 0
open PySem PySem.Spec PyProof.Rows L2 TL
namespace K05
section
variable {P : Program} {w : World} {K : PySem.W.Frag} {mg : Str → Option Value} {base : Heap} {nb : Addr}
theorem ok_behind_of (T : Tab K mg) : FnOk P w K mg base (L2.CX P w) 1 T.a_behind_of T.d_behind_of ["one", "other"] (spT ⟨K, nb, T.ca, T.tb⟩ 2 f_behind_of) :=
  fn_ok (g := ⟨K, nb, T.ca, T.tb⟩) (k := 0) (b := b_behind_of) (N := N_behind_of) (ps := ["one", "other"]) T.F_behind_of sc_behind_of fun cdv A outer s H F0 E hr =>
    ds_one (ds_ret (de_callTy call_tuple_ofF (p_tuple rfl) (by rfl) T.z_tuple bt_tuple (da_cons (do_of (by exact de_comp (own := [("place", 2)]) rfl sc_behind_of.nd (di_seq rfl (do_of (de_var (pv 0)))) (blkOk_by (own := [("place", 2)]) (N := N_behind_of) (sc := defScope st_behind_of) (by decide +kernel)) (fun _ _ _ _ _ => dg_nm (pg_name (i := 2) sc_behind_of.nd rfl (by first | exact .inl rfl | exact .inr rfl))) (fun _ _ _ _ _ => dts_nil) (fun _ _ _ _ _ => de_ix ix_seq (p_ix rfl) (do_var (pv 1)) (do_var (pv 2)) (fun _ _ => rfl)))) (da_nil))))
end
end K05

end
section
set_option Elab.async false
set_option linter.all false
set_option maxRecDepth 100000
set_option autoImplicit false
set_option maxHeartbeats 0
open PySem PySem.Spec PyProof.Rows L2 TL
namespace K05
section
variable {P : Program} {w : World} {K : PySem.W.Frag} {mg : Str → Option Value} {base : Heap} {nb : Addr}
theorem ok_behind (T : Tab K mg) : FnOk P w K mg base (L2.CX P w) 5 T.a_behind T.d_behind ["one", "other"] (spT ⟨K, nb, T.ca, T.tb⟩ 2 f_behind) :=
  fn_ok (g := ⟨K, nb, T.ca, T.tb⟩) (k := 4) (b := b_behind) (N := N_behind) (ps := ["one", "other"]) T.F_behind sc_behind fun cdv A outer s H F0 E hr =>
    ds_cons (ds_par rfl sc_behind.nd rfl rfl (by decide) rfl rfl (by exact de_call (ps := ["value", "part"]) (fn := f_need_wiring) (ok_need_wiring T) (hr.mono (by decide)) (by rfl) T.m_need_wiring T.F_need_wiring.kp T.b_need_wiring (passS (pass_own rfl rfl rfl rfl)) (da_cons (do_of (de_var (pv 0))) (da_cons (do_of (de_con pe_str (fun _ => .str _))) (da_nil)))) (by exact de_call (ps := ["value", "part"]) (fn := f_need_wiring) (ok_need_wiring T) (hr.mono (by decide)) (by rfl) T.m_need_wiring T.F_need_wiring.kp T.b_need_wiring (passS (pass_own rfl rfl rfl rfl)) (da_cons (do_of (de_var (pv 1))) (da_cons (do_of (de_con pe_str (fun _ => .str _))) (da_nil)))) (by rfl)) (ds_cons (ds_if (dt_cmp (op_neD hr.units) (p_ne rfl) (do_of (de_callB call_len (p_len rfl) (by rfl) T.z_len bt_len (da_cons (do_var (pv 2)) (da_nil)))) (do_of (de_callB call_len (p_len rfl) (by rfl) T.z_len bt_len (da_cons (do_var (pv 3)) (da_nil)))) (nomark _)) (ds_one (by exact ds_raise (fl := ["part"]) (ps := ["self", "part"]) rfl (takes_of rfl rfl rfl rfl) T.E_Misfit rfl (ok_init_Misfit T) (hr.mono (by decide)) T.B_Misfit passL (by rfl) (da_cons (do_of (de_con pe_str (fun _ => .str _))) (da_nil)))) (ds_nil)) (ds_one (ds_ret (by exact de_call (ps := ["one", "other"]) (fn := f_behind_of) (ok_behind_of T) (hr.mono (by decide)) (by rfl) T.m_behind_of T.F_behind_of.kp T.b_behind_of (passS (pass_own rfl rfl rfl rfl)) (da_cons (do_of (de_var (pv 2))) (da_cons (do_of (de_var (pv 3))) (da_nil)))))))
end
end K05

end
section
set_option Elab.async false
set_option linter.all false
set_option maxRecDepth 100000
set_option autoImplicit false
set_option maxHeartbeats 0
open PySem PySem.Spec PyProof.Rows L2 TL
namespace K05
section
variable {P : Program} {w : World} {K : PySem.W.Frag} {mg : Str → Option Value} {base : Heap} {nb : Addr}
theorem ok_law_renamed (T : Tab K mg) : FnOk P w K mg base (L2.CX P w) 1 T.a_law_renamed T.d_law_renamed ["_law_told", "_law_names"] (spT ⟨K, nb, T.ca, T.tb⟩ 2 f_law_renamed) :=
  fn_ok (g := ⟨K, nb, T.ca, T.tb⟩) (k := 0) (b := b_law_renamed) (N := N_law_renamed) (ps := ["_law_told", "_law_names"]) T.F_law_renamed sc_law_renamed fun cdv A outer s H F0 E hr =>
    ds_cons (ds_set (i := 2) sc_law_renamed.nd rfl (.inl rfl) (de_lst (da_nil)) (.inr rfl)) (ds_cons (ds_for (passes_of rfl) rfl (di_seq rfl (do_of (de_var (pv 0)))) (dg_nm (pg_name (i := 3) sc_law_renamed.nd rfl (by first | exact .inl rfl | exact .inr rfl))) (ds_cons (by exact ds_setLc (own := [("_law_wire", 6)]) (i := 4) rfl sc_law_renamed.nd rfl rfl (sw_true rfl rfl rfl (by decide +kernel)) (di_seq rfl (do_of (de_var (pv 3)))) (blkOk_by (own := [("_law_wire", 6)]) (N := N_law_renamed) (sc := defScope st_law_renamed) (by decide +kernel)) (fun _ _ _ _ _ => dg_nm (pg_name (i := 6) sc_law_renamed.nd rfl (by first | exact .inl rfl | exact .inr rfl))) (fun _ _ _ _ _ => dts_nil) (fun _ _ _ _ _ => de_ix ix_seq (p_ix rfl) (do_var (pv 1)) (do_var (pv 6)) (fun _ _ => rfl))) (ds_cons (ds_set (i := 5) sc_law_renamed.nd rfl (.inl rfl) (by exact de_index rfl (do_var (pv 4)) (do_of (de_callB (cr_min rfl) p_min (by rfl) T.z_min bt_min (da_cons (do_var (pv 4)) (da_nil))))) (.inr rfl)) (ds_one (ds_expr (by refine de_meth PySem.F.slot_list_append PySem.F.type_list_append mt_append p_append (pv 2) ?_; exact (da_cons (do_of (de_callTy call_tuple_ofF (p_tuple rfl) (by rfl) T.z_tuple bt_tuple (da_cons (do_of (de_bin op_addA (p_add rfl) (do_of (de_sl sl_all (p_sl rfl) (do_var (pv 4)) (db_some (do_var (pv 5))) (db_none))) (do_of (de_sl sl_all (p_sl rfl) (do_var (pv 4)) (db_none) (db_some (do_var (pv 5))))))) (da_nil)))) (da_nil)))))))) (ds_one (ds_ret (de_callTy call_tuple_ofF (p_tuple rfl) (by rfl) T.z_tuple bt_tuple (da_cons (do_of (de_callB cr_sortB (p_sortB rfl) (by rfl) T.z_sorted bt_sorted (da_cons (do_var (pv 2)) (da_nil)))) (da_nil))))))
end
end K05

end
section
set_option Elab.async false
set_option linter.all false
set_option maxRecDepth 100000
set_option autoImplicit false
set_option maxHeartbeats 0
open PySem PySem.Spec PyProof.Rows L2 TL
namespace K05
section
variable {P : Program} {w : World} {K : PySem.W.Frag} {mg : Str → Option Value} {base : Heap} {nb : Addr}
theorem ok_law_two_right (T : Tab K mg) : FnOk P w K mg base (L2.CX P w) 6 T.a_law_two_right T.d_law_two_right ["_law_mug_here", "_law_wires"] (spT ⟨K, nb, T.ca, T.tb⟩ 2 f_law_two_right) :=
  fn_ok (g := ⟨K, nb, T.ca, T.tb⟩) (k := 5) (b := b_law_two_right) (N := N_law_two_right) (ps := ["_law_mug_here", "_law_wires"]) T.F_law_two_right sc_law_two_right fun cdv A outer s H F0 E hr =>
    ds_cons (ds_par rfl sc_law_two_right.nd rfl rfl (by decide) rfl rfl (by exact de_call (ps := ["_law_mug_here", "_law_wires"]) (fn := f_law_row) (ok_law_row T) (hr.mono (by decide)) (by rfl) T.m_law_row T.F_law_row.kp T.b_law_row (passS (pass_own rfl rfl rfl rfl)) (da_cons (do_of (de_var (pv 0))) (da_cons (do_of (de_var (pv 1))) (da_nil)))) (by exact de_call (ps := ["_law_mug_here", "_law_wires"]) (fn := f_law_row) (ok_law_row T) (hr.mono (by decide)) (by rfl) T.m_law_row T.F_law_row.kp T.b_law_row (passS (pass_own rfl rfl rfl rfl)) (da_cons (do_of (de_var (pv 0))) (da_cons (do_of (de_var (pv 1))) (da_nil)))) (by rfl)) (ds_cons (ds_if ((dw_or (dt_cmp (op_neD hr.units) (p_ne rfl) (do_of (by exact de_call (ps := ["row"]) (fn := f_sign) (ok_sign T) (hr.mono (by decide)) (by rfl) T.m_sign T.F_sign.kp T.b_sign (passS (pass_own rfl rfl rfl rfl)) (da_cons (do_of (by exact de_call (ps := ["one", "other"]) (fn := f_behind) (ok_behind T) (hr.mono (by decide)) (by rfl) T.m_behind T.F_behind.kp T.b_behind (passS (pass_own rfl rfl rfl rfl)) (da_cons (do_of (de_var (pv 2))) (da_cons (do_of (de_var (pv 3))) (da_nil))))) (da_nil)))) (do_of (de_bin op_mulA p_mul (do_of (by exact de_call (ps := ["row"]) (fn := f_sign) (ok_sign T) (hr.mono (by decide)) (by rfl) T.m_sign T.F_sign.kp T.b_sign (passS (pass_own rfl rfl rfl rfl)) (da_cons (do_of (de_var (pv 2))) (da_nil)))) (do_of (by exact de_call (ps := ["row"]) (fn := f_sign) (ok_sign T) (hr.mono (by decide)) (by rfl) T.m_sign T.F_sign.kp T.b_sign (passS (pass_own rfl rfl rfl rfl)) (da_cons (do_of (de_var (pv 3))) (da_nil)))))) (nomark _)) (dw_or1 (dt_cmp (op_neD hr.units) (p_ne rfl) (do_of (by exact de_call (ps := ["row"]) (fn := f_sign) (ok_sign T) (hr.mono (by decide)) (by rfl) T.m_sign T.F_sign.kp T.b_sign (passS (pass_own rfl rfl rfl rfl)) (da_cons (do_of (by exact de_call (ps := ["one", "other"]) (fn := f_behind) (ok_behind T) (hr.mono (by decide)) (by rfl) T.m_behind T.F_behind.kp T.b_behind (passS (pass_own rfl rfl rfl rfl)) (da_cons (do_of (de_var (pv 3))) (da_cons (do_of (de_var (pv 2))) (da_nil))))) (da_nil)))) (do_of (de_bin op_mulA p_mul (do_of (by exact de_call (ps := ["row"]) (fn := f_sign) (ok_sign T) (hr.mono (by decide)) (by rfl) T.m_sign T.F_sign.kp T.b_sign (passS (pass_own rfl rfl rfl rfl)) (da_cons (do_of (de_var (pv 2))) (da_nil)))) (do_of (by exact de_call (ps := ["row"]) (fn := f_sign) (ok_sign T) (hr.mono (by decide)) (by rfl) T.m_sign T.F_sign.kp T.b_sign (passS (pass_own rfl rfl rfl rfl)) (da_cons (do_of (de_var (pv 3))) (da_nil)))))) (nomark _)))).pt) (ds_one (ds_ret (de_con pe_bl (fun _ => .bl _)))) (ds_nil)) (ds_cons (ds_if (dt_cmp (op_neD hr.units) (p_ne rfl) (do_of (de_callB call_len (p_len rfl) (by rfl) T.z_len bt_len (da_cons (do_of (by exact de_call (ps := ["row"]) (fn := f_rounds) (ok_rounds T) (hr.mono (by decide)) (by rfl) T.m_rounds T.F_rounds.kp T.b_rounds (passS (pass_own rfl rfl rfl rfl)) (da_cons (do_of (by exact de_call (ps := ["one", "other"]) (fn := f_behind) (ok_behind T) (hr.mono (by decide)) (by rfl) T.m_behind T.F_behind.kp T.b_behind (passS (pass_own rfl rfl rfl rfl)) (da_cons (do_of (de_var (pv 2))) (da_cons (do_of (de_var (pv 3))) (da_nil))))) (da_nil)))) (da_nil)))) (do_of (de_callB call_len (p_len rfl) (by rfl) T.z_len bt_len (da_cons (do_of (by exact de_call (ps := ["row"]) (fn := f_rounds) (ok_rounds T) (hr.mono (by decide)) (by rfl) T.m_rounds T.F_rounds.kp T.b_rounds (passS (pass_own rfl rfl rfl rfl)) (da_cons (do_of (by exact de_call (ps := ["one", "other"]) (fn := f_behind) (ok_behind T) (hr.mono (by decide)) (by rfl) T.m_behind T.F_behind.kp T.b_behind (passS (pass_own rfl rfl rfl rfl)) (da_cons (do_of (de_var (pv 3))) (da_cons (do_of (de_var (pv 2))) (da_nil))))) (da_nil)))) (da_nil)))) (nomark _)) (ds_one (ds_ret (de_con pe_bl (fun _ => .bl _)))) (ds_nil)) (ds_one (ds_ret (de_cmp (op_eqD hr.units) (p_eq rfl) (do_of (by exact de_call (ps := ["row"]) (fn := f_rounds) (ok_rounds T) (hr.mono (by decide)) (by rfl) T.m_rounds T.F_rounds.kp T.b_rounds (passS (pass_own rfl rfl rfl rfl)) (da_cons (do_of (by exact de_call (ps := ["one", "other"]) (fn := f_behind) (ok_behind T) (hr.mono (by decide)) (by rfl) T.m_behind T.F_behind.kp T.b_behind (passS (pass_own rfl rfl rfl rfl)) (da_cons (do_of (by exact de_call (ps := ["one", "other"]) (fn := f_behind) (ok_behind T) (hr.mono (by decide)) (by rfl) T.m_behind T.F_behind.kp T.b_behind (passS (pass_own rfl rfl rfl rfl)) (da_cons (do_of (by exact de_call (ps := ["row"]) (fn := f_back) (ok_back T) (hr.mono (by decide)) (by rfl) T.m_back T.F_back.kp T.b_back (passS (pass_own rfl rfl rfl rfl)) (da_cons (do_of (de_var (pv 3))) (da_nil)))) (da_cons (do_of (de_var (pv 2))) (da_nil))))) (da_cons (do_of (de_var (pv 3))) (da_nil))))) (da_nil)))) (do_of (by exact de_call (ps := ["_law_told", "_law_names"]) (fn := f_law_renamed) (ok_law_renamed T) (hr.mono (by decide)) (by rfl) T.m_law_renamed T.F_law_renamed.kp T.b_law_renamed (passS (pass_own rfl rfl rfl rfl)) (da_cons (do_of (by exact de_call (ps := ["_law_row_here"]) (fn := f_law_rounds) (ok_law_rounds T) (hr.mono (by decide)) (by rfl) T.m_law_rounds T.F_law_rounds.kp T.b_law_rounds (passS (pass_own rfl rfl rfl rfl)) (da_cons (do_of (de_var (pv 2))) (da_nil)))) (da_cons (do_of (de_var (pv 3))) (da_nil))))) (nomark _))))))
end
end K05

end
section
set_option Elab.async false
set_option linter.all false
set_option maxRecDepth 100000
set_option autoImplicit false
set_option maxHeartbeats 0
open PySem PySem.Spec PyProof.Rows L2 TL
namespace K05
section
variable {P : Program} {w : World} {K : PySem.W.Frag} {mg : Str → Option Value} {base : Heap} {nb : Addr}
theorem ok_beside_of (T : Tab K mg) : FnOk P w K mg base (L2.CX P w) 1 T.a_beside_of T.d_beside_of ["one", "other"] (spT ⟨K, nb, T.ca, T.tb⟩ 2 f_beside_of) :=
  fn_ok (g := ⟨K, nb, T.ca, T.tb⟩) (k := 0) (b := b_beside_of) (N := N_beside_of) (ps := ["one", "other"]) T.F_beside_of sc_beside_of fun cdv A outer s H F0 E hr =>
    ds_one (ds_ret (de_callTy call_tuple_ofF (p_tuple rfl) (by rfl) T.z_tuple bt_tuple (da_cons (do_of (de_lst (da_star rfl (do_of (de_var (pv 0))) (da_star rfl (do_of (by exact de_comp (own := [("place", 2)]) rfl sc_beside_of.nd (di_seq rfl (do_of (de_var (pv 1)))) (blkOk_by (own := [("place", 2)]) (N := N_beside_of) (sc := defScope st_beside_of) (by decide +kernel)) (fun _ _ _ _ _ => dg_nm (pg_name (i := 2) sc_beside_of.nd rfl (by first | exact .inl rfl | exact .inr rfl))) (fun _ _ _ _ _ => dts_nil) (fun _ _ _ _ _ => de_bin op_addA (p_add rfl) (do_of (de_callB call_len (p_len rfl) (by rfl) T.z_len bt_len (da_cons (do_var (pv 0)) (da_nil)))) (do_var (pv 2))))) (da_nil))))) (da_nil))))
end
end K05

end
section
set_option Elab.async false
set_option linter.all false
set_option maxRecDepth 100000
set_option autoImplicit false
set_option maxHeartbeats 0
open PySem PySem.Spec PyProof.Rows L2 TL
namespace K05
section
variable {P : Program} {w : World} {K : PySem.W.Frag} {mg : Str → Option Value} {base : Heap} {nb : Addr}
theorem ok_beside (T : Tab K mg) : FnOk P w K mg base (L2.CX P w) 5 T.a_beside T.d_beside ["one", "other"] (spT ⟨K, nb, T.ca, T.tb⟩ 2 f_beside) :=
  fn_ok (g := ⟨K, nb, T.ca, T.tb⟩) (k := 4) (b := b_beside) (N := N_beside) (ps := ["one", "other"]) T.F_beside sc_beside fun cdv A outer s H F0 E hr =>
    ds_cons (ds_par rfl sc_beside.nd rfl rfl (by decide) rfl rfl (by exact de_call (ps := ["value", "part"]) (fn := f_need_wiring) (ok_need_wiring T) (hr.mono (by decide)) (by rfl) T.m_need_wiring T.F_need_wiring.kp T.b_need_wiring (passS (pass_own rfl rfl rfl rfl)) (da_cons (do_of (de_var (pv 0))) (da_cons (do_of (de_con pe_str (fun _ => .str _))) (da_nil)))) (by exact de_call (ps := ["value", "part"]) (fn := f_need_wiring) (ok_need_wiring T) (hr.mono (by decide)) (by rfl) T.m_need_wiring T.F_need_wiring.kp T.b_need_wiring (passS (pass_own rfl rfl rfl rfl)) (da_cons (do_of (de_var (pv 1))) (da_cons (do_of (de_con pe_str (fun _ => .str _))) (da_nil)))) (by rfl)) (ds_cons (ds_if (dt_cmp (op_gtA (hu0 hr)) (p_ord rfl _ _) (do_of (de_bin op_addA (p_add rfl) (do_of (de_callB call_len (p_len rfl) (by rfl) T.z_len bt_len (da_cons (do_var (pv 2)) (da_nil)))) (do_of (de_callB call_len (p_len rfl) (by rfl) T.z_len bt_len (da_cons (do_var (pv 3)) (da_nil)))))) (do_of (de_con (pe_glob (v := .int 6) (by rfl) T.c_MOST_WIRES ⟨T.tk_MOST_WIRES, rfl⟩) (fun _ => .int _))) (nomark _)) (ds_one (by exact ds_raise (fl := ["what", "most"]) (ps := ["self", "what", "most"]) rfl (takes_of rfl rfl rfl rfl) T.E_TooMany rfl (ok_init_TooMany T) (hr.mono (by decide)) T.B_TooMany passL (by rfl) (da_cons (do_of (de_con pe_str (fun _ => .str _))) (da_cons (do_of (de_con (pe_glob (v := .int 6) (by rfl) T.c_MOST_WIRES ⟨T.tk_MOST_WIRES, rfl⟩) (fun _ => .int _))) (da_nil))))) (ds_nil)) (ds_one (ds_ret (by exact de_call (ps := ["one", "other"]) (fn := f_beside_of) (ok_beside_of T) (hr.mono (by decide)) (by rfl) T.m_beside_of T.F_beside_of.kp T.b_beside_of (passS (pass_own rfl rfl rfl rfl)) (da_cons (do_of (de_var (pv 2))) (da_cons (do_of (de_var (pv 3))) (da_nil)))))))
end
end K05

end
section
set_option Elab.async false
set_option linter.all false
set_option maxRecDepth 100000
set_option autoImplicit false
set_option maxHeartbeats 0
open PySem PySem.Spec PyProof.Rows L2 TL
namespace K05
section
variable {P : Program} {w : World} {K : PySem.W.Frag} {mg : Str → Option Value} {base : Heap} {nb : Addr}
theorem ok_law_beside_right (T : Tab K mg) : FnOk P w K mg base (L2.CX P w) 6 T.a_law_beside_right T.d_law_beside_right ["_law_mug_here"] (spT ⟨K, nb, T.ca, T.tb⟩ 1 f_law_beside_right) :=
  fn_ok (g := ⟨K, nb, T.ca, T.tb⟩) (k := 5) (b := b_law_beside_right) (N := N_law_beside_right) (ps := ["_law_mug_here"]) T.F_law_beside_right sc_law_beside_right fun cdv A outer s H F0 E hr =>
    ds_cons (ds_set (i := 1) sc_law_beside_right.nd rfl (.inr rfl) (de_bin op_addA (p_add rfl) (do_of (de_con pe_int (fun _ => .int _))) (do_of (by exact de_call (ps := ["_law_mug_here", "_law_many"]) (fn := f_law_sip) (ok_law_sip T) (hr.mono (by decide)) (by rfl) T.m_law_sip T.F_law_sip.kp T.b_law_sip (passS (pass_own rfl rfl rfl rfl)) (da_cons (do_of (de_var (pv 0))) (da_cons (do_of (de_con pe_int (fun _ => .int _))) (da_nil)))))) (.inl rfl)) (ds_cons (ds_par rfl sc_law_beside_right.nd rfl rfl (by decide) rfl rfl (by exact de_call (ps := ["_law_mug_here", "_law_wires"]) (fn := f_law_row) (ok_law_row T) (hr.mono (by decide)) (by rfl) T.m_law_row T.F_law_row.kp T.b_law_row (passS (pass_own rfl rfl rfl rfl)) (da_cons (do_of (de_var (pv 0))) (da_cons (do_of (de_var (pv 1))) (da_nil)))) (by exact de_call (ps := ["_law_mug_here", "_law_wires"]) (fn := f_law_row) (ok_law_row T) (hr.mono (by decide)) (by rfl) T.m_law_row T.F_law_row.kp T.b_law_row (passS (pass_own rfl rfl rfl rfl)) (da_cons (do_of (de_var (pv 0))) (da_cons (do_of (de_bin op_addA (p_add rfl) (do_of (de_con pe_int (fun _ => .int _))) (do_of (by exact de_call (ps := ["_law_mug_here", "_law_many"]) (fn := f_law_sip) (ok_law_sip T) (hr.mono (by decide)) (by rfl) T.m_law_sip T.F_law_sip.kp T.b_law_sip (passS (pass_own rfl rfl rfl rfl)) (da_cons (do_of (de_var (pv 0))) (da_cons (do_of (de_bin op_sub p_sub (do_of (de_con pe_int (fun _ => .int _))) (do_var (pv 1)))) (da_nil))))))) (da_nil)))) (by rfl)) (ds_cons (ds_set (i := 4) sc_law_beside_right.nd rfl (.inl rfl) (by exact de_call (ps := ["one", "other"]) (fn := f_beside) (ok_beside T) (hr.mono (by decide)) (by rfl) T.m_beside T.F_beside.kp T.b_beside (passS (pass_own rfl rfl rfl rfl)) (da_cons (do_of (de_var (pv 2))) (da_cons (do_of (de_var (pv 3))) (da_nil)))) (.inr rfl)) (ds_cons (ds_set (i := 5) sc_law_beside_right.nd rfl (.inl rfl) (de_bin op_addA (p_add rfl) (do_of (by exact de_call (ps := ["_law_row_here"]) (fn := f_law_rounds) (ok_law_rounds T) (hr.mono (by decide)) (by rfl) T.m_law_rounds T.F_law_rounds.kp T.b_law_rounds (passS (pass_own rfl rfl rfl rfl)) (da_cons (do_of (de_var (pv 2))) (da_nil)))) (do_of (de_callTy call_tuple_ofF (p_tuple rfl) (by rfl) T.z_tuple bt_tuple (da_cons (do_of (by exact de_comp (own := [("_law_each", 6)]) rfl sc_law_beside_right.nd (di_seq rfl (do_of (by exact de_call (ps := ["_law_row_here"]) (fn := f_law_rounds) (ok_law_rounds T) (hr.mono (by decide)) (by rfl) T.m_law_rounds T.F_law_rounds.kp T.b_law_rounds (passS (pass_own rfl rfl rfl rfl)) (da_cons (do_of (de_var (pv 3))) (da_nil))))) (blkOk_by (own := [("_law_each", 6)]) (N := N_law_beside_right) (sc := defScope st_law_beside_right) (by decide +kernel)) (fun _ _ _ _ _ => dg_nm (pg_name (i := 6) sc_law_beside_right.nd rfl (by first | exact .inl rfl | exact .inr rfl))) (fun _ _ _ _ _ => dts_nil) (fun _ _ _ _ _ => de_callTy call_tuple_ofF (p_tuple rfl) (by rfl) T.z_tuple bt_tuple (da_cons (do_of (by exact de_comp (own := [("_law_wire", 7)]) rfl sc_law_beside_right.nd (di_seq rfl (do_of (de_var (pv 6)))) (blkOk_in (own := [("_law_wire", 7)]) (N := N_law_beside_right) (by decide +kernel)) (fun _ _ _ _ _ => dg_nm (pg_name (i := 7) sc_law_beside_right.nd rfl (by first | exact .inl rfl | exact .inr rfl))) (fun _ _ _ _ _ => dts_nil) (fun _ _ _ _ _ => de_bin op_addA (p_add rfl) (do_var (pv 1)) (do_var (pv 7))))) (da_nil))))) (da_nil))))) (.inr rfl)) (ds_one (ds_ret (de_and (de_cmp (op_eqD hr.units) (p_eq rfl) (do_of (by exact de_call (ps := ["row"]) (fn := f_sign) (ok_sign T) (hr.mono (by decide)) (by rfl) T.m_sign T.F_sign.kp T.b_sign (passS (pass_own rfl rfl rfl rfl)) (da_cons (do_of (de_var (pv 4))) (da_nil)))) (do_of (de_bin op_mulA p_mul (do_of (by exact de_call (ps := ["row"]) (fn := f_sign) (ok_sign T) (hr.mono (by decide)) (by rfl) T.m_sign T.F_sign.kp T.b_sign (passS (pass_own rfl rfl rfl rfl)) (da_cons (do_of (de_var (pv 2))) (da_nil)))) (do_of (by exact de_call (ps := ["row"]) (fn := f_sign) (ok_sign T) (hr.mono (by decide)) (by rfl) T.m_sign T.F_sign.kp T.b_sign (passS (pass_own rfl rfl rfl rfl)) (da_cons (do_of (de_var (pv 3))) (da_nil)))))) (nomark _)) (de_one (de_cmp (op_eqD hr.units) (p_eq rfl) (do_of (by exact de_call (ps := ["row"]) (fn := f_rounds) (ok_rounds T) (hr.mono (by decide)) (by rfl) T.m_rounds T.F_rounds.kp T.b_rounds (passS (pass_own rfl rfl rfl rfl)) (da_cons (do_of (de_var (pv 4))) (da_nil)))) (do_var (pv 5)) (nomark _)))))))))
end
end K05

end
section
set_option Elab.async false
set_option linter.all false
set_option maxRecDepth 100000
set_option autoImplicit false
set_option maxHeartbeats 0
open PySem PySem.Spec PyProof.Rows L2 TL
namespace K05
section
variable {P : Program} {w : World} {K : PySem.W.Frag} {mg : Str → Option Value} {base : Heap} {nb : Addr}
theorem ok_law_mug (T : Tab K mg) : FnOk P w K mg base (L2.CX P w) 1 T.a_law_mug T.d_law_mug ["_law_script"] (spCanN 61 K) := by
  refine T.F_law_mug.okX (k := 0) sc_law_mug (fun vs H Q E h => by obtain ⟨a, ns, rfl, _⟩ := h; rfl) (fun cdv A outer s H vs Q E hr h => ?_)
  obtain ⟨a, ns, rfl, hS, hl, q⟩ := h
  refine ⟨_, pss_one (ps_ret (pe_lst (pa_cons (pe_lc (own := [("_law_cell", 1)]) (g := gName 1) (tt := tYes) rfl sc_law_mug.nd (pi_list (pe_slice sl_list (pv 0) po_none (po_some pe_int))) (blkOk_by (N := N_law_mug) (sc := defScope st_law_mug) (by decide +kernel)) (fun _ _ _ _ _ => pg_name (i := 1) sc_law_mug.nd rfl (Or.inl rfl)) (fun _ _ _ _ _ => pts_nil) (fun _ _ _ _ _ => pe_callTy call_int1 (by rfl) T.z_int bt_int (pa_cons (pv 1) pa_nil))) (pa_cons pe_int (pa_cons pe_int pa_nil))))), ?_⟩
  refine ⟨_, rfl, 61, rfl, a, _, rfl, hS, fun c hc => ⟨c, rfl, ⟨_, .inl (.inl upd_same)⟩, fun D hD => ?_⟩⟩
  have e : cutV (ns.map V.int) none (some 61) = (ns.take 61).map V.int := by rw [List.map_take]; exact cut_take _ 61
  have s1 : Same H (upd H c (.lst (cutV (ns.map V.int) none (some 61)))) := lst_new hc
  refine can_lc (te := tCB (fun xs H Q => (∃ i, xs = [.int i] ∧ Q (.int i) H) ∨ ∃ k, xs = [.bl k] ∧ Q (.int (if k then 1 else 0)) H) (tCons (tVar 1) tNil)) (σ := start N_law_mug [.ref a]) (K := K) (c := c) (D := D) (ns := ns.take 61) (by rw [List.length_take]; omega) (by rw [upd_same, e]) hD (fun σ2 i H Q h1 h2 => ⟨_, h1, .inl ⟨i, rfl, h2⟩⟩) (by show 1 < 2; decide) (fun H' s2 hD' => ?_)
  refine ⟨by show 3 ≤ sizeLine; decide, fun p np => ?_⟩
  have npD : p ≠ D := fun z => by subst z; rw [hD'] at np; cases np
  exact q _ p D (fun b x h => lst_new np _ _ (s2 _ _ (s1 _ _ h))) npD upd_same (by rw [upd_ne (Ne.symm npD)]; exact hD')
def LawHolds : Prop := ∀ ns : List Int, ns.length ≤ 63 → (∀ z ∈ ns, Builtin.Int.intBits z ≤ 1048576) → ∃ S', b_law ⟨.no :: .sh .nib :: List.replicate 4 .no, [], ⟨ns.take 61, 0, 0⟩⟩ = .ok (.rt (.sh (.bl true))) S'
theorem ok_law (hL : LawHolds) (T : Tab K mg) (TB : TabL T base) : FnOk P w K mg base (L2.CX P w) 8 T.a_law T.d_law ["_law_script"] (spLaw K T.tb) := by
  refine T.FC_law.okX (k := 7) sc_law (fun vs H Q E h => by obtain ⟨a, ns, rfl, _⟩ := h; rfl) (fun A outer s H vs Q E hr h => ?_)
  obtain ⟨a, ns, rfl, hS, hl, hb, ht, q⟩ := h
  refine ⟨_, pss_cons (ps_set (i := 1) sc_law.nd rfl (.inl rfl) (pe_call (ok_law_mug T) (hr.mono (by decide)) (by rfl) T.m_law_mug T.F_law_mug.kp T.b_law_mug .nil (pass_own rfl rfl rfl rfl) (pa_cons (pv 0) pa_nil))) (pss_nb (c := cLaw K T.ca T.tb E) (f := b_law) fun nb => ?_), law_read (n := 6) (m := 61) rfl hS hl ht q (hL ns hl hb) rfl⟩
  exact ds_cons (ds_for (passes_of rfl) rfl (di_rng1 (by rfl) T.z_range (do_of (de_con pe_int (fun _ => .int _)))) (dg_nm (pg_name (i := 2) sc_law.nd rfl (by first | exact .inl rfl | exact .inr rfl))) (ds_cons (ds_set (i := 3) sc_law.nd rfl (.inl rfl) (de_bin op_addA (p_add rfl) (do_of (de_con pe_int (fun _ => .int _))) (do_of (by exact de_call (ps := ["_law_mug_here", "_law_many"]) (fn := f_law_sip) (ok_law_sip T) (hr.mono (by decide)) (by rfl) T.m_law_sip T.F_law_sip.kp T.b_law_sip (passS (pass_own rfl rfl rfl rfl)) (da_cons (do_of (de_var (pv 1))) (da_cons (do_of (de_con pe_int (fun _ => .int _))) (da_nil)))))) (.inr rfl)) (ds_one (ds_if ((dw_or (dt_not (dt_val (by exact de_call (ps := ["_law_mug_here", "_law_wires"]) (fn := f_law_one_right) (ok_law_one_right T) (hr.mono (by decide)) (by rfl) T.m_law_one_right T.F_law_one_right.kp T.b_law_one_right (passS (pass_own rfl rfl rfl rfl)) (da_cons (do_of (de_var (pv 1))) (da_cons (do_of (de_var (pv 3))) (da_nil)))))) (dw_or (dt_not (dt_val (by exact de_call (ps := ["_law_mug_here", "_law_wires"]) (fn := f_law_two_right) (ok_law_two_right T) (hr.mono (by decide)) (by rfl) T.m_law_two_right T.F_law_two_right.kp T.b_law_two_right (passS (pass_own rfl rfl rfl rfl)) (da_cons (do_of (de_var (pv 1))) (da_cons (do_of (de_var (pv 3))) (da_nil)))))) (dw_or1 (dt_not (dt_val (by exact de_call (ps := ["_law_mug_here"]) (fn := f_law_beside_right) (ok_law_beside_right T) (hr.mono (by decide)) (by rfl) T.m_law_beside_right T.F_law_beside_right.kp T.b_law_beside_right (passS (pass_own rfl rfl rfl rfl)) (da_cons (do_of (de_var (pv 1))) (da_nil)))))))).pt) (ds_one (ds_ret (de_con pe_bl (fun _ => .bl _)))) (ds_nil))))) (ds_cons (ds_set (i := 5) sc_law.nd rfl (.inr rfl) (by exact de_call (ps := ["_law_mug_here", "_law_some"]) (fn := f_law_one_of) (ok_law_one_of T) (hr.mono (by decide)) (by rfl) T.m_law_one_of T.F_law_one_of.kp T.b_law_one_of (passS (pass_own rfl rfl rfl rfl)) (da_cons (do_of (de_var (pv 1))) (da_cons (do_of (de_lst (da_cons (do_of (de_con pe_non (fun _ => .non))) (da_cons (do_of (de_con pe_int (fun _ => .int _))) (da_cons (do_of (de_con pe_bl (fun _ => .bl _))) (da_cons (do_of (de_con pe_str (fun _ => .str _))) (da_cons (do_of (de_dnew)) (da_cons (do_of (de_lst (da_nil))) (da_cons (do_of (de_tup (da_nil))) (da_cons (do_of (de_lst (da_cons (do_of (de_con pe_int (fun _ => .int _))) (da_nil)))) (da_cons (do_of (de_lst (da_cons (do_of (de_con pe_int (fun _ => .int _))) (da_cons (do_of (de_con pe_int (fun _ => .int _))) (da_nil))))) (da_cons (do_of (de_lst (da_cons (do_of (de_con pe_int (fun _ => .int _))) (da_cons (do_of (de_con pe_int (fun _ => .int _))) (da_nil))))) (da_cons (do_of (de_lst (da_cons (do_of (de_con pe_int (fun _ => .int _))) (da_cons (do_of (de_un un_neg p_neg (do_of (de_con pe_int (fun _ => .int _))))) (da_nil))))) (da_cons (do_of (de_lst (da_cons (do_of (de_con pe_bl (fun _ => .bl _))) (da_cons (do_of (de_con pe_bl (fun _ => .bl _))) (da_nil))))) (da_cons (do_of (de_lst (da_cons (do_of (de_con pe_str (fun _ => .str _))) (da_nil)))) (da_cons (do_of (de_lst (da_cons (do_of (de_lst (da_cons (do_of (de_con pe_int (fun _ => .int _))) (da_nil)))) (da_nil)))) (da_cons (do_of (de_lrg1 rfl (by rfl) T.z_list (by rfl) T.z_range (do_of (de_con pe_int (fun _ => .int _))))) (da_cons (do_of (de_lst (da_cons (do_of (de_con pe_int (fun _ => .int _))) (da_cons (do_of (de_con pe_non (fun _ => .non))) (da_cons (do_of (de_con pe_int (fun _ => .int _))) (da_nil)))))) (da_nil))))))))))))))))))) (da_nil)))) (.inl rfl)) (ds_cons (ds_set (i := 4) sc_law.nd rfl (.inl rfl) (de_lst (da_cons (do_of (by exact de_lam (k := 5) (Ng := N_law_heard) (by rfl) T.m_law_heard T.F_law_heard T.b_law_heard sc_law_heard rfl (by first | exact .inl rfl | exact .inr rfl) (fun cdv => gives_law_heard T rfl rfl) TB.tb_law rfl (T.tbm_law _ rfl) T.tbu_law (hr.mono (by decide)) (LamX.lamS_by (by show LamX.lamSB (defScope st_law) _ = true; decide +kernel)) rfl (fun _ _ _ _ _ => rfl) (fun A outer s H E f c' B hr => by exact de_call (ps := ["row"]) (fn := f_rounds) (ok_rounds T) (hr.mono (by decide)) (by rfl) T.m_rounds T.F_rounds.kp T.b_rounds (passS (pass_own rfl rfl rfl rfl)) (da_cons (do_of (de_var (pv 5))) (da_nil))))) (da_nil))) (.inr rfl)) (ds_cons (ds_expr (by refine de_meth PySem.F.slot_list_append PySem.F.type_list_append mt_append p_append (pv 4) ?_; exact (da_cons (do_of (by exact de_lam (k := 5) (Ng := N_law_heard) (by rfl) T.m_law_heard T.F_law_heard T.b_law_heard sc_law_heard rfl (by first | exact .inl rfl | exact .inr rfl) (fun cdv => gives_law_heard T rfl rfl) TB.tb_law rfl (T.tbm_law _ rfl) T.tbu_law (hr.mono (by decide)) (LamX.lamS_by (by show LamX.lamSB (defScope st_law) _ = true; decide +kernel)) rfl (fun _ _ _ _ _ => rfl) (fun A outer s H E f c' B hr => by exact de_call (ps := ["row"]) (fn := f_sign) (ok_sign T) (hr.mono (by decide)) (by rfl) T.m_sign T.F_sign.kp T.b_sign (passS (pass_own rfl rfl rfl rfl)) (da_cons (do_of (de_var (pv 5))) (da_nil))))) (da_nil)))) (ds_one (ds_ret (de_and (de_cmp (op_eqD hr.units) (p_eq rfl) (do_var (pv 4)) (do_of (de_lst (da_cons (do_of (de_con pe_str (fun _ => .str _))) (da_cons (do_of (de_con pe_str (fun _ => .str _))) (da_nil))))) (nomark _)) (de_and (de_cmp (op_eqD hr.units) (p_eq rfl) (do_of (by exact de_call (ps := ["row"]) (fn := f_rounds) (ok_rounds T) (hr.mono (by decide)) (by rfl) T.m_rounds T.F_rounds.kp T.b_rounds (passS (pass_own rfl rfl rfl rfl)) (da_cons (do_of (de_lst (da_cons (do_of (de_con pe_int (fun _ => .int _))) (da_nil)))) (da_nil)))) (do_of (de_tup (da_cons (do_of (de_tup (da_cons (do_of (de_con pe_int (fun _ => .int _))) (da_nil)))) (da_nil)))) (nomark _)) (de_one (de_cmp (op_eqD hr.units) (p_eq rfl) (do_of (by exact de_call (ps := ["row"]) (fn := f_sign) (ok_sign T) (hr.mono (by decide)) (by rfl) T.m_sign T.F_sign.kp T.b_sign (passS (pass_own rfl rfl rfl rfl)) (da_cons (do_of (de_tup (da_cons (do_of (de_con pe_int (fun _ => .int _))) (da_nil)))) (da_nil)))) (do_of (de_con pe_int (fun _ => .int _))) (nomark _))))))))))
end
def tab_mk {K : PySem.W.Frag} {h : Heap} {mg : Str → Option Value} (X : K.In h) (G : h.Ns mainGlobals mg)
    {f0 : Addr} {od0 an0 : Option Addr} {sl0 : Array (Option Value)} {oc0 kV0 dc0 pm0 ct0 : Value}
    {cd0 : Value}
    {f1 : Addr} {od1 an1 : Option Addr} {sl1 : Array (Option Value)} {oc1 kV1 dc1 pm1 ct1 : Value}
    {cd1 : Value}
    {f2 : Addr} {od2 an2 : Option Addr} {sl2 : Array (Option Value)} {oc2 kV2 dc2 pm2 ct2 : Value}
    {cd2 : Value}
    {f3 : Addr} {od3 an3 : Option Addr} {sl3 : Array (Option Value)} {oc3 kV3 dc3 pm3 ct3 : Value}
    {cd3 : Value}
    {f4 : Addr} {od4 an4 : Option Addr} {sl4 : Array (Option Value)} {oc4 kV4 dc4 pm4 ct4 : Value}
    {cd4 : Value}
    {f5 : Addr} {od5 an5 : Option Addr} {sl5 : Array (Option Value)} {oc5 kV5 dc5 pm5 ct5 : Value}
    {cd5 : Value}
    {f6 : Addr} {od6 an6 : Option Addr} {sl6 : Array (Option Value)} {oc6 kV6 dc6 pm6 ct6 : Value}
    {cd6 : Value}
    {f7 : Addr} {od7 an7 : Option Addr} {sl7 : Array (Option Value)} {oc7 kV7 dc7 pm7 ct7 : Value}
    {cd7 : Value}
    {f8 : Addr} {od8 an8 : Option Addr} {sl8 : Array (Option Value)} {oc8 kV8 dc8 pm8 ct8 : Value}
    {cd8 : Value}
    {f9 : Addr} {od9 an9 : Option Addr} {sl9 : Array (Option Value)} {oc9 kV9 dc9 pm9 ct9 : Value}
    {cd9 : Value}
    {f10 : Addr} {od10 an10 : Option Addr} {sl10 : Array (Option Value)} {oc10 kV10 dc10 pm10 ct10 : Value}
    {cd10 : Value}
    {f11 : Addr} {od11 an11 : Option Addr} {sl11 : Array (Option Value)} {oc11 kV11 dc11 pm11 ct11 : Value}
    {cd11 : Value}
    {f12 : Addr} {od12 an12 : Option Addr} {sl12 : Array (Option Value)} {oc12 kV12 dc12 pm12 ct12 : Value}
    {cd12 : Value}
    {f13 : Addr} {od13 an13 : Option Addr} {sl13 : Array (Option Value)} {oc13 kV13 dc13 pm13 ct13 : Value}
    {cd13 : Value}
    {f14 : Addr} {od14 an14 : Option Addr} {sl14 : Array (Option Value)} {oc14 kV14 dc14 pm14 ct14 : Value}
    {cd14 : Value}
    {f15 : Addr} {od15 an15 : Option Addr} {sl15 : Array (Option Value)} {oc15 kV15 dc15 pm15 ct15 : Value}
    {cd15 : Value}
    {f16 : Addr} {od16 an16 : Option Addr} {sl16 : Array (Option Value)} {oc16 kV16 dc16 pm16 ct16 : Value}
    {cd16 : Value}
    {f17 : Addr} {od17 an17 : Option Addr} {sl17 : Array (Option Value)} {oc17 kV17 dc17 pm17 ct17 : Value}
    {cd17 : Value}
    {f18 : Addr} {od18 an18 : Option Addr} {sl18 : Array (Option Value)} {oc18 kV18 dc18 pm18 ct18 : Value}
    {cd18 : Value}
    {f19 : Addr} {od19 an19 : Option Addr} {sl19 : Array (Option Value)} {oc19 kV19 dc19 pm19 ct19 : Value}
    {cd19 : Value}
    {f20 : Addr} {od20 an20 : Option Addr} {sl20 : Array (Option Value)} {oc20 kV20 dc20 pm20 ct20 : Value}
    {cd20 : Value}
    {f21 : Addr} {od21 an21 : Option Addr} {sl21 : Array (Option Value)} {oc21 kV21 dc21 pm21 ct21 : Value}
    {cd21 : Value}
    {f22 : Addr} {od22 an22 : Option Addr} {sl22 : Array (Option Value)} {oc22 kV22 dc22 pm22 ct22 : Value}
    {cd22 : Value}
    {f23 : Addr} {od23 an23 : Option Addr} {sl23 : Array (Option Value)} {oc23 kV23 dc23 pm23 ct23 : Value}
    {cd23 : Value}
    {f24 : Addr} {od24 an24 : Option Addr} {sl24 : Array (Option Value)} {oc24 kV24 dc24 pm24 ct24 : Value}
    {cc24 P24 : Addr} {oC24 : Value} {oD24 : Option Addr} {oS24 : Array (Option Value)} {vs24 : Array Value}
    {f25 : Addr} {od25 an25 : Option Addr} {sl25 : Array (Option Value)} {oc25 kV25 dc25 pm25 ct25 : Value}
    {cd25 : Value}
    {X_SizeError : Addr}
    {X_BadWiring : Addr}
    {nm_BadWiring qn_BadWiring : Str} {N_BadWiring : Addr} {bs_BadWiring : List Value} {sn_BadWiring : List Str} {su_BadWiring : List Value} {ab_BadWiring : Bool} {co_BadWiring : Option Bool} {dd_BadWiring : Option Addr} {m0_BadWiring m1_BadWiring m2_BadWiring m3_BadWiring m5_BadWiring : Option Value}
    {I_BadWiring : Addr} {oi_BadWiring ki_BadWiring di_BadWiring pi_BadWiring ci_BadWiring ti_BadWiring : Value} {odi_BadWiring ani_BadWiring : Option Addr} {sli_BadWiring : Array (Option Value)}
    {X_Misfit : Addr}
    {nm_Misfit qn_Misfit : Str} {N_Misfit : Addr} {bs_Misfit : List Value} {sn_Misfit : List Str} {su_Misfit : List Value} {ab_Misfit : Bool} {co_Misfit : Option Bool} {dd_Misfit : Option Addr} {m0_Misfit m1_Misfit m2_Misfit m3_Misfit m5_Misfit : Option Value}
    {I_Misfit : Addr} {oi_Misfit ki_Misfit di_Misfit pi_Misfit ci_Misfit ti_Misfit : Value} {odi_Misfit ani_Misfit : Option Addr} {sli_Misfit : Array (Option Value)}
    {X_TooMany : Addr}
    {nm_TooMany qn_TooMany : Str} {N_TooMany : Addr} {bs_TooMany : List Value} {sn_TooMany : List Str} {su_TooMany : List Value} {ab_TooMany : Bool} {co_TooMany : Option Bool} {dd_TooMany : Option Addr} {m0_TooMany m1_TooMany m2_TooMany m3_TooMany m5_TooMany : Option Value}
    {I_TooMany : Addr} {oi_TooMany ki_TooMany di_TooMany pi_TooMany ci_TooMany ti_TooMany : Value} {odi_TooMany ani_TooMany : Option Addr} {sli_TooMany : Array (Option Value)}
    {tk_MOST_WIRES : Tok}
    (a0 : PySem.W.nsIn K mainGlobals "_law_mug" = some (some (.ref f0)))
    (l0 : K.lookup f0 = some ⟨oc0, od0, .func (PySem.W.fnOf "_law_mug" "_law_mug" (defArgs st_law_mug) (defBody st_law_mug) (defScope st_law_mug) .none kV0 dc0 pm0 an0 cd0 ct0), sl0⟩)
    (c0 : PySem.W.codeIn K cd0 "_law_mug" = true)
    (k0 : PySem.W.keepIn K (.ref f0) = true)
    (a1 : PySem.W.nsIn K mainGlobals "_law_sip" = some (some (.ref f1)))
    (l1 : K.lookup f1 = some ⟨oc1, od1, .func (PySem.W.fnOf "_law_sip" "_law_sip" (defArgs st_law_sip) (defBody st_law_sip) (defScope st_law_sip) .none kV1 dc1 pm1 an1 cd1 ct1), sl1⟩)
    (c1 : PySem.W.codeIn K cd1 "_law_sip" = true)
    (k1 : PySem.W.keepIn K (.ref f1) = true)
    (a2 : PySem.W.nsIn K mainGlobals "_law_one_of" = some (some (.ref f2)))
    (l2 : K.lookup f2 = some ⟨oc2, od2, .func (PySem.W.fnOf "_law_one_of" "_law_one_of" (defArgs st_law_one_of) (defBody st_law_one_of) (defScope st_law_one_of) .none kV2 dc2 pm2 an2 cd2 ct2), sl2⟩)
    (c2 : PySem.W.codeIn K cd2 "_law_one_of" = true)
    (k2 : PySem.W.keepIn K (.ref f2) = true)
    (a3 : PySem.W.nsIn K mainGlobals "_law_row" = some (some (.ref f3)))
    (l3 : K.lookup f3 = some ⟨oc3, od3, .func (PySem.W.fnOf "_law_row" "_law_row" (defArgs st_law_row) (defBody st_law_row) (defScope st_law_row) .none kV3 dc3 pm3 an3 cd3 ct3), sl3⟩)
    (c3 : PySem.W.codeIn K cd3 "_law_row" = true)
    (k3 : PySem.W.keepIn K (.ref f3) = true)
    (a4 : PySem.W.nsIn K mainGlobals "rounds_of" = some (some (.ref f4)))
    (l4 : K.lookup f4 = some ⟨oc4, od4, .func (PySem.W.fnOf "rounds_of" "rounds_of" (defArgs st_rounds_of) (defBody st_rounds_of) (defScope st_rounds_of) .none kV4 dc4 pm4 an4 cd4 ct4), sl4⟩)
    (c4 : PySem.W.codeIn K cd4 "rounds_of" = true)
    (k4 : PySem.W.keepIn K (.ref f4) = true)
    (a5 : PySem.W.nsIn K mainGlobals "is_integer" = some (some (.ref f5)))
    (l5 : K.lookup f5 = some ⟨oc5, od5, .func (PySem.W.fnOf "is_integer" "is_integer" (defArgs st_is_integer) (defBody st_is_integer) (defScope st_is_integer) .none kV5 dc5 pm5 an5 cd5 ct5), sl5⟩)
    (c5 : PySem.W.codeIn K cd5 "is_integer" = true)
    (k5 : PySem.W.keepIn K (.ref f5) = true)
    (a6 : PySem.W.nsIn K mainGlobals "is_numbers" = some (some (.ref f6)))
    (l6 : K.lookup f6 = some ⟨oc6, od6, .func (PySem.W.fnOf "is_numbers" "is_numbers" (defArgs st_is_numbers) (defBody st_is_numbers) (defScope st_is_numbers) .none kV6 dc6 pm6 an6 cd6 ct6), sl6⟩)
    (c6 : PySem.W.codeIn K cd6 "is_numbers" = true)
    (k6 : PySem.W.keepIn K (.ref f6) = true)
    (a7 : PySem.W.nsIn K mainGlobals "is_wiring" = some (some (.ref f7)))
    (l7 : K.lookup f7 = some ⟨oc7, od7, .func (PySem.W.fnOf "is_wiring" "is_wiring" (defArgs st_is_wiring) (defBody st_is_wiring) (defScope st_is_wiring) .none kV7 dc7 pm7 an7 cd7 ct7), sl7⟩)
    (c7 : PySem.W.codeIn K cd7 "is_wiring" = true)
    (k7 : PySem.W.keepIn K (.ref f7) = true)
    (a8 : PySem.W.nsIn K mainGlobals "need_wiring" = some (some (.ref f8)))
    (l8 : K.lookup f8 = some ⟨oc8, od8, .func (PySem.W.fnOf "need_wiring" "need_wiring" (defArgs st_need_wiring) (defBody st_need_wiring) (defScope st_need_wiring) .none kV8 dc8 pm8 an8 cd8 ct8), sl8⟩)
    (c8 : PySem.W.codeIn K cd8 "need_wiring" = true)
    (k8 : PySem.W.keepIn K (.ref f8) = true)
    (a9 : PySem.W.nsIn K mainGlobals "rounds" = some (some (.ref f9)))
    (l9 : K.lookup f9 = some ⟨oc9, od9, .func (PySem.W.fnOf "rounds" "rounds" (defArgs st_rounds) (defBody st_rounds) (defScope st_rounds) .none kV9 dc9 pm9 an9 cd9 ct9), sl9⟩)
    (c9 : PySem.W.codeIn K cd9 "rounds" = true)
    (k9 : PySem.W.keepIn K (.ref f9) = true)
    (a10 : PySem.W.nsIn K mainGlobals "sign_of" = some (some (.ref f10)))
    (l10 : K.lookup f10 = some ⟨oc10, od10, .func (PySem.W.fnOf "sign_of" "sign_of" (defArgs st_sign_of) (defBody st_sign_of) (defScope st_sign_of) .none kV10 dc10 pm10 an10 cd10 ct10), sl10⟩)
    (c10 : PySem.W.codeIn K cd10 "sign_of" = true)
    (k10 : PySem.W.keepIn K (.ref f10) = true)
    (a11 : PySem.W.nsIn K mainGlobals "sign" = some (some (.ref f11)))
    (l11 : K.lookup f11 = some ⟨oc11, od11, .func (PySem.W.fnOf "sign" "sign" (defArgs st_sign) (defBody st_sign) (defScope st_sign) .none kV11 dc11 pm11 an11 cd11 ct11), sl11⟩)
    (c11 : PySem.W.codeIn K cd11 "sign" = true)
    (k11 : PySem.W.keepIn K (.ref f11) = true)
    (a12 : PySem.W.nsIn K mainGlobals "_law_rounds" = some (some (.ref f12)))
    (l12 : K.lookup f12 = some ⟨oc12, od12, .func (PySem.W.fnOf "_law_rounds" "_law_rounds" (defArgs st_law_rounds) (defBody st_law_rounds) (defScope st_law_rounds) .none kV12 dc12 pm12 an12 cd12 ct12), sl12⟩)
    (c12 : PySem.W.codeIn K cd12 "_law_rounds" = true)
    (k12 : PySem.W.keepIn K (.ref f12) = true)
    (a13 : PySem.W.nsIn K mainGlobals "_law_sign" = some (some (.ref f13)))
    (l13 : K.lookup f13 = some ⟨oc13, od13, .func (PySem.W.fnOf "_law_sign" "_law_sign" (defArgs st_law_sign) (defBody st_law_sign) (defScope st_law_sign) .none kV13 dc13 pm13 an13 cd13 ct13), sl13⟩)
    (c13 : PySem.W.codeIn K cd13 "_law_sign" = true)
    (k13 : PySem.W.keepIn K (.ref f13) = true)
    (a14 : PySem.W.nsIn K mainGlobals "back_of" = some (some (.ref f14)))
    (l14 : K.lookup f14 = some ⟨oc14, od14, .func (PySem.W.fnOf "back_of" "back_of" (defArgs st_back_of) (defBody st_back_of) (defScope st_back_of) .none kV14 dc14 pm14 an14 cd14 ct14), sl14⟩)
    (c14 : PySem.W.codeIn K cd14 "back_of" = true)
    (k14 : PySem.W.keepIn K (.ref f14) = true)
    (a15 : PySem.W.nsIn K mainGlobals "back" = some (some (.ref f15)))
    (l15 : K.lookup f15 = some ⟨oc15, od15, .func (PySem.W.fnOf "back" "back" (defArgs st_back) (defBody st_back) (defScope st_back) .none kV15 dc15 pm15 an15 cd15 ct15), sl15⟩)
    (c15 : PySem.W.codeIn K cd15 "back" = true)
    (k15 : PySem.W.keepIn K (.ref f15) = true)
    (a16 : PySem.W.nsIn K mainGlobals "_law_one_right" = some (some (.ref f16)))
    (l16 : K.lookup f16 = some ⟨oc16, od16, .func (PySem.W.fnOf "_law_one_right" "_law_one_right" (defArgs st_law_one_right) (defBody st_law_one_right) (defScope st_law_one_right) .none kV16 dc16 pm16 an16 cd16 ct16), sl16⟩)
    (c16 : PySem.W.codeIn K cd16 "_law_one_right" = true)
    (k16 : PySem.W.keepIn K (.ref f16) = true)
    (a17 : PySem.W.nsIn K mainGlobals "behind_of" = some (some (.ref f17)))
    (l17 : K.lookup f17 = some ⟨oc17, od17, .func (PySem.W.fnOf "behind_of" "behind_of" (defArgs st_behind_of) (defBody st_behind_of) (defScope st_behind_of) .none kV17 dc17 pm17 an17 cd17 ct17), sl17⟩)
    (c17 : PySem.W.codeIn K cd17 "behind_of" = true)
    (k17 : PySem.W.keepIn K (.ref f17) = true)
    (a18 : PySem.W.nsIn K mainGlobals "behind" = some (some (.ref f18)))
    (l18 : K.lookup f18 = some ⟨oc18, od18, .func (PySem.W.fnOf "behind" "behind" (defArgs st_behind) (defBody st_behind) (defScope st_behind) .none kV18 dc18 pm18 an18 cd18 ct18), sl18⟩)
    (c18 : PySem.W.codeIn K cd18 "behind" = true)
    (k18 : PySem.W.keepIn K (.ref f18) = true)
    (a19 : PySem.W.nsIn K mainGlobals "_law_renamed" = some (some (.ref f19)))
    (l19 : K.lookup f19 = some ⟨oc19, od19, .func (PySem.W.fnOf "_law_renamed" "_law_renamed" (defArgs st_law_renamed) (defBody st_law_renamed) (defScope st_law_renamed) .none kV19 dc19 pm19 an19 cd19 ct19), sl19⟩)
    (c19 : PySem.W.codeIn K cd19 "_law_renamed" = true)
    (k19 : PySem.W.keepIn K (.ref f19) = true)
    (a20 : PySem.W.nsIn K mainGlobals "_law_two_right" = some (some (.ref f20)))
    (l20 : K.lookup f20 = some ⟨oc20, od20, .func (PySem.W.fnOf "_law_two_right" "_law_two_right" (defArgs st_law_two_right) (defBody st_law_two_right) (defScope st_law_two_right) .none kV20 dc20 pm20 an20 cd20 ct20), sl20⟩)
    (c20 : PySem.W.codeIn K cd20 "_law_two_right" = true)
    (k20 : PySem.W.keepIn K (.ref f20) = true)
    (a21 : PySem.W.nsIn K mainGlobals "beside_of" = some (some (.ref f21)))
    (l21 : K.lookup f21 = some ⟨oc21, od21, .func (PySem.W.fnOf "beside_of" "beside_of" (defArgs st_beside_of) (defBody st_beside_of) (defScope st_beside_of) .none kV21 dc21 pm21 an21 cd21 ct21), sl21⟩)
    (c21 : PySem.W.codeIn K cd21 "beside_of" = true)
    (k21 : PySem.W.keepIn K (.ref f21) = true)
    (a22 : PySem.W.nsIn K mainGlobals "beside" = some (some (.ref f22)))
    (l22 : K.lookup f22 = some ⟨oc22, od22, .func (PySem.W.fnOf "beside" "beside" (defArgs st_beside) (defBody st_beside) (defScope st_beside) .none kV22 dc22 pm22 an22 cd22 ct22), sl22⟩)
    (c22 : PySem.W.codeIn K cd22 "beside" = true)
    (k22 : PySem.W.keepIn K (.ref f22) = true)
    (a23 : PySem.W.nsIn K mainGlobals "_law_beside_right" = some (some (.ref f23)))
    (l23 : K.lookup f23 = some ⟨oc23, od23, .func (PySem.W.fnOf "_law_beside_right" "_law_beside_right" (defArgs st_law_beside_right) (defBody st_law_beside_right) (defScope st_law_beside_right) .none kV23 dc23 pm23 an23 cd23 ct23), sl23⟩)
    (c23 : PySem.W.codeIn K cd23 "_law_beside_right" = true)
    (k23 : PySem.W.keepIn K (.ref f23) = true)
    (a24 : PySem.W.nsIn K mainGlobals "law" = some (some (.ref f24)))
    (l24 : K.lookup f24 = some ⟨oc24, od24, .func (PySem.W.fnOf "law" "law" (defArgs st_law) (defBody st_law) (defScope st_law) .none kV24 dc24 pm24 an24 (.ref cc24) ct24), sl24⟩)
    (c24 : PySem.W.codeIn K (.ref cc24) "law" = true)
    (k24 : PySem.W.keepIn K (.ref f24) = true)
    (lc24 : K.lookup cc24 = some ⟨oC24, oD24, .fields vs24, oS24⟩)
    (v24 : vs24[11]? = some (.ref P24))
    (a25 : PySem.W.nsIn K mainGlobals "_law_heard" = some (some (.ref f25)))
    (l25 : K.lookup f25 = some ⟨oc25, od25, .func (PySem.W.fnOf "_law_heard" "_law_heard" (defArgs st_law_heard) (defBody st_law_heard) (defScope st_law_heard) .none kV25 dc25 pm25 an25 cd25 ct25), sl25⟩)
    (c25 : PySem.W.codeIn K cd25 "_law_heard" = true)
    (k25 : PySem.W.keepIn K (.ref f25) = true)
    (xa_SizeError : PySem.W.nsIn K mainGlobals "SizeError" = some (some (.ref X_SizeError)))
    (eC_SizeError : PySem.W.subIn K (.ref X_SizeError) (.type "BaseException") = some true)
    (tC_SizeError : PySem.W.typeIn K (.ref X_SizeError) = some (.type "type"))
    (hC_SizeError : PySem.W.hasDictIn K X_SizeError = true)
    (sC_SizeError : PySem.W.subIn K (.ref X_SizeError) (.ref X_SizeError) = some true)
    (xa_BadWiring : PySem.W.nsIn K mainGlobals "BadWiring" = some (some (.ref X_BadWiring)))
    (eC_BadWiring : PySem.W.subIn K (.ref X_BadWiring) (.type "BaseException") = some true)
    (tC_BadWiring : PySem.W.typeIn K (.ref X_BadWiring) = some (.type "type"))
    (hC_BadWiring : PySem.W.hasDictIn K X_BadWiring = true)
    (sC_BadWiring : PySem.W.subIn K (.ref X_BadWiring) (.ref X_BadWiring) = some true)
    (xl_BadWiring : K.lookup X_BadWiring = some (excClassObj nm_BadWiring qn_BadWiring X_BadWiring N_BadWiring bs_BadWiring [.ref X_SizeError, .type "ValueError", .type "Exception", .type "BaseException", .type "object"] true sn_BadWiring su_BadWiring ab_BadWiring co_BadWiring dd_BadWiring m0_BadWiring m1_BadWiring m2_BadWiring m3_BadWiring m5_BadWiring "ValueError.__new__"))
    (sa_BadWiring : PySem.W.findIn K (.ref X_BadWiring) "__setattr__" = some (some (.builtin "object.__setattr__")))
    (ga_BadWiring : PySem.W.findIn K (.ref X_BadWiring) "__getattribute__" = some (some (.builtin "BaseException.__getattribute__")))
    (gg_BadWiring : PySem.W.findIn K (.ref X_BadWiring) "__getattr__" = some none)
    (cl_BadWiring : PySem.W.findIn K (.ref X_BadWiring) "__class__" = some (some (.builtin "object.__class__")))
    (kC_BadWiring : PySem.W.keepIn K (.ref X_BadWiring) = true)
    (mo_BadWiring : PySem.W.mroIn K X_BadWiring (.type "object") = some true)
    (in_BadWiring : PySem.W.findIn K (.ref X_BadWiring) "__init__" = some (some (.ref I_BadWiring)))
    (it_BadWiring : PySem.W.typeIn K (.ref I_BadWiring) = some (.type "function"))
    (il_BadWiring : K.lookup I_BadWiring = some ⟨oi_BadWiring, odi_BadWiring, .func (PySem.W.fnOf "__init__" "BadWiring.__init__" (defArgs st_init_BadWiring) (defBody st_init_BadWiring) (defScope st_init_BadWiring) .none ki_BadWiring di_BadWiring pi_BadWiring ani_BadWiring ci_BadWiring ti_BadWiring), sli_BadWiring⟩)
    (ik_BadWiring : PySem.W.keepIn K (.ref I_BadWiring) = true)
    (ic_BadWiring : PySem.W.codeIn K ci_BadWiring "BadWiring.__init__" = true)
    (no_BadWiring_part : PySem.W.findIn K (.ref X_BadWiring) "part" = some none)
    (xa_Misfit : PySem.W.nsIn K mainGlobals "Misfit" = some (some (.ref X_Misfit)))
    (eC_Misfit : PySem.W.subIn K (.ref X_Misfit) (.type "BaseException") = some true)
    (tC_Misfit : PySem.W.typeIn K (.ref X_Misfit) = some (.type "type"))
    (hC_Misfit : PySem.W.hasDictIn K X_Misfit = true)
    (sC_Misfit : PySem.W.subIn K (.ref X_Misfit) (.ref X_Misfit) = some true)
    (xl_Misfit : K.lookup X_Misfit = some (excClassObj nm_Misfit qn_Misfit X_Misfit N_Misfit bs_Misfit [.ref X_SizeError, .type "ValueError", .type "Exception", .type "BaseException", .type "object"] true sn_Misfit su_Misfit ab_Misfit co_Misfit dd_Misfit m0_Misfit m1_Misfit m2_Misfit m3_Misfit m5_Misfit "ValueError.__new__"))
    (sa_Misfit : PySem.W.findIn K (.ref X_Misfit) "__setattr__" = some (some (.builtin "object.__setattr__")))
    (ga_Misfit : PySem.W.findIn K (.ref X_Misfit) "__getattribute__" = some (some (.builtin "BaseException.__getattribute__")))
    (gg_Misfit : PySem.W.findIn K (.ref X_Misfit) "__getattr__" = some none)
    (cl_Misfit : PySem.W.findIn K (.ref X_Misfit) "__class__" = some (some (.builtin "object.__class__")))
    (kC_Misfit : PySem.W.keepIn K (.ref X_Misfit) = true)
    (mo_Misfit : PySem.W.mroIn K X_Misfit (.type "object") = some true)
    (in_Misfit : PySem.W.findIn K (.ref X_Misfit) "__init__" = some (some (.ref I_Misfit)))
    (it_Misfit : PySem.W.typeIn K (.ref I_Misfit) = some (.type "function"))
    (il_Misfit : K.lookup I_Misfit = some ⟨oi_Misfit, odi_Misfit, .func (PySem.W.fnOf "__init__" "Misfit.__init__" (defArgs st_init_Misfit) (defBody st_init_Misfit) (defScope st_init_Misfit) .none ki_Misfit di_Misfit pi_Misfit ani_Misfit ci_Misfit ti_Misfit), sli_Misfit⟩)
    (ik_Misfit : PySem.W.keepIn K (.ref I_Misfit) = true)
    (ic_Misfit : PySem.W.codeIn K ci_Misfit "Misfit.__init__" = true)
    (no_Misfit_part : PySem.W.findIn K (.ref X_Misfit) "part" = some none)
    (xa_TooMany : PySem.W.nsIn K mainGlobals "TooMany" = some (some (.ref X_TooMany)))
    (eC_TooMany : PySem.W.subIn K (.ref X_TooMany) (.type "BaseException") = some true)
    (tC_TooMany : PySem.W.typeIn K (.ref X_TooMany) = some (.type "type"))
    (hC_TooMany : PySem.W.hasDictIn K X_TooMany = true)
    (sC_TooMany : PySem.W.subIn K (.ref X_TooMany) (.ref X_TooMany) = some true)
    (xl_TooMany : K.lookup X_TooMany = some (excClassObj nm_TooMany qn_TooMany X_TooMany N_TooMany bs_TooMany [.ref X_SizeError, .type "ValueError", .type "Exception", .type "BaseException", .type "object"] true sn_TooMany su_TooMany ab_TooMany co_TooMany dd_TooMany m0_TooMany m1_TooMany m2_TooMany m3_TooMany m5_TooMany "ValueError.__new__"))
    (sa_TooMany : PySem.W.findIn K (.ref X_TooMany) "__setattr__" = some (some (.builtin "object.__setattr__")))
    (ga_TooMany : PySem.W.findIn K (.ref X_TooMany) "__getattribute__" = some (some (.builtin "BaseException.__getattribute__")))
    (gg_TooMany : PySem.W.findIn K (.ref X_TooMany) "__getattr__" = some none)
    (cl_TooMany : PySem.W.findIn K (.ref X_TooMany) "__class__" = some (some (.builtin "object.__class__")))
    (kC_TooMany : PySem.W.keepIn K (.ref X_TooMany) = true)
    (mo_TooMany : PySem.W.mroIn K X_TooMany (.type "object") = some true)
    (in_TooMany : PySem.W.findIn K (.ref X_TooMany) "__init__" = some (some (.ref I_TooMany)))
    (it_TooMany : PySem.W.typeIn K (.ref I_TooMany) = some (.type "function"))
    (il_TooMany : K.lookup I_TooMany = some ⟨oi_TooMany, odi_TooMany, .func (PySem.W.fnOf "__init__" "TooMany.__init__" (defArgs st_init_TooMany) (defBody st_init_TooMany) (defScope st_init_TooMany) .none ki_TooMany di_TooMany pi_TooMany ani_TooMany ci_TooMany ti_TooMany), sli_TooMany⟩)
    (ik_TooMany : PySem.W.keepIn K (.ref I_TooMany) = true)
    (ic_TooMany : PySem.W.codeIn K ci_TooMany "TooMany.__init__" = true)
    (no_TooMany_what : PySem.W.findIn K (.ref X_TooMany) "what" = some none)
    (no_TooMany_most : PySem.W.findIn K (.ref X_TooMany) "most" = some none)
    (sN_BadWiring : PySem.W.subIn K (.type "NoneType") (.ref X_BadWiring) = some false)
    (s_Misfit_BadWiring : PySem.W.subIn K (.ref X_Misfit) (.ref X_BadWiring) = some false)
    (s_TooMany_BadWiring : PySem.W.subIn K (.ref X_TooMany) (.ref X_BadWiring) = some false)
    (s_BadWiring_SizeError : PySem.W.subIn K (.ref X_BadWiring) (.ref X_SizeError) = some true)
    (s_Misfit_SizeError : PySem.W.subIn K (.ref X_Misfit) (.ref X_SizeError) = some true)
    (s_TooMany_SizeError : PySem.W.subIn K (.ref X_TooMany) (.ref X_SizeError) = some true)
    (spG : PySem.W.specialIn K (.builtin "object.__class__") "__get__" = some (some (.builtin "getset_descriptor.__get__")))
    (tkG : PySem.W.takesIn K (.builtin "object.__class__") = some true)
    (z_abs : PySem.W.nsIn K mainGlobals "abs" = some none)
    (z_all : PySem.W.nsIn K mainGlobals "all" = some none)
    (z_bool : PySem.W.nsIn K mainGlobals "bool" = some none)
    (z_enumerate : PySem.W.nsIn K mainGlobals "enumerate" = some none)
    (z_int : PySem.W.nsIn K mainGlobals "int" = some none)
    (z_isinstance : PySem.W.nsIn K mainGlobals "isinstance" = some none)
    (z_len : PySem.W.nsIn K mainGlobals "len" = some none)
    (z_list : PySem.W.nsIn K mainGlobals "list" = some none)
    (z_min : PySem.W.nsIn K mainGlobals "min" = some none)
    (z_range : PySem.W.nsIn K mainGlobals "range" = some none)
    (z_sorted : PySem.W.nsIn K mainGlobals "sorted" = some none)
    (z_sum : PySem.W.nsIn K mainGlobals "sum" = some none)
    (z_tuple : PySem.W.nsIn K mainGlobals "tuple" = some none)
    (g_MOST_WIRES : PySem.W.nsIn K mainGlobals "MOST_WIRES" = some (some (.int 6 tk_MOST_WIRES))) : Tab K mg where
  X_SizeError := X_SizeError
  G_SizeError := PySem.W.mg_of X G xa_SizeError
  X_BadWiring := X_BadWiring
  G_BadWiring := PySem.W.mg_of X G xa_BadWiring
  I_BadWiring := I_BadWiring
  DI_BadWiring := _
  FI_BadWiring := fun_mk (st := st_init_BadWiring) il_BadWiring ic_BadWiring ik_BadWiring
  B_BadWiring := (fun_mk (st := st_init_BadWiring) il_BadWiring ic_BadWiring ik_BadWiring).binds (ps := ["self", "part"]) fun _ _ _ _ _ _ us hl => match us, hl with | [_, _], _ => rfl
  E_BadWiring := ⟨PySem.W.mg_of X G xa_BadWiring, oex_mk xl_BadWiring (by show PySem.HandSPX.refsVE [.type "ValueError", .type "Exception", .type "BaseException", .type "object"] = true; decide +kernel) sa_BadWiring eC_BadWiring tC_BadWiring kC_BadWiring, ⟨ga_BadWiring, gg_BadWiring, eC_BadWiring, hC_BadWiring, cl_BadWiring, spG, tkG, mo_BadWiring⟩, in_BadWiring, it_BadWiring⟩
  no_BadWiring_part := no_BadWiring_part
  X_Misfit := X_Misfit
  G_Misfit := PySem.W.mg_of X G xa_Misfit
  I_Misfit := I_Misfit
  DI_Misfit := _
  FI_Misfit := fun_mk (st := st_init_Misfit) il_Misfit ic_Misfit ik_Misfit
  B_Misfit := (fun_mk (st := st_init_Misfit) il_Misfit ic_Misfit ik_Misfit).binds (ps := ["self", "part"]) fun _ _ _ _ _ _ us hl => match us, hl with | [_, _], _ => rfl
  E_Misfit := ⟨PySem.W.mg_of X G xa_Misfit, oex_mk xl_Misfit (by show PySem.HandSPX.refsVE [.type "ValueError", .type "Exception", .type "BaseException", .type "object"] = true; decide +kernel) sa_Misfit eC_Misfit tC_Misfit kC_Misfit, ⟨ga_Misfit, gg_Misfit, eC_Misfit, hC_Misfit, cl_Misfit, spG, tkG, mo_Misfit⟩, in_Misfit, it_Misfit⟩
  no_Misfit_part := no_Misfit_part
  X_TooMany := X_TooMany
  G_TooMany := PySem.W.mg_of X G xa_TooMany
  I_TooMany := I_TooMany
  DI_TooMany := _
  FI_TooMany := fun_mk (st := st_init_TooMany) il_TooMany ic_TooMany ik_TooMany
  B_TooMany := (fun_mk (st := st_init_TooMany) il_TooMany ic_TooMany ik_TooMany).binds (ps := ["self", "what", "most"]) fun _ _ _ _ _ _ us hl => match us, hl with | [_, _, _], _ => rfl
  E_TooMany := ⟨PySem.W.mg_of X G xa_TooMany, oex_mk xl_TooMany (by show PySem.HandSPX.refsVE [.type "ValueError", .type "Exception", .type "BaseException", .type "object"] = true; decide +kernel) sa_TooMany eC_TooMany tC_TooMany kC_TooMany, ⟨ga_TooMany, gg_TooMany, eC_TooMany, hC_TooMany, cl_TooMany, spG, tkG, mo_TooMany⟩, in_TooMany, it_TooMany⟩
  no_TooMany_what := no_TooMany_what
  no_TooMany_most := no_TooMany_most
  kitN_BadWiring := kit_ty2 hC_BadWiring tC_BadWiring sN_BadWiring
  kit_BadWiring_BadWiring := kit_own hC_BadWiring tC_BadWiring sC_BadWiring sC_BadWiring
  kit_Misfit_BadWiring := kit_own hC_BadWiring tC_BadWiring sC_BadWiring s_Misfit_BadWiring
  kit_TooMany_BadWiring := kit_own hC_BadWiring tC_BadWiring sC_BadWiring s_TooMany_BadWiring
  exm_BadWiring_SizeError := exm_own eC_SizeError hC_SizeError tC_SizeError s_BadWiring_SizeError
  exm_Misfit_SizeError := exm_own eC_SizeError hC_SizeError tC_SizeError s_Misfit_SizeError
  exm_TooMany_SizeError := exm_own eC_SizeError hC_SizeError tC_SizeError s_TooMany_SizeError
  a_law_mug := f0
  d_law_mug := _
  F_law_mug := fun_mk (st := st_law_mug) l0 c0 k0
  m_law_mug := PySem.W.mg_of X G a0
  b_law_mug := (fun_mk (st := st_law_mug) l0 c0 k0).binds (ps := ["_law_script"]) fun _ _ _ _ _ _ us hl => match us, hl with | [_], _ => rfl
  a_law_sip := f1
  d_law_sip := _
  F_law_sip := fun_mk (st := st_law_sip) l1 c1 k1
  m_law_sip := PySem.W.mg_of X G a1
  b_law_sip := (fun_mk (st := st_law_sip) l1 c1 k1).binds (ps := ["_law_mug_here", "_law_many"]) fun _ _ _ _ _ _ us hl => match us, hl with | [_, _], _ => rfl
  a_law_one_of := f2
  d_law_one_of := _
  F_law_one_of := fun_mk (st := st_law_one_of) l2 c2 k2
  m_law_one_of := PySem.W.mg_of X G a2
  b_law_one_of := (fun_mk (st := st_law_one_of) l2 c2 k2).binds (ps := ["_law_mug_here", "_law_some"]) fun _ _ _ _ _ _ us hl => match us, hl with | [_, _], _ => rfl
  a_law_row := f3
  d_law_row := _
  F_law_row := fun_mk (st := st_law_row) l3 c3 k3
  m_law_row := PySem.W.mg_of X G a3
  b_law_row := (fun_mk (st := st_law_row) l3 c3 k3).binds (ps := ["_law_mug_here", "_law_wires"]) fun _ _ _ _ _ _ us hl => match us, hl with | [_, _], _ => rfl
  a_rounds_of := f4
  d_rounds_of := _
  F_rounds_of := fun_mk (st := st_rounds_of) l4 c4 k4
  m_rounds_of := PySem.W.mg_of X G a4
  b_rounds_of := (fun_mk (st := st_rounds_of) l4 c4 k4).binds (ps := ["row"]) fun _ _ _ _ _ _ us hl => match us, hl with | [_], _ => rfl
  a_is_integer := f5
  d_is_integer := _
  F_is_integer := fun_mk (st := st_is_integer) l5 c5 k5
  m_is_integer := PySem.W.mg_of X G a5
  b_is_integer := (fun_mk (st := st_is_integer) l5 c5 k5).binds (ps := ["value"]) fun _ _ _ _ _ _ us hl => match us, hl with | [_], _ => rfl
  a_is_numbers := f6
  d_is_numbers := _
  F_is_numbers := fun_mk (st := st_is_numbers) l6 c6 k6
  m_is_numbers := PySem.W.mg_of X G a6
  b_is_numbers := (fun_mk (st := st_is_numbers) l6 c6 k6).binds (ps := ["value"]) fun _ _ _ _ _ _ us hl => match us, hl with | [_], _ => rfl
  a_is_wiring := f7
  d_is_wiring := _
  F_is_wiring := fun_mk (st := st_is_wiring) l7 c7 k7
  m_is_wiring := PySem.W.mg_of X G a7
  b_is_wiring := (fun_mk (st := st_is_wiring) l7 c7 k7).binds (ps := ["value"]) fun _ _ _ _ _ _ us hl => match us, hl with | [_], _ => rfl
  a_need_wiring := f8
  d_need_wiring := _
  F_need_wiring := fun_mk (st := st_need_wiring) l8 c8 k8
  m_need_wiring := PySem.W.mg_of X G a8
  b_need_wiring := (fun_mk (st := st_need_wiring) l8 c8 k8).binds (ps := ["value", "part"]) fun _ _ _ _ _ _ us hl => match us, hl with | [_, _], _ => rfl
  a_rounds := f9
  d_rounds := _
  F_rounds := fun_mk (st := st_rounds) l9 c9 k9
  m_rounds := PySem.W.mg_of X G a9
  b_rounds := (fun_mk (st := st_rounds) l9 c9 k9).binds (ps := ["row"]) fun _ _ _ _ _ _ us hl => match us, hl with | [_], _ => rfl
  a_sign_of := f10
  d_sign_of := _
  F_sign_of := fun_mk (st := st_sign_of) l10 c10 k10
  m_sign_of := PySem.W.mg_of X G a10
  b_sign_of := (fun_mk (st := st_sign_of) l10 c10 k10).binds (ps := ["row"]) fun _ _ _ _ _ _ us hl => match us, hl with | [_], _ => rfl
  a_sign := f11
  d_sign := _
  F_sign := fun_mk (st := st_sign) l11 c11 k11
  m_sign := PySem.W.mg_of X G a11
  b_sign := (fun_mk (st := st_sign) l11 c11 k11).binds (ps := ["row"]) fun _ _ _ _ _ _ us hl => match us, hl with | [_], _ => rfl
  a_law_rounds := f12
  d_law_rounds := _
  F_law_rounds := fun_mk (st := st_law_rounds) l12 c12 k12
  m_law_rounds := PySem.W.mg_of X G a12
  b_law_rounds := (fun_mk (st := st_law_rounds) l12 c12 k12).binds (ps := ["_law_row_here"]) fun _ _ _ _ _ _ us hl => match us, hl with | [_], _ => rfl
  a_law_sign := f13
  d_law_sign := _
  F_law_sign := fun_mk (st := st_law_sign) l13 c13 k13
  m_law_sign := PySem.W.mg_of X G a13
  b_law_sign := (fun_mk (st := st_law_sign) l13 c13 k13).binds (ps := ["_law_row_here"]) fun _ _ _ _ _ _ us hl => match us, hl with | [_], _ => rfl
  a_back_of := f14
  d_back_of := _
  F_back_of := fun_mk (st := st_back_of) l14 c14 k14
  m_back_of := PySem.W.mg_of X G a14
  b_back_of := (fun_mk (st := st_back_of) l14 c14 k14).binds (ps := ["row"]) fun _ _ _ _ _ _ us hl => match us, hl with | [_], _ => rfl
  a_back := f15
  d_back := _
  F_back := fun_mk (st := st_back) l15 c15 k15
  m_back := PySem.W.mg_of X G a15
  b_back := (fun_mk (st := st_back) l15 c15 k15).binds (ps := ["row"]) fun _ _ _ _ _ _ us hl => match us, hl with | [_], _ => rfl
  a_law_one_right := f16
  d_law_one_right := _
  F_law_one_right := fun_mk (st := st_law_one_right) l16 c16 k16
  m_law_one_right := PySem.W.mg_of X G a16
  b_law_one_right := (fun_mk (st := st_law_one_right) l16 c16 k16).binds (ps := ["_law_mug_here", "_law_wires"]) fun _ _ _ _ _ _ us hl => match us, hl with | [_, _], _ => rfl
  a_behind_of := f17
  d_behind_of := _
  F_behind_of := fun_mk (st := st_behind_of) l17 c17 k17
  m_behind_of := PySem.W.mg_of X G a17
  b_behind_of := (fun_mk (st := st_behind_of) l17 c17 k17).binds (ps := ["one", "other"]) fun _ _ _ _ _ _ us hl => match us, hl with | [_, _], _ => rfl
  a_behind := f18
  d_behind := _
  F_behind := fun_mk (st := st_behind) l18 c18 k18
  m_behind := PySem.W.mg_of X G a18
  b_behind := (fun_mk (st := st_behind) l18 c18 k18).binds (ps := ["one", "other"]) fun _ _ _ _ _ _ us hl => match us, hl with | [_, _], _ => rfl
  a_law_renamed := f19
  d_law_renamed := _
  F_law_renamed := fun_mk (st := st_law_renamed) l19 c19 k19
  m_law_renamed := PySem.W.mg_of X G a19
  b_law_renamed := (fun_mk (st := st_law_renamed) l19 c19 k19).binds (ps := ["_law_told", "_law_names"]) fun _ _ _ _ _ _ us hl => match us, hl with | [_, _], _ => rfl
  a_law_two_right := f20
  d_law_two_right := _
  F_law_two_right := fun_mk (st := st_law_two_right) l20 c20 k20
  m_law_two_right := PySem.W.mg_of X G a20
  b_law_two_right := (fun_mk (st := st_law_two_right) l20 c20 k20).binds (ps := ["_law_mug_here", "_law_wires"]) fun _ _ _ _ _ _ us hl => match us, hl with | [_, _], _ => rfl
  a_beside_of := f21
  d_beside_of := _
  F_beside_of := fun_mk (st := st_beside_of) l21 c21 k21
  m_beside_of := PySem.W.mg_of X G a21
  b_beside_of := (fun_mk (st := st_beside_of) l21 c21 k21).binds (ps := ["one", "other"]) fun _ _ _ _ _ _ us hl => match us, hl with | [_, _], _ => rfl
  a_beside := f22
  d_beside := _
  F_beside := fun_mk (st := st_beside) l22 c22 k22
  m_beside := PySem.W.mg_of X G a22
  b_beside := (fun_mk (st := st_beside) l22 c22 k22).binds (ps := ["one", "other"]) fun _ _ _ _ _ _ us hl => match us, hl with | [_, _], _ => rfl
  a_law_beside_right := f23
  d_law_beside_right := _
  F_law_beside_right := fun_mk (st := st_law_beside_right) l23 c23 k23
  m_law_beside_right := PySem.W.mg_of X G a23
  b_law_beside_right := (fun_mk (st := st_law_beside_right) l23 c23 k23).binds (ps := ["_law_mug_here"]) fun _ _ _ _ _ _ us hl => match us, hl with | [_], _ => rfl
  a_law := f24
  d_law := _
  cc_law := cc24
  P_law := P24
  FC_law := funC_mk (st := st_law) l24 c24
  kp_law := k24
  ti_law := tabIn_of a24 l24 lc24 v24
  m_law := PySem.W.mg_of X G a24
  b_law := (fun_mk (st := st_law) l24 c24 k24).binds (ps := ["_law_script"]) fun _ _ _ _ _ _ us hl => match us, hl with | [_], _ => rfl
  a_law_heard := f25
  d_law_heard := _
  F_law_heard := fun_mk (st := st_law_heard) l25 c25 k25
  m_law_heard := PySem.W.mg_of X G a25
  b_law_heard := (fun_mk (st := st_law_heard) l25 c25 k25).binds (ps := ["_law_ask"]) fun _ _ _ _ _ _ us hl => match us, hl with | [_], _ => rfl
  k_rounds_row := bindsK (fun_mk (st := st_rounds) l9 c9 k9) fun _ _ _ _ _ _ us ws h1 h2 => bk_rounds_row us ws h1 h2
  k_sign_row := bindsK (fun_mk (st := st_sign) l11 c11 k11) fun _ _ _ _ _ _ us ws h1 h2 => bk_sign_row us ws h1 h2
  z_abs := PySem.W.mg_none_of X G z_abs
  z_all := PySem.W.mg_none_of X G z_all
  z_bool := PySem.W.mg_none_of X G z_bool
  z_enumerate := PySem.W.mg_none_of X G z_enumerate
  z_int := PySem.W.mg_none_of X G z_int
  z_isinstance := PySem.W.mg_none_of X G z_isinstance
  z_len := PySem.W.mg_none_of X G z_len
  z_list := PySem.W.mg_none_of X G z_list
  z_min := PySem.W.mg_none_of X G z_min
  z_range := PySem.W.mg_none_of X G z_range
  z_sorted := PySem.W.mg_none_of X G z_sorted
  z_sum := PySem.W.mg_none_of X G z_sum
  z_tuple := PySem.W.mg_none_of X G z_tuple
  tk_MOST_WIRES := tk_MOST_WIRES
  c_MOST_WIRES := PySem.W.mg_of X G g_MOST_WIRES
theorem law_fact (hL : LawHolds) {l : PySem.W.OpenLaw} {w : World} {K : PySem.W.Frag} {mg : Str → Option Value} {fa : Addr} {h : Heap} (T : Tab K mg) (hfa : mg "law" = some (.ref fa)) (hb : ∀ (s : Shared) (v : Value), BindsTo s T.d_law ⟨[v], []⟩ [("_law_script", v)]) {q : Program} (own : Tabs0 q K h) (hR_law : ((recsOf q).any fun e => e.name == "law") = true) (hN_law : K.lookup T.P_law = none) :
    LamX.LawAtS l w K (L2.CX l.prog w) 8 63 "_law_script" mg fa h := by
  have e := hfa.symm.trans T.m_law
  cases e
  refine ⟨T.d_law, [(T.cc_law, T.P_law)], spLaw K T.tb, (fun p hp => by rw [List.mem_singleton.mp hp]; exact (own _ _ _ hR_law T.ti_law).2), (fun p hp => by rw [List.mem_singleton.mp hp]; exact hN_law), (fun p hp => by rw [List.mem_singleton.mp hp]; exact (own _ _ _ hR_law T.ti_law).1), hb, fun H a ns hl hbits hT hS => ⟨a, ns, rfl, hS, hl, hbits, fun p hp => by rw [List.mem_singleton.mp hp]; exact LamX.TabS.nil (hT _ List.mem_cons_self), fun _ => rfl⟩, fun base _ _ hB => ok_law hL T ⟨hB _ List.mem_cons_self⟩⟩
end K05

end
section
set_option Elab.async false
set_option linter.all false
set_option maxRecDepth 100000
set_option autoImplicit false
set_option maxHeartbeats 400000
open PySem PySem.Spec PyProof.Rows L2
open TL hiding eqT neT
namespace K05
local macro_rules | `(tactic| trivial) => `(tactic| simp -implicitDefEqProofs only [w_callBF, kCallB_ap, gCallB_ap, gFRB_ok, lf_int, lf_tn, lf_tr, lf_bl, w_setDF, kSetD_ap, gSetD0_ap, kSetD2_ap, gSetD_ap, w_okB, w_excB, w_dicF, w_starA, kStar_l, kStar_t, kStar2_ap, vals_star, w_callKF, kCallK_ap, kCallK2_ap, gCallK_ap, prm_nil, w_tryF, kTry_ok, kTry_exc, gTry_t, gTry_f, kTry2_ap, w_raiseF, kRaise_ap, gRaise_ap, w_par3F, kPar3a_ap, kPar3b_ap, kPar3c_ap, gPar_exc, gPar_exc1, w_slF, kSl1_ap, kSl2_ap, kSl3_ap, w_someB, kSome_ap, w_noB, w_rngI2, kRng2_ap, List.nil_append, List.cons_append,  w_con, w_opE, kOpE_sh, kOpE_ow, w_nilA, w_consA, kCons_ap, kCons2_ap, w_op2, kOp2_ap, kOp2'_ap, gOp2_ap, w_op1, kOp1_ap, gOp1_ap, w_opN, kOpN_ap, gOpN_ap, w_res, w_tst, kTst_ap, w_chn, kChn_ap, kChn2_ap, gChn_ap, hChn_t, hChn_f, kChn3_ap, w_andT, kAndT_t, kAndT_f, w_orT, kOrT_t, kOrT_f, w_notT, kNotT_ap, w_andE, kAndE_t, kAndE_f, w_orE, kOrE_t, kOrE_f, w_notE, kNotE_ap, w_ite3, kIte3_t, kIte3_f, w_lstF, kLst_ap, w_tupF, kTup_ap, gLst_ap, gTup_ap, w_seq, kSeq_nx, kSeq_rt, kSeq_bk, kSeq_ct, w_nxF, w_bkF, w_ctF, w_retF, kRet_ap, w_retNF, w_dropF, kDrop_ap, w_ifF, kIfF_t, kIfF_f, w_setF, kSet_ap, w_asgF, kAsg_ap, gAsg_ap, w_forF, kFor_ap, w_forL, w_forL0, gForL_ap, kForL_nx, kForL_ct, kForL_bk, kForL_rt, w_callF, kCall_ap, gCall_ap, gFR_ok, gFR_exc, w_seqI, kSeqI_l, kSeqI_t, w_enumI, kEnumI_l, kEnumI_t, w_zipI, kZip_ap, kZip2_l, kZip2_t, w_rngI1, kRng_n, w_yesT, w_var, w_varE, w_varR, gVar_sh, gVar_ow, gVarE_sh, gVarE_ow, gVarR_sh, gVarR_ow, get_pl, get_val, tree_sh, tree_ow, slot_tree_sh, slot_tree_ow, w_methF, gMeth0_ap, kMeth_ap, gMeth_ap, hMeth_ap, w_setIF, kSetI_ap, gSetI0_ap, kSetI2_ap, gSetI_ap, hSetI_ap, w_parF, kPar_ap, gPar_ap, gPar_one, nil_app, put_nm, put_tp, put_tpw, put_tpl, putAll_nil, putAll_cons, vals_nil, vals_cons, gets_nil, gets_cons, Option.map_some, Option.bind_some, List.getElem?_cons_succ, List.getElem?_cons_zero, List.set_cons_succ, List.set_cons_zero, List.length_cons, List.length_nil, Nat.zero_add, Nat.reduceAdd, Nat.reduceLT, Nat.reduceLeDiff, Nat.le_refl, and_self, ↓reduceIte, Bool.not_true, Bool.not_false, fnEnd, *])
theorem perm_lt {p : List Nat} {n : Nat} (h : p.Perm (List.range n)) : ∀ x ∈ p, x < n := fun x hx => by
  have := h.mem_iff.mp hx
  simpa using this
theorem perm_len {p : List Nat} {n : Nat} (h : p.Perm (List.range n)) : p.length = n := by rw [h.length_eq, List.length_range]
theorem perm_nd {p : List Nat} {n : Nat} (h : p.Perm (List.range n)) : p.Nodup := h.symm.nodup List.nodup_range
theorem full_of {p : List Nat} {n : Nat} (nd : p.Nodup) (hl : p.length = n) (hs : ∀ x ∈ p, x < n) : p.Perm (List.range n) := by
  refine (List.perm_ext_iff_of_nodup nd List.nodup_range).mpr fun a => ⟨fun h => List.mem_range.mpr (hs a h), fun h => ?_⟩
  rw [List.mem_range] at h
  refine Classical.byContradiction fun hn => ?_
  have h2 : (a :: p).Nodup := List.nodup_cons.mpr ⟨hn, nd⟩
  have h3 := h2.length_le_of_subset (l₂ := List.range n) (fun x hx => by
    rcases List.mem_cons.mp hx with rfl | hx
    · exact List.mem_range.mpr h
    · exact List.mem_range.mpr (hs x hx))
  rw [List.length_cons, List.length_range] at h3
  omega
def backL (i : Nat) : List Nat → List Nat → List Nat
  | [], acc => acc
  | b :: p, acc => backL (i + 1) p (acc.set b i)
theorem backL_length : ∀ (p : List Nat) (i : Nat) (acc : List Nat), (backL i p acc).length = acc.length
  | [], _, _ => rfl
  | _ :: p, i, acc => by rw [backL, backL_length p, List.length_set]
def ledL (q s : List Nat) : List Nat := q.filterMap fun t => s[t]?
theorem backL_other : ∀ (p : List Nat) (i : Nat) (acc : List Nat) (x : Nat), x ∉ p → (backL i p acc)[x]? = acc[x]?
  | [], _, _, _, _ => rfl
  | b :: p, i, acc, x, h => by
    rw [backL, backL_other p (i + 1) _ x (fun z => h (List.mem_cons_of_mem _ z)), List.getElem?_set_ne]
    exact fun z => h (z ▸ List.mem_cons_self)
theorem backL_at : ∀ (p : List Nat) (i : Nat) (acc : List Nat) (j x : Nat), p.Nodup → (∀ y ∈ p, y < acc.length) → p[j]? = some x → (backL i p acc)[x]? = some (i + j)
  | [], _, _, _, _, _, _, h => by simp at h
  | b :: p, i, acc, 0, x, nd, hl, h => by
    have e : b = x := by simpa using h
    subst e
    rw [backL, backL_other p _ _ _ (List.nodup_cons.mp nd).1, List.getElem?_set_self (hl _ List.mem_cons_self)]
    rfl
  | b :: p, i, acc, j + 1, x, nd, hl, h => by
    rw [backL, backL_at p (i + 1) (acc.set b i) j x (List.nodup_cons.mp nd).2 (fun y hy => by rw [List.length_set]; exact hl y (List.mem_cons_of_mem _ hy)) (by simpa using h)]
    congr 1
    omega
def LD (e s : List Nat) : List Nat := ledL (backL 0 e e) s
theorem filterMap_all {α β : Type} {f : α → Option β} : ∀ {l : List α}, (∀ x ∈ l, ∃ y, f x = some y) → (l.filterMap f).length = l.length ∧ ∀ i : Nat, (l.filterMap f)[i]? = (l[i]?).bind f
  | [], _ => ⟨rfl, fun i => by simp⟩
  | x :: l, h => by
    obtain ⟨y, hy⟩ := h x List.mem_cons_self
    obtain ⟨h1, h2⟩ := filterMap_all (f := f) (l := l) fun z hz => h z (List.mem_cons_of_mem _ hz)
    rw [List.filterMap_cons, hy]
    refine ⟨by simp [h1], fun i => ?_⟩
    cases i with
    | zero => simp [hy]
    | succ i => simpa using h2 i
section
variable {e s : List Nat} {n : Nat}
theorem back_get (h : e.Perm (List.range n)) {i x : Nat} (hx : e[i]? = some x) : (backL 0 e e)[x]? = some i := by
  have := backL_at e 0 e i x (perm_nd h) (fun y hy => by rw [perm_len h]; exact perm_lt h y hy) hx
  rwa [Nat.zero_add] at this
theorem perm_has (h : e.Perm (List.range n)) {x : Nat} (hx : x < n) : ∃ i : Nat, e[i]? = some x :=
  List.mem_iff_getElem?.mp (h.mem_iff.mpr (List.mem_range.mpr hx))
theorem back_lt (h : e.Perm (List.range n)) : ∀ y ∈ backL 0 e e, y < n := fun y hy => by
  obtain ⟨x, hx⟩ := List.mem_iff_getElem?.mp hy
  have hl : x < n := by
    have := (List.getElem?_eq_some_iff.mp hx).1
    rw [backL_length, perm_len h] at this
    exact this
  obtain ⟨i, hi⟩ := perm_has h hl
  rw [back_get h hi] at hx
  cases hx
  have := (List.getElem?_eq_some_iff.mp hi).1
  rw [perm_len h] at this
  exact this
theorem LD_all (h : e.Perm (List.range n)) (hs : s.length = n) : (LD e s).length = n ∧ ∀ x : Nat, (LD e s)[x]? = ((backL 0 e e)[x]?).bind fun t => s[t]? := by
  obtain ⟨h1, h2⟩ := filterMap_all (f := fun t => s[t]?) (l := backL 0 e e) fun y hy => ⟨_, List.getElem?_eq_getElem (by rw [hs]; exact back_lt h y hy)⟩
  refine ⟨?_, h2⟩
  show (List.filterMap _ _).length = n
  rw [h1, backL_length, perm_len h]
theorem LD_get (h : e.Perm (List.range n)) (hs : s.length = n) {i x : Nat} (hx : e[i]? = some x) : (LD e s)[x]? = s[i]? := by
  rw [(LD_all h hs).2 x, back_get h hx]
  rfl
end
theorem back_perm {p : List Nat} {n : Nat} (hp : p.Perm (List.range n)) : (backL 0 p p).Perm (List.range n) := by
  refine full_of ?_ (by rw [backL_length, perm_len hp]) (back_lt hp)
  refine List.pairwise_iff_getElem.mpr fun i j hi hj hij e => ?_
  have e : (backL 0 p p)[i]? = (backL 0 p p)[j]? := by rw [List.getElem?_eq_getElem hi, List.getElem?_eq_getElem hj, e]
  rw [backL_length, perm_len hp] at hj
  obtain ⟨a, ha⟩ := perm_has hp (x := i) (by omega)
  obtain ⟨b, hb⟩ := perm_has hp (x := j) (by omega)
  rw [back_get hp ha, back_get hp hb] at e
  cases e
  rw [ha] at hb
  cases hb
  omega
def invL (p : List Nat) : List Nat := backL 0 p p
def behL (p q : List Nat) : List Nat := p.map fun x => q.getD x 0
def ledN (p s : List Nat) : List Nat := (invL p).map fun t => s.getD t 0
def beW (p q : List Nat) : List Nat := p ++ q.map fun x => p.length + x
theorem ext_n {l m : List Nat} {n : Nat} (h1 : l.length = n) (h2 : m.length = n) (h : ∀ i < n, l.getD i 0 = m.getD i 0) : l = m := by
  refine List.ext_getElem? fun i => ?_
  by_cases hi : i < n
  · rw [getN (by omega), getN (by omega), h i hi]
  · rw [List.getElem?_eq_none (by omega), List.getElem?_eq_none (by omega)]
theorem getD_map {l : List Nat} {f : Nat → Nat} {i : Nat} (h : i < l.length) : (l.map f).getD i 0 = f (l.getD i 0) := by
  rw [List.getD_eq_getElem?_getD, List.getElem?_map, getN h]
  rfl
theorem getD_range {n i : Nat} (h : i < n) : (List.range n).getD i 0 = i := by
  rw [List.getD_eq_getElem?_getD, List.getElem?_range h]
  rfl
theorem map_range {l : List Nat} {n : Nat} (h : l.length = n) (f : Nat → Nat) : ((List.range n).map fun i => f (l.getD i 0)) = l.map f := by
  refine ext_n (n := n) (by rw [List.length_map, List.length_range]) (by rw [List.length_map, h]) fun i hi => ?_
  rw [getD_map (by rw [List.length_range]; exact hi), getD_map (by omega), getD_range hi]
theorem map_range0 {l : List Nat} {n : Nat} (h : l.length = n) : ((List.range n).map fun i => l.getD i 0) = l := by
  have := map_range h (fun x => x)
  rw [List.map_id'] at this
  exact this
section
variable {p q r s : List Nat} {n : Nat}
theorem at_lt (P : p.Perm (List.range n)) {i : Nat} (h : i < n) : p.getD i 0 < n := by
  have g := getN (p := p) (i := i) (by rw [perm_len P]; exact h)
  exact perm_lt P _ (List.mem_of_getElem? g)
theorem inv_len (P : p.Perm (List.range n)) : (invL p).length = n := by
  unfold invL
  rw [backL_length, perm_len P]
theorem inv_at (P : p.Perm (List.range n)) {i : Nat} (h : i < n) : (invL p).getD (p.getD i 0) 0 = i := by
  have g := getN (p := p) (i := i) (by rw [perm_len P]; exact h)
  have e : (invL p)[p.getD i 0]? = some i := back_get P g
  rw [List.getD_eq_getElem?_getD, e]
  rfl
theorem inv_perm (P : p.Perm (List.range n)) : (invL p).Perm (List.range n) := back_perm P
theorem at_inv (P : p.Perm (List.range n)) {x : Nat} (h : x < n) : p.getD ((invL p).getD x 0) 0 = x := by
  obtain ⟨i, hi⟩ := perm_has P h
  have h2 : i < n := by
    have := (List.getElem?_eq_some_iff.mp hi).1
    rw [perm_len P] at this
    exact this
  have e : p.getD i 0 = x := by rw [List.getD_eq_getElem?_getD, hi]; rfl
  have := inv_at P h2
  rw [e] at this
  rw [this, e]
theorem beh_len : (behL p q).length = p.length := List.length_map _
theorem beh_at {i : Nat} (h : i < p.length) : (behL p q).getD i 0 = q.getD (p.getD i 0) 0 := getD_map h
theorem beh_perm (P : p.Perm (List.range n)) (Q : q.Perm (List.range n)) : (behL p q).Perm (List.range n) := by
  have h1 : (behL p q).Perm ((List.range n).map fun x => q.getD x 0) := P.map _
  rw [map_range0 (perm_len Q)] at h1
  exact h1.trans Q
theorem inv_uniq (P : p.Perm (List.range n)) {y : List Nat} (hy : y.length = n) (h : ∀ i < n, y.getD (p.getD i 0) 0 = i) : invL p = y := by
  refine ext_n (inv_len P) hy fun x hx => ?_
  have h1 := at_inv P hx
  have h2 : (invL p).getD x 0 < n := at_lt (inv_perm P) hx
  have h3 := h _ h2
  rw [h1] at h3
  exact h3.symm
theorem f1 (P : p.Perm (List.range n)) (Q : q.Perm (List.range n)) : behL (behL p q) r = behL p (behL q r) := by
  refine ext_n (n := n) (by rw [beh_len, beh_len, perm_len P]) (by rw [beh_len, perm_len P]) fun i hi => ?_
  have hl := perm_len P
  have hl2 := perm_len Q
  have := at_lt P hi
  rw [beh_at (by rw [beh_len]; omega), beh_at (by omega), beh_at (by omega), beh_at (by omega)]
theorem f2 (P : p.Perm (List.range n)) : ((List.range n).map fun t => q.getD (p.getD t 0) 0) = behL p q := map_range (perm_len P) (fun x => q.getD x 0)
theorem f3 (P : p.Perm (List.range n)) : ((List.range n).filter fun t => !decide ((invL p).getD (p.getD t 0) 0 = t)) = [] := by
  rw [List.filter_eq_nil_iff]
  intro t ht
  rw [inv_at P (List.mem_range.mp ht), decide_eq_true rfl]
  decide
theorem f4 (P : p.Perm (List.range n)) : invL (invL p) = p := inv_uniq (inv_perm P) (perm_len P) fun i hi => at_inv P hi
theorem f5 (P : p.Perm (List.range n)) : behL p (invL p) = List.range n := by
  have hl := perm_len P
  refine ext_n (n := n) (by rw [beh_len, hl]) List.length_range fun i hi => ?_
  rw [beh_at (by omega), inv_at P hi, getD_range hi]
theorem f5' (P : p.Perm (List.range n)) : behL (invL p) p = List.range n := by
  have := f5 (inv_perm P)
  rw [f4 P] at this
  exact this
theorem f6 (P : p.Perm (List.range n)) (Q : q.Perm (List.range n)) : invL (behL p q) = behL (invL q) (invL p) := by
  have hl := perm_len P
  have hi2 := inv_len Q
  refine inv_uniq (beh_perm P Q) (by rw [beh_len, hi2]) fun i hi => ?_
  have h1 := at_lt P hi
  have h2 := at_lt Q h1
  rw [beh_at (p := p) (by omega), beh_at (by omega), inv_at Q h1, inv_at P hi]
theorem led_len (P : p.Perm (List.range n)) : (ledN p s).length = n := by
  unfold ledN
  rw [List.length_map, inv_len P]
theorem led_at (P : p.Perm (List.range n)) {i : Nat} (hi : i < n) : (ledN p s).getD i 0 = s.getD ((invL p).getD i 0) 0 := getD_map (by rw [inv_len P]; exact hi)
theorem single_of {l : List Nat} {c : Nat} (nd : l.Nodup) (hc : c ∈ l) (h : ∀ x ∈ l, x = c) : l = [c] := by
  cases l with
  | nil => cases hc
  | cons a l =>
    have ha := h a List.mem_cons_self
    subst ha
    cases l with
    | nil => rfl
    | cons b l =>
      have hb := h b (List.mem_cons_of_mem _ List.mem_cons_self)
      subst hb
      exact absurd List.mem_cons_self (List.nodup_cons.mp nd).1
def ledB (row s : List Nat) (bt : Nat) : List Nat := ((List.range row.length).filter fun t => decide (row.getD t 0 = bt)).map fun t => s.getD t 0
def lawLed (row s : List Nat) : List Nat := (List.range row.length).flatMap (ledB row s)
theorem fm_single {f : Nat → Nat} {g : Nat → List Nat} : ∀ l : List Nat, (∀ b ∈ l, g b = [f b]) → l.flatMap g = l.map f
  | [], _ => rfl
  | a :: l, h => by
    rw [List.flatMap_cons, h a List.mem_cons_self, fm_single l (fun b hb => h b (List.mem_cons_of_mem _ hb))]
    rfl
theorem f7 (P : p.Perm (List.range n)) : lawLed p s = ledN p s := by
  have hl := perm_len P
  unfold lawLed
  rw [hl, fm_single (f := fun b => s.getD ((invL p).getD b 0) 0) (List.range n) fun b hb => ?_]
  · exact map_range (inv_len P) (fun t => s.getD t 0)
  · have hb := List.mem_range.mp hb
    unfold ledB
    rw [hl, single_of (c := (invL p).getD b 0) (List.nodup_range.sublist List.filter_sublist) ?_ ?_]
    · rfl
    · rw [List.mem_filter, List.mem_range]
      exact ⟨at_lt (inv_perm P) hb, decide_eq_true (at_inv P hb)⟩
    · intro x hx
      rw [List.mem_filter, List.mem_range, decide_eq_true_eq] at hx
      rw [← hx.2, inv_at P hx.1]
theorem f8 (P : p.Perm (List.range n)) (Q : q.Perm (List.range n)) : ledN (behL p q) s = ledN q (ledN p s) := by
  refine ext_n (led_len (beh_perm P Q)) (led_len Q) fun i hi => ?_
  have h1 := at_lt (inv_perm Q) hi
  rw [led_at (beh_perm P Q) hi, led_at Q hi, led_at P h1, f6 P Q, beh_at (by rw [inv_len Q]; exact hi)]
theorem f9 (P : p.Perm (List.range n)) (hs : s.length = n) : ledN (invL p) (ledN p s) = s := by
  refine ext_n (led_len (inv_perm P)) hs fun i hi => ?_
  rw [led_at (inv_perm P) hi, f4 P, led_at P (at_lt P hi), inv_at P hi]
theorem inv_range : invL (List.range n) = List.range n := inv_uniq (List.Perm.refl _) List.length_range fun i hi => by rw [getD_range hi, getD_range hi]
theorem f10 (hs : s.length = n) : ledN (List.range n) s = s := by
  unfold ledN
  rw [inv_range]
  exact map_range0 hs
theorem ledL_eq (P : p.Perm (List.range n)) (hs : s.length = n) : ledL (backL 0 p p) s = ledN p s := by
  have : ∀ l : List Nat, (∀ x ∈ l, x < s.length) → ledL l s = l.map fun t => s.getD t 0 := by
    intro l
    induction l with
    | nil => intro _; rfl
    | cons a l ih =>
      intro h
      have ha := h a List.mem_cons_self
      show (a :: l).filterMap _ = _
      rw [List.filterMap_cons, getN ha, List.map_cons]
      exact congrArg _ (ih fun x hx => h x (List.mem_cons_of_mem _ hx))
  exact this _ fun x hx => by rw [hs]; exact back_lt P x hx
end
section
variable {p q f g s t : List Nat} {n m : Nat}
theorem getD_app1 {a b : List Nat} {i : Nat} (h : i < a.length) : (a ++ b).getD i 0 = a.getD i 0 := by
  rw [List.getD_eq_getElem?_getD, List.getD_eq_getElem?_getD, List.getElem?_append_left h]
theorem getD_app2 {a b : List Nat} {i : Nat} : (a ++ b).getD (a.length + i) 0 = b.getD i 0 := by
  rw [List.getD_eq_getElem?_getD, List.getD_eq_getElem?_getD, List.getElem?_append_right (by omega), Nat.add_sub_cancel_left]
theorem be_perm (hp : p.Perm (List.range n)) (hq : q.Perm (List.range m)) : (beW p q).Perm (List.range (n + m)) := by
  unfold beW
  rw [List.range_add, perm_len hp]
  exact hp.append (hq.map _)
theorem be_len (hp : p.Perm (List.range n)) (hq : q.Perm (List.range m)) : (beW p q).length = n + m := perm_len (be_perm hp hq)
theorem be_at1 (hp : p.Perm (List.range n)) {i : Nat} (h : i < n) : (beW p q).getD i 0 = p.getD i 0 := getD_app1 (by rw [perm_len hp]; exact h)
theorem be_at2 (hp : p.Perm (List.range n)) (hq : q.Perm (List.range m)) {i : Nat} (h : i < m) : (beW p q).getD (n + i) 0 = n + q.getD i 0 := by
  have hl := perm_len hp
  have := getD_app2 (a := p) (b := q.map fun x => p.length + x) (i := i)
  rw [hl] at this
  unfold beW
  rw [hl, this, getD_map (by rw [perm_len hq]; exact h)]
theorem split_n {P : Nat → Prop} (h1 : ∀ i < n, P i) (h2 : ∀ i < m, P (n + i)) : ∀ i < n + m, P i := fun i hi => by
  by_cases h : i < n
  · exact h1 i h
  · have := h2 (i - n) (by omega)
    rwa [Nat.add_sub_cancel' (by omega)] at this
theorem g1 (P : p.Perm (List.range n)) (Q : q.Perm (List.range m)) (F : f.Perm (List.range n)) (G : g.Perm (List.range m)) : behL (beW p q) (beW f g) = beW (behL p f) (behL q g) := by
  have hl := perm_len P
  have hl2 := perm_len Q
  refine ext_n (n := n + m) (by rw [beh_len, be_len P Q]) (be_len (beh_perm P F) (beh_perm Q G)) (split_n (fun i hi => ?_) (fun i hi => ?_))
  · rw [beh_at (by rw [be_len P Q]; omega), be_at1 P hi, be_at1 F (at_lt P hi), be_at1 (beh_perm P F) hi, beh_at (by omega)]
  · rw [beh_at (by rw [be_len P Q]; omega), be_at2 P Q hi, be_at2 F G (at_lt Q hi), be_at2 (beh_perm P F) (beh_perm Q G) hi, beh_at (by omega)]
theorem g2 (P : p.Perm (List.range n)) (Q : q.Perm (List.range m)) : invL (beW p q) = beW (invL p) (invL q) := by
  refine inv_uniq (be_perm P Q) (be_len (inv_perm P) (inv_perm Q)) (split_n (fun i hi => ?_) (fun i hi => ?_))
  · rw [be_at1 P hi, be_at1 (inv_perm P) (at_lt P hi), inv_at P hi]
  · rw [be_at2 P Q hi, be_at2 (inv_perm P) (inv_perm Q) (at_lt Q hi), inv_at Q hi]
theorem g3 (P : p.Perm (List.range n)) (Q : q.Perm (List.range m)) (hs : s.length = n) (ht : t.length = m) : ledN (beW p q) (s ++ t) = ledN p s ++ ledN q t := by
  have h1 := led_len (s := s) P
  have h2 := led_len (s := t) Q
  refine ext_n (n := n + m) (led_len (be_perm P Q)) (by rw [List.length_append, h1, h2]) (split_n (fun i hi => ?_) (fun i hi => ?_))
  · rw [led_at (be_perm P Q) (by omega), g2 P Q, be_at1 (inv_perm P) hi, getD_app1 (by rw [hs]; exact at_lt (inv_perm P) hi), getD_app1 (by omega), led_at P hi]
  · have e1 := getD_app2 (a := s) (b := t) (i := (invL q).getD i 0)
    have e2 := getD_app2 (a := ledN p s) (b := ledN q t) (i := i)
    rw [hs] at e1
    rw [h1] at e2
    rw [led_at (be_perm P Q) (by omega), g2 P Q, be_at2 (inv_perm P) (inv_perm Q) hi, e1, e2, led_at Q hi]
end
def inW (p : List Nat) : Nat → List Nat → List Nat → Nat → List Nat × List Nat
  | 0, kn, pl, _ => (kn, pl)
  | m + 1, kn, pl, s => if s ∈ kn then (kn, pl) else inW p m (kn ++ [s]) (pl ++ [s]) (p.getD s 0)
def inOk (p : List Nat) : Nat → List Nat → Nat → Bool
  | 0, kn, s => decide (s ∈ kn)
  | m + 1, kn, s => decide (s ∈ kn) || inOk p m (kn ++ [s]) (p.getD s 0)
def prL (p : List Nat) : List Nat → List (List Nat) → List Nat → List (List Nat)
  | [], F, _ => F
  | s :: l, F, kn => if s ∈ kn then prL p l F kn else prL p l (F ++ [(inW p 7 kn [] s).2]) (inW p 7 kn [] s).1
def prOk (p : List Nat) : List Nat → List (List Nat) → List Nat → Bool
  | [], F, _ => decide (F.length ≤ 50)
  | s :: l, F, kn => if s ∈ kn then prOk p l F kn else inOk p 7 kn s && decide (kn.length ≤ 50) && decide (F.length ≤ 50) && prOk p l (F ++ [(inW p 7 kn [] s).2]) (inW p 7 kn [] s).1
def mn : List Nat → Nat
  | [] => 0
  | x :: xs => xs.foldl (fun a y => if y < a then y else a) x
def cyW (p : List Nat) : Nat → List Nat → Nat → List Nat
  | 0, t, _ => t
  | m + 1, t, s => if p.getD (t.getLastD 0) 0 = s then t else cyW p m (t ++ [p.getD (t.getLastD 0) 0]) s
def cyOk (p : List Nat) : Nat → List Nat → Nat → Bool
  | 0, t, s => decide (p.getD (t.getLastD 0) 0 = s)
  | m + 1, t, s => decide (p.getD (t.getLastD 0) 0 = s) || cyOk p m (t ++ [p.getD (t.getLastD 0) 0]) s
def cyc (p : List Nat) (s : Nat) : List Nat := cyW p 7 [s] s
def lawR (p : List Nat) : List (List Nat) := ((List.range p.length).filter fun s => decide (mn (cyc p s) = s)).map (cyc p)
end K05

end
section
set_option Elab.async false
set_option linter.all false
set_option maxRecDepth 100000
set_option autoImplicit false
set_option maxHeartbeats 400000
open PySem PySem.Spec PyProof.Rows L2
open TL hiding eqT neT
namespace K05
local macro_rules | `(tactic| trivial) => `(tactic| simp -implicitDefEqProofs only [w_callBF, kCallB_ap, gCallB_ap, gFRB_ok, lf_int, lf_tn, lf_tr, lf_bl, w_setDF, kSetD_ap, gSetD0_ap, kSetD2_ap, gSetD_ap, w_okB, w_excB, w_dicF, w_starA, kStar_l, kStar_t, kStar2_ap, vals_star, w_callKF, kCallK_ap, kCallK2_ap, gCallK_ap, prm_nil, w_tryF, kTry_ok, kTry_exc, gTry_t, gTry_f, kTry2_ap, w_raiseF, kRaise_ap, gRaise_ap, w_par3F, kPar3a_ap, kPar3b_ap, kPar3c_ap, gPar_exc, gPar_exc1, w_slF, kSl1_ap, kSl2_ap, kSl3_ap, w_someB, kSome_ap, w_noB, w_rngI2, kRng2_ap, List.nil_append, List.cons_append,  w_con, w_opE, kOpE_sh, kOpE_ow, w_nilA, w_consA, kCons_ap, kCons2_ap, w_op2, kOp2_ap, kOp2'_ap, gOp2_ap, w_op1, kOp1_ap, gOp1_ap, w_opN, kOpN_ap, gOpN_ap, w_res, w_tst, kTst_ap, w_chn, kChn_ap, kChn2_ap, gChn_ap, hChn_t, hChn_f, kChn3_ap, w_andT, kAndT_t, kAndT_f, w_orT, kOrT_t, kOrT_f, w_notT, kNotT_ap, w_andE, kAndE_t, kAndE_f, w_orE, kOrE_t, kOrE_f, w_notE, kNotE_ap, w_ite3, kIte3_t, kIte3_f, w_lstF, kLst_ap, w_tupF, kTup_ap, gLst_ap, gTup_ap, w_seq, kSeq_nx, kSeq_rt, kSeq_bk, kSeq_ct, w_nxF, w_bkF, w_ctF, w_retF, kRet_ap, w_retNF, w_dropF, kDrop_ap, w_ifF, kIfF_t, kIfF_f, w_setF, kSet_ap, w_asgF, kAsg_ap, gAsg_ap, w_forF, kFor_ap, w_forL, w_forL0, gForL_ap, kForL_nx, kForL_ct, kForL_bk, kForL_rt, w_callF, kCall_ap, gCall_ap, gFR_ok, gFR_exc, w_seqI, kSeqI_l, kSeqI_t, w_enumI, kEnumI_l, kEnumI_t, w_zipI, kZip_ap, kZip2_l, kZip2_t, w_rngI1, kRng_n, w_yesT, w_var, w_varE, w_varR, gVar_sh, gVar_ow, gVarE_sh, gVarE_ow, gVarR_sh, gVarR_ow, get_pl, get_val, tree_sh, tree_ow, slot_tree_sh, slot_tree_ow, w_methF, gMeth0_ap, kMeth_ap, gMeth_ap, hMeth_ap, w_setIF, kSetI_ap, gSetI0_ap, kSetI2_ap, gSetI_ap, hSetI_ap, w_parF, kPar_ap, gPar_ap, gPar_one, nil_app, put_nm, put_tp, put_tpw, put_tpl, putAll_nil, putAll_cons, vals_nil, vals_cons, gets_nil, gets_cons, Option.map_some, Option.bind_some, List.getElem?_cons_succ, List.getElem?_cons_zero, List.set_cons_succ, List.set_cons_zero, List.length_cons, List.length_nil, Nat.zero_add, Nat.reduceAdd, Nat.reduceLT, Nat.reduceLeDiff, Nat.le_refl, and_self, ↓reduceIte, Bool.not_true, Bool.not_false, fnEnd, *])
def extL (w : Nat) (e : List Nat) : List (List Nat) := ((List.range w).filter fun b => decide (b ∉ e)).map fun b => e ++ [b]
def levL (w : Nat) : Nat → List (List Nat)
  | 0 => [[]]
  | k + 1 => (levL w k).flatMap (extL w)
def allL (w : Nat) : List (List Nat) := levL w w
theorem mem_ext {w : Nat} {e x : List Nat} : x ∈ extL w e ↔ ∃ b, b < w ∧ b ∉ e ∧ x = e ++ [b] := by
  unfold extL
  simp only [List.mem_map, List.mem_filter, List.mem_range, decide_eq_true_eq]
  constructor
  · rintro ⟨b, ⟨h1, h2⟩, h3⟩; exact ⟨b, h1, h2, h3.symm⟩
  · rintro ⟨b, h1, h2, h3⟩; exact ⟨b, ⟨h1, h2⟩, h3.symm⟩
theorem mem_lev (w : Nat) : ∀ (k : Nat) (e : List Nat), e ∈ levL w k ↔ e.length = k ∧ e.Nodup ∧ ∀ x ∈ e, x < w
  | 0, e => by
    rw [levL, List.mem_singleton]
    constructor
    · rintro rfl; simp
    · rintro ⟨h, _⟩; exact List.length_eq_zero_iff.mp h
  | k + 1, e => by
    rw [levL, List.mem_flatMap]
    constructor
    · rintro ⟨x, hx, hy⟩
      obtain ⟨b, h1, h2, rfl⟩ := mem_ext.mp hy
      obtain ⟨g1, g2, g3⟩ := (mem_lev w k x).mp hx
      refine ⟨by simp [g1], ?_, fun y hy => ?_⟩
      · rw [List.nodup_append]
        exact ⟨g2, by simp, fun a ha c hc => by rw [List.mem_singleton] at hc; subst hc; exact fun z => h2 (z ▸ ha)⟩
      · rcases List.mem_append.mp hy with hy | hy
        · exact g3 y hy
        · rw [List.mem_singleton] at hy; subst hy; exact h1
    · rintro ⟨h1, h2, h3⟩
      have hne : e ≠ [] := fun z => by subst z; simp at h1
      refine ⟨e.dropLast, (mem_lev w k _).mpr ⟨by rw [List.length_dropLast]; omega, (List.dropLast_sublist e).nodup h2, fun x hx => h3 x (List.dropLast_subset e hx)⟩, mem_ext.mpr ⟨e.getLast hne, h3 _ (List.getLast_mem hne), ?_, (List.dropLast_concat_getLast hne).symm⟩⟩
      have := h2
      rw [← List.dropLast_concat_getLast hne, List.nodup_append] at this
      exact fun z => this.2.2 _ z _ List.mem_cons_self rfl
theorem mem_all {w : Nat} {e : List Nat} : e ∈ allL w ↔ e.Perm (List.range w) :=
  ⟨fun h => by
    obtain ⟨h1, h2, h3⟩ := (mem_lev w w e).mp h
    exact full_of h2 h1 h3, fun h => (mem_lev w w e).mpr ⟨perm_len h, perm_nd h, perm_lt h⟩⟩
def fN (x : Nat) (k : Nat → Bool) : Bool := bif Nat.beq x 0 then k 0 else bif Nat.beq x 1 then k 1 else bif Nat.beq x 2 then k 2 else bif Nat.beq x 3 then k 3 else bif Nat.beq x 4 then k 4 else bif Nat.beq x 5 then k 5 else bif Nat.beq x 6 then k 6 else bif Nat.beq x 7 then k 7 else bif Nat.beq x 8 then k 8 else bif Nat.beq x 9 then k 9 else k x
theorem fN_eq (x : Nat) (k : Nat → Bool) : fN x k = k x := by
  by_cases h : x < 10
  · have : x = 0 ∨ x = 1 ∨ x = 2 ∨ x = 3 ∨ x = 4 ∨ x = 5 ∨ x = 6 ∨ x = 7 ∨ x = 8 ∨ x = 9 := by omega
    rcases this with e | e | e | e | e | e | e | e | e | e <;> subst e <;> rfl
  · unfold fN
    rw [show Nat.beq x 0 = false from Bool.eq_false_iff.mpr (fun e => by have := Nat.eq_of_beq_eq_true e; omega), show Nat.beq x 1 = false from Bool.eq_false_iff.mpr (fun e => by have := Nat.eq_of_beq_eq_true e; omega), show Nat.beq x 2 = false from Bool.eq_false_iff.mpr (fun e => by have := Nat.eq_of_beq_eq_true e; omega), show Nat.beq x 3 = false from Bool.eq_false_iff.mpr (fun e => by have := Nat.eq_of_beq_eq_true e; omega), show Nat.beq x 4 = false from Bool.eq_false_iff.mpr (fun e => by have := Nat.eq_of_beq_eq_true e; omega), show Nat.beq x 5 = false from Bool.eq_false_iff.mpr (fun e => by have := Nat.eq_of_beq_eq_true e; omega), show Nat.beq x 6 = false from Bool.eq_false_iff.mpr (fun e => by have := Nat.eq_of_beq_eq_true e; omega), show Nat.beq x 7 = false from Bool.eq_false_iff.mpr (fun e => by have := Nat.eq_of_beq_eq_true e; omega), show Nat.beq x 8 = false from Bool.eq_false_iff.mpr (fun e => by have := Nat.eq_of_beq_eq_true e; omega), show Nat.beq x 9 = false from Bool.eq_false_iff.mpr (fun e => by have := Nat.eq_of_beq_eq_true e; omega)]
    rfl
def fL : List Nat → (List Nat → Bool) → Bool
  | [], k => k []
  | x :: l, k => fN x fun x => fL l fun l => k (x :: l)
theorem fL_eq : ∀ (l : List Nat) (k : List Nat → Bool), fL l k = k l
  | [], k => rfl
  | x :: l, k => by rw [fL, fN_eq, fL_eq l]

def fLL : List (List Nat) → (List (List Nat) → Bool) → Bool
  | [], k => k []
  | x :: l, k => fL x fun x => fLL l fun l => k (x :: l)
theorem fLL_eq : ∀ (l : List (List Nat)) (k : List (List Nat) → Bool), fLL l k = k l
  | [], k => rfl
  | x :: l, k => by rw [fLL, fL_eq, fLL_eq l]
def toI (c : List Nat) : List Int := c.map fun (n : Nat) => (n : Int)
def insL (x : List Nat) : List (List Nat) → List (List Nat)
  | [] => [x]
  | y :: ys => if HT.lexLt (toI y) (toI x) = true then y :: insL x ys else x :: y :: ys
def sortL : List (List Nat) → List (List Nat)
  | [] => []
  | x :: xs => insL x (sortL xs)
def norm (c : List Nat) : List Nat := c.drop (c.idxOf (mn c)) ++ c.take (c.idxOf (mn c))
def mapC (q c : List Nat) : List Nat := c.map fun x => q.getD x 0
def renN (R : List (List Nat)) (q : List Nat) : List (List Nat) := sortL (R.map fun c => norm (mapC q c))
def evI (p : List Nat) : Bool := decide (((List.range p.length).map fun t => ((List.range t).filter fun a => decide (p.getD t 0 < p.getD a 0)).length).sum % 2 = 0)
def evR (n : Nat) (R : List (List Nat)) : Bool := decide ((n - R.length) % 2 = 0)
def ev (p : List Nat) : Bool := evR p.length (lawR p)
def turnC (c : List Nat) : List Nat := c.take 1 ++ (c.drop 1).reverse
def tpL (n i j : Nat) : List Nat := (List.range n).map fun x => if x = i then j else if x = j then i else x
def desc (p : List Nat) : Option Nat := (List.range (p.length - 1)).find? fun i => decide (p.getD (i + 1) 0 < p.getD i 0)
def wd : Nat → List Nat → List Nat
  | 0, _ => []
  | f + 1, p => match desc p with
    | none => []
    | some i => i :: wd f (behL (tpL p.length i (i + 1)) p)
def prodW (n : Nat) : List Nat → List Nat
  | [] => List.range n
  | i :: w => behL (tpL n i (i + 1)) (prodW n w)
def prR (p : List Nat) : List (List Nat) := prL p (List.range p.length) [] []
def chkA (p : List Nat) : Bool := fL p fun p => fL (invL p) fun ip => fLL (lawR p) fun R => fLL (prR ip) fun Ri => fL (wd 16 p) fun w =>
  prOk p (List.range p.length) [] [] && decide (prR p = R) && ((List.range p.length).all fun s => cyOk p 7 [s] s) && decide (R.length ≤ p.length) && (evI p == evR p.length R)
    && decide (Ri = R.map turnC) && (R.all fun c => decide (c ≠ []) && decide (c.Nodup) && c.all fun x => decide (x < p.length)) && decide (prodW p.length w = p) && (w.all fun i => decide (i + 1 < p.length))
def chkG (n i : Nat) (p : List Nat) : Bool := fL p fun p => fL (tpL n i (i + 1)) fun s => fL (behL s p) fun sp => fL (behL sp s) fun cp => fLL (prR p) fun R => fLL (prR sp) fun Rs => fLL (prR cp) fun Rc =>
  (evR n Rs == !evR n R) && decide (Rc = renN R s)
theorem finA1 : (allL 1).all chkA = true := by decide +kernel
theorem finA2 : (allL 2).all chkA = true := by decide +kernel
theorem finA3 : (allL 3).all chkA = true := by decide +kernel
theorem finA4 : (allL 4).all chkA = true := by decide +kernel
theorem finA5 : (allL 5).all chkA = true := by decide +kernel
theorem finA6_0 : (((allL 6).drop (60 * 0)).take 60).all chkA = true := by decide +kernel
theorem finA6_1 : (((allL 6).drop (60 * 1)).take 60).all chkA = true := by decide +kernel
theorem finA6_2 : (((allL 6).drop (60 * 2)).take 60).all chkA = true := by decide +kernel
theorem finA6_3 : (((allL 6).drop (60 * 3)).take 60).all chkA = true := by decide +kernel
theorem finA6_4 : (((allL 6).drop (60 * 4)).take 60).all chkA = true := by decide +kernel
theorem finA6_5 : (((allL 6).drop (60 * 5)).take 60).all chkA = true := by decide +kernel
theorem finA6_6 : (((allL 6).drop (60 * 6)).take 60).all chkA = true := by decide +kernel
theorem finA6_7 : (((allL 6).drop (60 * 7)).take 60).all chkA = true := by decide +kernel
theorem finA6_8 : (((allL 6).drop (60 * 8)).take 60).all chkA = true := by decide +kernel
theorem finA6_9 : (((allL 6).drop (60 * 9)).take 60).all chkA = true := by decide +kernel
theorem finA6_10 : (((allL 6).drop (60 * 10)).take 60).all chkA = true := by decide +kernel
theorem finA6_11 : (((allL 6).drop (60 * 11)).take 60).all chkA = true := by decide +kernel
theorem finG2_0 : (allL 2).all (chkG 2 0) = true := by decide +kernel
theorem finG3_0 : (allL 3).all (chkG 3 0) = true := by decide +kernel
theorem finG3_1 : (allL 3).all (chkG 3 1) = true := by decide +kernel
theorem finG4_0 : (allL 4).all (chkG 4 0) = true := by decide +kernel
theorem finG4_1 : (allL 4).all (chkG 4 1) = true := by decide +kernel
theorem finG4_2 : (allL 4).all (chkG 4 2) = true := by decide +kernel
theorem finG5_0 : (allL 5).all (chkG 5 0) = true := by decide +kernel
theorem finG5_1 : (allL 5).all (chkG 5 1) = true := by decide +kernel
theorem finG5_2 : (allL 5).all (chkG 5 2) = true := by decide +kernel
theorem finG5_3 : (allL 5).all (chkG 5 3) = true := by decide +kernel
theorem finG6_0_0 : (((allL 6).drop (180 * 0)).take 180).all (chkG 6 0) = true := by decide +kernel
theorem finG6_0_1 : (((allL 6).drop (180 * 1)).take 180).all (chkG 6 0) = true := by decide +kernel
theorem finG6_0_2 : (((allL 6).drop (180 * 2)).take 180).all (chkG 6 0) = true := by decide +kernel
theorem finG6_0_3 : (((allL 6).drop (180 * 3)).take 180).all (chkG 6 0) = true := by decide +kernel
theorem finG6_1_0 : (((allL 6).drop (180 * 0)).take 180).all (chkG 6 1) = true := by decide +kernel
theorem finG6_1_1 : (((allL 6).drop (180 * 1)).take 180).all (chkG 6 1) = true := by decide +kernel
theorem finG6_1_2 : (((allL 6).drop (180 * 2)).take 180).all (chkG 6 1) = true := by decide +kernel
theorem finG6_1_3 : (((allL 6).drop (180 * 3)).take 180).all (chkG 6 1) = true := by decide +kernel
theorem finG6_2_0 : (((allL 6).drop (180 * 0)).take 180).all (chkG 6 2) = true := by decide +kernel
theorem finG6_2_1 : (((allL 6).drop (180 * 1)).take 180).all (chkG 6 2) = true := by decide +kernel
theorem finG6_2_2 : (((allL 6).drop (180 * 2)).take 180).all (chkG 6 2) = true := by decide +kernel
theorem finG6_2_3 : (((allL 6).drop (180 * 3)).take 180).all (chkG 6 2) = true := by decide +kernel
theorem finG6_3_0 : (((allL 6).drop (180 * 0)).take 180).all (chkG 6 3) = true := by decide +kernel
theorem finG6_3_1 : (((allL 6).drop (180 * 1)).take 180).all (chkG 6 3) = true := by decide +kernel
theorem finG6_3_2 : (((allL 6).drop (180 * 2)).take 180).all (chkG 6 3) = true := by decide +kernel
theorem finG6_3_3 : (((allL 6).drop (180 * 3)).take 180).all (chkG 6 3) = true := by decide +kernel
theorem finG6_4_0 : (((allL 6).drop (180 * 0)).take 180).all (chkG 6 4) = true := by decide +kernel
theorem finG6_4_1 : (((allL 6).drop (180 * 1)).take 180).all (chkG 6 4) = true := by decide +kernel
theorem finG6_4_2 : (((allL 6).drop (180 * 2)).take 180).all (chkG 6 4) = true := by decide +kernel
theorem finG6_4_3 : (((allL 6).drop (180 * 3)).take 180).all (chkG 6 4) = true := by decide +kernel

theorem finT : ([1, 2, 3, 4, 5, 6].all fun n => (List.range n).all fun i => (List.range n).all fun j => (ev (tpL n i j) == decide (i = j)) && decide (tpL n i j ∈ allL n)) = true := by decide +kernel
theorem finS : ([1, 2, 3, 4, 5, 6].all fun n => (List.range (n - 1)).all fun i => decide (invL (tpL n i (i + 1)) = tpL n i (i + 1))) = true := by decide +kernel
end K05

end
section
set_option Elab.async false
set_option linter.all false
set_option maxRecDepth 100000
set_option autoImplicit false
set_option maxHeartbeats 400000
open PySem PySem.Spec PyProof.Rows L2
open TL hiding eqT neT
namespace K05
local macro_rules | `(tactic| trivial) => `(tactic| simp -implicitDefEqProofs only [w_callBF, kCallB_ap, gCallB_ap, gFRB_ok, lf_int, lf_tn, lf_tr, lf_bl, w_setDF, kSetD_ap, gSetD0_ap, kSetD2_ap, gSetD_ap, w_okB, w_excB, w_dicF, w_starA, kStar_l, kStar_t, kStar2_ap, vals_star, w_callKF, kCallK_ap, kCallK2_ap, gCallK_ap, prm_nil, w_tryF, kTry_ok, kTry_exc, gTry_t, gTry_f, kTry2_ap, w_raiseF, kRaise_ap, gRaise_ap, w_par3F, kPar3a_ap, kPar3b_ap, kPar3c_ap, gPar_exc, gPar_exc1, w_slF, kSl1_ap, kSl2_ap, kSl3_ap, w_someB, kSome_ap, w_noB, w_rngI2, kRng2_ap, List.nil_append, List.cons_append,  w_con, w_opE, kOpE_sh, kOpE_ow, w_nilA, w_consA, kCons_ap, kCons2_ap, w_op2, kOp2_ap, kOp2'_ap, gOp2_ap, w_op1, kOp1_ap, gOp1_ap, w_opN, kOpN_ap, gOpN_ap, w_res, w_tst, kTst_ap, w_chn, kChn_ap, kChn2_ap, gChn_ap, hChn_t, hChn_f, kChn3_ap, w_andT, kAndT_t, kAndT_f, w_orT, kOrT_t, kOrT_f, w_notT, kNotT_ap, w_andE, kAndE_t, kAndE_f, w_orE, kOrE_t, kOrE_f, w_notE, kNotE_ap, w_ite3, kIte3_t, kIte3_f, w_lstF, kLst_ap, w_tupF, kTup_ap, gLst_ap, gTup_ap, w_seq, kSeq_nx, kSeq_rt, kSeq_bk, kSeq_ct, w_nxF, w_bkF, w_ctF, w_retF, kRet_ap, w_retNF, w_dropF, kDrop_ap, w_ifF, kIfF_t, kIfF_f, w_setF, kSet_ap, w_asgF, kAsg_ap, gAsg_ap, w_forF, kFor_ap, w_forL, w_forL0, gForL_ap, kForL_nx, kForL_ct, kForL_bk, kForL_rt, w_callF, kCall_ap, gCall_ap, gFR_ok, gFR_exc, w_seqI, kSeqI_l, kSeqI_t, w_enumI, kEnumI_l, kEnumI_t, w_zipI, kZip_ap, kZip2_l, kZip2_t, w_rngI1, kRng_n, w_yesT, w_var, w_varE, w_varR, gVar_sh, gVar_ow, gVarE_sh, gVarE_ow, gVarR_sh, gVarR_ow, get_pl, get_val, tree_sh, tree_ow, slot_tree_sh, slot_tree_ow, w_methF, gMeth0_ap, kMeth_ap, gMeth_ap, hMeth_ap, w_setIF, kSetI_ap, gSetI0_ap, kSetI2_ap, gSetI_ap, hSetI_ap, w_parF, kPar_ap, gPar_ap, gPar_one, nil_app, put_nm, put_tp, put_tpw, put_tpl, putAll_nil, putAll_cons, vals_nil, vals_cons, gets_nil, gets_cons, Option.map_some, Option.bind_some, List.getElem?_cons_succ, List.getElem?_cons_zero, List.set_cons_succ, List.set_cons_zero, List.length_cons, List.length_nil, Nat.zero_add, Nat.reduceAdd, Nat.reduceLT, Nat.reduceLeDiff, Nat.le_refl, and_self, ↓reduceIte, Bool.not_true, Bool.not_false, fnEnd, *])

theorem all_slices {α : Type} {f : α → Bool} {l : List α} {s n : Nat} (hs : 0 < s) (h : ∀ k < n, (((l.drop (s * k)).take s).all f) = true) (hl : l.length ≤ s * n) : ∀ x ∈ l, f x = true := fun x hx => by
  obtain ⟨i, hi⟩ := List.mem_iff_getElem?.mp hx
  have il : i < l.length := (List.getElem?_eq_some_iff.mp hi).1
  have hk : i / s < n := Nat.div_lt_of_lt_mul (by omega)
  have hr : i % s < s := Nat.mod_lt _ hs
  have e := Nat.div_add_mod i s
  refine List.all_eq_true.mp (h (i / s) hk) x (List.mem_of_getElem? (i := i % s) ?_)
  rw [List.getElem?_take, if_pos hr, List.getElem?_drop, e]
  exact hi
theorem len720 : (allL 6).length = 720 := by decide +kernel
theorem finA6 : ∀ p ∈ allL 6, chkA p = true := all_slices (s := 60) (n := 12) (by omega) (fun k hk => by
  match k, hk with
  | 0, _ => exact finA6_0
  | 1, _ => exact finA6_1
  | 2, _ => exact finA6_2
  | 3, _ => exact finA6_3
  | 4, _ => exact finA6_4
  | 5, _ => exact finA6_5
  | 6, _ => exact finA6_6
  | 7, _ => exact finA6_7
  | 8, _ => exact finA6_8
  | 9, _ => exact finA6_9
  | 10, _ => exact finA6_10
  | 11, _ => exact finA6_11
  | n + 12, h => exact absurd h (by omega)) (by rw [len720]; omega)
theorem finG6_0 : ∀ p ∈ allL 6, chkG 6 0 p = true := all_slices (s := 180) (n := 4) (by omega) (fun k hk => by
  match k, hk with
  | 0, _ => exact finG6_0_0
  | 1, _ => exact finG6_0_1
  | 2, _ => exact finG6_0_2
  | 3, _ => exact finG6_0_3
  | n + 4, h => exact absurd h (by omega)) (by rw [len720]; omega)
theorem finG6_1 : ∀ p ∈ allL 6, chkG 6 1 p = true := all_slices (s := 180) (n := 4) (by omega) (fun k hk => by
  match k, hk with
  | 0, _ => exact finG6_1_0
  | 1, _ => exact finG6_1_1
  | 2, _ => exact finG6_1_2
  | 3, _ => exact finG6_1_3
  | n + 4, h => exact absurd h (by omega)) (by rw [len720]; omega)
theorem finG6_2 : ∀ p ∈ allL 6, chkG 6 2 p = true := all_slices (s := 180) (n := 4) (by omega) (fun k hk => by
  match k, hk with
  | 0, _ => exact finG6_2_0
  | 1, _ => exact finG6_2_1
  | 2, _ => exact finG6_2_2
  | 3, _ => exact finG6_2_3
  | n + 4, h => exact absurd h (by omega)) (by rw [len720]; omega)
theorem finG6_3 : ∀ p ∈ allL 6, chkG 6 3 p = true := all_slices (s := 180) (n := 4) (by omega) (fun k hk => by
  match k, hk with
  | 0, _ => exact finG6_3_0
  | 1, _ => exact finG6_3_1
  | 2, _ => exact finG6_3_2
  | 3, _ => exact finG6_3_3
  | n + 4, h => exact absurd h (by omega)) (by rw [len720]; omega)
theorem finG6_4 : ∀ p ∈ allL 6, chkG 6 4 p = true := all_slices (s := 180) (n := 4) (by omega) (fun k hk => by
  match k, hk with
  | 0, _ => exact finG6_4_0
  | 1, _ => exact finG6_4_1
  | 2, _ => exact finG6_4_2
  | 3, _ => exact finG6_4_3
  | n + 4, h => exact absurd h (by omega)) (by rw [len720]; omega)
structure ROk (p : List Nat) : Prop where
  ok : prOk p (List.range p.length) [] [] = true
  pr : prR p = lawR p
  cy : ∀ s < p.length, cyOk p 7 [s] s = true
  le : (lawR p).length ≤ p.length
  ei : evI p = ev p
  tu : prR (invL p) = (lawR p).map turnC
  cs : ∀ c ∈ lawR p, c ≠ [] ∧ c.Nodup ∧ ∀ x ∈ c, x < p.length
  wp : prodW p.length (wd 16 p) = p
  wl : ∀ i ∈ wd 16 p, i + 1 < p.length
theorem chkA_ok {p : List Nat} (h : chkA p = true) : ROk p := by
  unfold chkA at h
  rw [fL_eq, fL_eq, fLL_eq, fLL_eq, fL_eq] at h
  simp only [Bool.and_eq_true, decide_eq_true_eq, List.all_eq_true, List.mem_range, beq_iff_eq] at h
  obtain ⟨⟨⟨⟨⟨⟨⟨⟨h1, h2⟩, h3⟩, h4⟩, h5⟩, h6⟩, h7⟩, h8⟩, h9⟩ := h
  exact ⟨h1, h2, h3, h4, h5, h6, fun c hc => ⟨(h7 c hc).1.1, (h7 c hc).1.2, (h7 c hc).2⟩, h8, h9⟩
theorem mem16 {n : Nat} (h1 : 1 ≤ n) (h6 : n ≤ 6) : n ∈ [1, 2, 3, 4, 5, 6] := by
  have : n = 1 ∨ n = 2 ∨ n = 3 ∨ n = 4 ∨ n = 5 ∨ n = 6 := by omega
  rcases this with h | h | h | h | h | h <;> subst h <;> decide
section
variable {p q r s : List Nat} {n i : Nat}
theorem rok (P : p.Perm (List.range n)) (h1 : 1 ≤ n) (h6 : n ≤ 6) : ROk p := by
  have hm := mem_all.mpr P
  have : n = 1 ∨ n = 2 ∨ n = 3 ∨ n = 4 ∨ n = 5 ∨ n = 6 := by omega
  rcases this with e | e | e | e | e | e <;> subst e
  · exact chkA_ok (List.all_eq_true.mp finA1 p hm)
  · exact chkA_ok (List.all_eq_true.mp finA2 p hm)
  · exact chkA_ok (List.all_eq_true.mp finA3 p hm)
  · exact chkA_ok (List.all_eq_true.mp finA4 p hm)
  · exact chkA_ok (List.all_eq_true.mp finA5 p hm)
  · exact chkA_ok (finA6 p hm)
theorem gen_ok (P : p.Perm (List.range n)) (hi : i + 1 < n) (h6 : n ≤ 6) : chkG n i p = true := by
  have hm := mem_all.mpr P
  have hn : n = 2 ∨ n = 3 ∨ n = 4 ∨ n = 5 ∨ n = 6 := by omega
  rcases hn with e | e | e | e | e <;> subst e
  · have : i = 0 := by omega
    subst this
    exact List.all_eq_true.mp finG2_0 p hm
  · have : i = 0 ∨ i = 1 := by omega
    rcases this with e | e <;> subst e
    · exact List.all_eq_true.mp finG3_0 p hm
    · exact List.all_eq_true.mp finG3_1 p hm
  · have : i = 0 ∨ i = 1 ∨ i = 2 := by omega
    rcases this with e | e | e <;> subst e
    · exact List.all_eq_true.mp finG4_0 p hm
    · exact List.all_eq_true.mp finG4_1 p hm
    · exact List.all_eq_true.mp finG4_2 p hm
  · have : i = 0 ∨ i = 1 ∨ i = 2 ∨ i = 3 := by omega
    rcases this with e | e | e | e <;> subst e
    · exact List.all_eq_true.mp finG5_0 p hm
    · exact List.all_eq_true.mp finG5_1 p hm
    · exact List.all_eq_true.mp finG5_2 p hm
    · exact List.all_eq_true.mp finG5_3 p hm
  · have : i = 0 ∨ i = 1 ∨ i = 2 ∨ i = 3 ∨ i = 4 := by omega
    rcases this with e | e | e | e | e <;> subst e
    · exact finG6_0 p hm
    · exact finG6_1 p hm
    · exact finG6_2 p hm
    · exact finG6_3 p hm
    · exact finG6_4 p hm
theorem tp_ok (h1 : 1 ≤ n) (h6 : n ≤ 6) {i j : Nat} (hi : i < n) (hj : j < n) : ev (tpL n i j) = decide (i = j) ∧ (tpL n i j).Perm (List.range n) := by
  have := List.all_eq_true.mp (List.all_eq_true.mp (List.all_eq_true.mp finT n (mem16 h1 h6)) i (List.mem_range.mpr hi)) j (List.mem_range.mpr hj)
  simp only [Bool.and_eq_true, decide_eq_true_eq, beq_iff_eq] at this
  exact ⟨this.1, mem_all.mp this.2⟩
theorem tp_inv (h1 : 1 ≤ n) (h6 : n ≤ 6) (hi : i + 1 < n) : invL (tpL n i (i + 1)) = tpL n i (i + 1) :=
  of_decide_eq_true (List.all_eq_true.mp (List.all_eq_true.mp finS n (mem16 h1 h6)) i (List.mem_range.mpr (by omega)))
theorem gen_ev (P : p.Perm (List.range n)) (hi : i + 1 < n) (h6 : n ≤ 6) : ev (behL (tpL n i (i + 1)) p) = !ev p ∧ lawR (behL (behL (tpL n i (i + 1)) p) (tpL n i (i + 1))) = renN (lawR p) (tpL n i (i + 1)) := by
  have h := gen_ok P hi h6
  have S := (tp_ok (by omega) h6 (show i < n by omega) hi).2
  have SP := beh_perm S P
  have C := beh_perm SP S
  unfold chkG at h
  rw [fL_eq, fL_eq, fL_eq, fL_eq, fLL_eq, fLL_eq, fLL_eq, (rok P (by omega) h6).pr, (rok SP (by omega) h6).pr, (rok C (by omega) h6).pr] at h
  simp only [Bool.and_eq_true, decide_eq_true_eq, beq_iff_eq] at h
  refine ⟨?_, h.2⟩
  unfold ev
  rw [perm_len SP, perm_len P]
  exact h.1
theorem beh_range (P : p.Perm (List.range n)) : behL (List.range n) p = p := map_range0 (perm_len P)
theorem range_beh (P : p.Perm (List.range n)) : behL p (List.range n) = p := by
  refine ext_n (by rw [beh_len, perm_len P]) (perm_len P) fun i hi => ?_
  rw [beh_at (by rw [perm_len P]; exact hi), getD_range (at_lt P hi)]
theorem prod_perm (h1 : 1 ≤ n) (h6 : n ≤ 6) : ∀ w : List Nat, (∀ i ∈ w, i + 1 < n) → (prodW n w).Perm (List.range n)
  | [], _ => List.Perm.refl _
  | i :: w, h => beh_perm (tp_ok h1 h6 (show i < n by have := h i List.mem_cons_self; omega) (h i List.mem_cons_self)).2 (prod_perm h1 h6 w fun j hj => h j (List.mem_cons_of_mem _ hj))
def par (w : List Nat) : Bool := decide (w.length % 2 = 0)
theorem par_cons (i : Nat) (w : List Nat) : par (i :: w) = !par w := by
  unfold par
  rw [List.length_cons, Bool.eq_iff_iff]
  simp only [decide_eq_true_eq, Bool.not_eq_true', decide_eq_false_iff_not]
  omega
theorem ev_prod (P : p.Perm (List.range n)) (h1 : 1 ≤ n) (h6 : n ≤ 6) : ∀ w : List Nat, (∀ i ∈ w, i + 1 < n) → ev (behL (prodW n w) p) = (par w == ev p)
  | [], _ => by
    show ev (behL (List.range n) p) = (true == ev p)
    rw [beh_range P]
    cases ev p <;> rfl
  | i :: w, h => by
    have hi := h i List.mem_cons_self
    have hw : ∀ j ∈ w, j + 1 < n := fun j hj => h j (List.mem_cons_of_mem _ hj)
    have S := (tp_ok h1 h6 (show i < n by omega) hi).2
    have W := prod_perm h1 h6 w hw
    show ev (behL (behL (tpL n i (i + 1)) (prodW n w)) p) = _
    rw [f1 S W, (gen_ev (beh_perm W P) hi h6).1, ev_prod P h1 h6 w hw, par_cons]
    cases par w <;> cases ev p <;> rfl
theorem ev_range (h1 : 1 ≤ n) (h6 : n ≤ 6) : ev (List.range n) = true := by
  have h := (tp_ok h1 h6 (i := 0) (j := 0) (by omega) (by omega)).1
  have e : tpL n 0 0 = List.range n := by
    unfold tpL
    refine ext_n (n := n) (by rw [List.length_map, List.length_range]) List.length_range fun i hi => ?_
    rw [getD_map (by rw [List.length_range]; exact hi), getD_range hi]
    by_cases h : i = 0
    · rw [if_pos h, h]
    · rw [if_neg h, if_neg h]
  rw [e] at h
  exact h
theorem ev_mul (P : p.Perm (List.range n)) (Q : q.Perm (List.range n)) (h1 : 1 ≤ n) (h6 : n ≤ 6) : ev (behL p q) = (ev p == ev q) := by
  have hp := rok P h1 h6
  have hl := perm_len P
  have hw : ∀ i ∈ wd 16 p, i + 1 < n := fun i hi => by rw [← hl]; exact hp.wl i hi
  have e := hp.wp
  rw [hl] at e
  have a := ev_prod Q h1 h6 (wd 16 p) hw
  have b := ev_prod (List.Perm.refl (List.range n)) h1 h6 (wd 16 p) hw
  rw [range_beh (prod_perm h1 h6 _ hw), ev_range h1 h6] at b
  rw [e] at a b
  rw [a, b]
  cases par (wd 16 p) <;> rfl
/-! names given anew -/
theorem mn_le : ∀ (xs : List Nat) (x : Nat), (xs.foldl (fun a y => if y < a then y else a) x = x ∨ xs.foldl (fun a y => if y < a then y else a) x ∈ xs) ∧ xs.foldl (fun a y => if y < a then y else a) x ≤ x ∧ ∀ y ∈ xs, xs.foldl (fun a y => if y < a then y else a) x ≤ y
  | [], x => ⟨.inl rfl, Nat.le_refl _, fun _ h => nomatch h⟩
  | y :: ys, x => by
    rw [List.foldl_cons]
    obtain ⟨h1, h2, h3⟩ := mn_le ys (if y < x then y else x)
    by_cases h : y < x
    · rw [if_pos h] at h1 h2 h3 ⊢
      refine ⟨.inr (h1.elim (fun e => by rw [e]; exact List.mem_cons_self) fun e => List.mem_cons_of_mem _ e), by omega, fun z hz => ?_⟩
      rcases List.mem_cons.mp hz with rfl | hz
      · exact h2
      · exact h3 z hz
    · rw [if_neg h] at h1 h2 h3 ⊢
      refine ⟨h1.elim .inl fun e => .inr (List.mem_cons_of_mem _ e), h2, fun z hz => ?_⟩
      rcases List.mem_cons.mp hz with rfl | hz
      · omega
      · exact h3 z hz
theorem mn_spec {c : List Nat} (h : c ≠ []) : mn c ∈ c ∧ ∀ y ∈ c, mn c ≤ y := by
  cases c with
  | nil => exact absurd rfl h
  | cons x xs =>
    obtain ⟨h1, h2, h3⟩ := mn_le xs x
    refine ⟨h1.elim (fun e => by show xs.foldl _ x ∈ _; rw [e]; exact List.mem_cons_self) fun e => List.mem_cons_of_mem _ e, fun y hy => ?_⟩
    rcases List.mem_cons.mp hy with rfl | hy
    · exact h2
    · exact h3 y hy
theorem mn_perm {c d : List Nat} (h : c ≠ []) (hp : c.Perm d) : mn c = mn d := by
  have hd : d ≠ [] := fun e => h (by rw [e] at hp; exact hp.eq_nil)
  obtain ⟨a1, a2⟩ := mn_spec h
  obtain ⟨b1, b2⟩ := mn_spec hd
  exact Nat.le_antisymm (a2 _ (hp.mem_iff.mpr b1)) (b2 _ (hp.mem_iff.mp a1))
theorem norm_at {A B : List Nat} {m : Nat} (h : mn (A ++ m :: B) = m) (hA : m ∉ A) : norm (A ++ m :: B) = m :: (B ++ A) := by
  have e : (A ++ m :: B).idxOf m = A.length := by
    rw [List.idxOf_append, if_neg hA, List.idxOf_cons_self]
    omega
  unfold norm
  rw [h, e, List.drop_left, List.take_left]
  rfl
theorem norm_rot {c : List Nat} (hne : c ≠ []) (nd : c.Nodup) (k : Nat) : norm (c.drop k ++ c.take k) = norm c := by
  obtain ⟨hm, _⟩ := mn_spec hne
  obtain ⟨A, B, e⟩ := List.append_of_mem hm
  obtain ⟨m, hmm⟩ : ∃ m, m = mn c := ⟨_, rfl⟩
  rw [← hmm] at e
  have hA : m ∉ A := fun h => by
    rw [e] at nd
    exact (List.nodup_append.mp nd).2.2 m h m List.mem_cons_self rfl
  have hB : m ∉ B := fun h => by
    rw [e] at nd
    exact (List.nodup_cons.mp (List.nodup_append.mp nd).2.1).1 h
  have n0 : norm c = m :: (B ++ A) := by
    have : mn (A ++ m :: B) = m := by rw [← e]; exact hmm.symm
    rw [e]
    exact norm_at this hA
  have hp : (c.drop k ++ c.take k).Perm c := by
    have := List.perm_append_comm (l₁ := c.drop k) (l₂ := c.take k)
    rw [List.take_append_drop] at this
    exact this
  have hmn : mn (c.drop k ++ c.take k) = m := by
    rw [mn_perm (fun z => hne (by rw [z] at hp; exact hp.symm.eq_nil)) hp]
    exact hmm.symm
  rw [n0]
  by_cases hk : k ≤ A.length
  · have e2 : c.drop k ++ c.take k = A.drop k ++ m :: (B ++ A.take k) := by
      rw [e, List.drop_append_of_le_length hk, List.take_append_of_le_length hk, List.append_assoc, List.cons_append]
    rw [e2] at hmn ⊢
    rw [norm_at hmn (fun h => hA (List.mem_of_mem_drop h)), List.append_assoc, List.take_append_drop]
  · obtain ⟨j, hj⟩ : ∃ j, k = A.length + (j + 1) := ⟨k - A.length - 1, by omega⟩
    have e2 : c.drop k ++ c.take k = (B.drop j ++ A) ++ m :: B.take j := by
      rw [e, hj, List.drop_append, List.take_append]
      have d1 : A.drop (A.length + (j + 1)) = [] := List.drop_eq_nil_of_le (by omega)
      have d2 : A.take (A.length + (j + 1)) = A := List.take_of_length_le (by omega)
      rw [d1, d2, show A.length + (j + 1) - A.length = j + 1 by omega, List.nil_append, List.drop_succ_cons, List.take_succ_cons, List.append_assoc]
    rw [e2] at hmn ⊢
    rw [norm_at hmn (fun h => by
      rcases List.mem_append.mp h with h | h
      · exact hB (List.mem_of_mem_drop h)
      · exact hA h), ← List.append_assoc, List.take_append_drop]
theorem norm_perm (c : List Nat) : (norm c).Perm c := by
  unfold norm
  have := List.perm_append_comm (l₁ := c.drop (c.idxOf (mn c))) (l₂ := c.take (c.idxOf (mn c)))
  rw [List.take_append_drop] at this
  exact this
theorem norm_map {c : List Nat} (hne : c ≠ []) (g : List Nat) (nd : (mapC g c).Nodup) : norm (mapC g (norm c)) = norm (mapC g c) := by
  have hn : mapC g c ≠ [] := fun e => hne (List.map_eq_nil_iff.mp e)
  have e : mapC g (norm c) = (mapC g c).drop (c.idxOf (mn c)) ++ (mapC g c).take (c.idxOf (mn c)) := by
    unfold mapC norm
    rw [List.map_append, List.map_drop, List.map_take]
  rw [e]
  exact norm_rot hn nd _
theorem toI_inj {a b : List Nat} (h : toI a = toI b) : a = b := by
  unfold toI at h
  exact (List.map_inj_right (fun x y e => by omega)).mp h
theorem ins_eq (x : List Nat) : ∀ l : List (List Nat), (insL x l).map toI = insX (toI x) (l.map toI)
  | [] => rfl
  | y :: ys => by
    unfold insL
    rw [List.map_cons]
    unfold insX
    split
    · rw [List.map_cons, ins_eq x ys]
    · rfl
theorem sort_eq : ∀ l : List (List Nat), (sortL l).map toI = sortX (l.map toI)
  | [] => rfl
  | x :: xs => by
    show (insL x (sortL xs)).map toI = _
    rw [ins_eq, sort_eq xs]
    rfl
theorem insL_perm (x : List Nat) : ∀ l : List (List Nat), (insL x l).Perm (x :: l)
  | [] => List.Perm.refl _
  | y :: ys => by
    unfold insL
    split
    · exact ((insL_perm x ys).cons y).trans (List.Perm.swap _ _ _)
    · exact List.Perm.refl _
theorem sortL_perm : ∀ l : List (List Nat), (sortL l).Perm l
  | [] => List.Perm.refl _
  | x :: xs => (insL_perm x (sortL xs)).trans ((sortL_perm xs).cons x)
theorem sort_of_perm {a b : List (List Nat)} (h : a.Perm b) : sortL a = sortL b := by
  have h1 : (sortL a).map toI = (sortL b).map toI := by
    rw [sort_eq, sort_eq]
    exact sortX_eq ((sortX_perm _).trans (h.map toI)) (sortX_pw _)
  exact (List.map_inj_right (fun x y e => toI_inj e)).mp h1
theorem nodup_map (Q : q.Perm (List.range n)) {c : List Nat} (nd : c.Nodup) (hc : ∀ x ∈ c, x < n) : (mapC q c).Nodup := by
  unfold mapC
  rw [List.nodup_iff_pairwise_ne, List.pairwise_map]
  refine List.Pairwise.imp_of_mem (fun {a b} ha hb hab e => hab ?_) (List.nodup_iff_pairwise_ne.mp nd)
  have h1 := inv_at Q (hc a ha)
  have h2 := inv_at Q (hc b hb)
  rw [← h1, ← h2, e]
def Cyc (n : Nat) (R : List (List Nat)) : Prop := ∀ c ∈ R, c ≠ [] ∧ c.Nodup ∧ ∀ x ∈ c, x < n
theorem ren_len (R : List (List Nat)) (q : List Nat) : (renN R q).length = R.length := by
  unfold renN
  rw [(sortL_perm _).length_eq, List.length_map]
theorem ren_comp {R : List (List Nat)} (h : Cyc n R) {a b : List Nat} (A : a.Perm (List.range n)) (B : b.Perm (List.range n)) : renN (renN R a) b = renN R (behL a b) := by
  have e1 : sortL ((sortL (R.map fun c => norm (mapC a c))).map fun c => norm (mapC b c)) = sortL ((R.map fun c => norm (mapC a c)).map fun c => norm (mapC b c)) := sort_of_perm ((sortL_perm _).map _)
  show sortL ((sortL (R.map fun c => norm (mapC a c))).map fun c => norm (mapC b c)) = sortL (R.map fun c => norm (mapC (behL a b) c))
  rw [e1, List.map_map]
  congr 1
  refine List.map_congr_left fun c hc => ?_
  obtain ⟨c1, c2, c3⟩ := h c hc
  have la := perm_len A
  have m1 : mapC b (mapC a c) = mapC (behL a b) c := by
    unfold mapC
    rw [List.map_map]
    refine List.map_congr_left fun x hx => ?_
    exact (beh_at (by rw [la]; exact c3 x hx)).symm
  show norm (mapC b (norm (mapC a c))) = _
  rw [norm_map (c := mapC a c) (fun e => c1 (List.map_eq_nil_iff.mp e)) b (nodup_map B (nodup_map A c2 c3) fun x hx => by
    obtain ⟨z, hz, rfl⟩ := List.mem_map.mp hx
    exact at_lt A (c3 z hz)), m1]
def cj (p q : List Nat) : List Nat := behL (behL (invL q) p) q
theorem cj_perm (P : p.Perm (List.range n)) (Q : q.Perm (List.range n)) : (cj p q).Perm (List.range n) := beh_perm (beh_perm (inv_perm Q) P) Q
theorem cj_comp (P : p.Perm (List.range n)) {a b : List Nat} (A : a.Perm (List.range n)) (B : b.Perm (List.range n)) : cj p (behL a b) = cj (cj p a) b := by
  unfold cj
  have Ai := inv_perm A
  have Bi := inv_perm B
  rw [f6 A B, f1 Bi Ai, ← f1 (beh_perm Bi (beh_perm Ai P)) A, f1 Bi (beh_perm Ai P)]
def chkI (p : List Nat) : Bool := fL p fun p => fLL (prR p) fun R => decide (renN R (List.range p.length) = R)
theorem finI1 : (allL 1).all chkI = true := by decide +kernel
theorem finI2 : (allL 2).all chkI = true := by decide +kernel
theorem finI3 : (allL 3).all chkI = true := by decide +kernel
theorem finI4 : (allL 4).all chkI = true := by decide +kernel
theorem finI5 : (allL 5).all chkI = true := by decide +kernel
theorem finI6 : (allL 6).all chkI = true := by decide +kernel
theorem ren_id (P : p.Perm (List.range n)) (h1 : 1 ≤ n) (h6 : n ≤ 6) : renN (lawR p) (List.range n) = lawR p := by
  have hm := mem_all.mpr P
  have h : chkI p = true := by
    have : n = 1 ∨ n = 2 ∨ n = 3 ∨ n = 4 ∨ n = 5 ∨ n = 6 := by omega
    rcases this with e | e | e | e | e | e <;> subst e
    · exact List.all_eq_true.mp finI1 p hm
    · exact List.all_eq_true.mp finI2 p hm
    · exact List.all_eq_true.mp finI3 p hm
    · exact List.all_eq_true.mp finI4 p hm
    · exact List.all_eq_true.mp finI5 p hm
    · exact List.all_eq_true.mp finI6 p hm
  unfold chkI at h
  rw [fL_eq, fLL_eq, (rok P h1 h6).pr, perm_len P] at h
  exact of_decide_eq_true h
theorem cyc_of (P : p.Perm (List.range n)) (h1 : 1 ≤ n) (h6 : n ≤ 6) : Cyc n (lawR p) := fun c hc => by
  have := (rok P h1 h6).cs c hc
  rw [perm_len P] at this
  exact this
theorem ren_prod (h1 : 1 ≤ n) (h6 : n ≤ 6) : ∀ (w : List Nat) (p : List Nat), p.Perm (List.range n) → (∀ i ∈ w, i + 1 < n) → lawR (cj p (prodW n w)) = renN (lawR p) (prodW n w)
  | [], p, P, _ => by
    show lawR (behL (behL (invL (List.range n)) p) (List.range n)) = renN (lawR p) (List.range n)
    rw [inv_range, beh_range P, range_beh P, ren_id P h1 h6]
  | i :: w, p, P, h => by
    have hi := h i List.mem_cons_self
    have hw : ∀ j ∈ w, j + 1 < n := fun j hj => h j (List.mem_cons_of_mem _ hj)
    have S := (tp_ok h1 h6 (show i < n by omega) hi).2
    have W := prod_perm h1 h6 w hw
    show lawR (cj p (behL (tpL n i (i + 1)) (prodW n w))) = renN (lawR p) (behL (tpL n i (i + 1)) (prodW n w))
    rw [cj_comp P S W, ren_prod h1 h6 w _ (cj_perm P S) hw, ← ren_comp (cyc_of P h1 h6) S W]
    congr 1
    have := (gen_ev P hi h6).2
    unfold cj
    rw [tp_inv h1 h6 hi]
    exact this
theorem ren_conj (P : p.Perm (List.range n)) (Q : q.Perm (List.range n)) (h1 : 1 ≤ n) (h6 : n ≤ 6) : lawR (cj p q) = renN (lawR p) q := by
  have hq := rok Q h1 h6
  have hl := perm_len Q
  have e := hq.wp
  rw [hl] at e
  have := ren_prod h1 h6 (wd 16 q) p P (fun i hi => by rw [← hl]; exact hq.wl i hi)
  rw [e] at this
  exact this
theorem len_conj (P : p.Perm (List.range n)) (Q : q.Perm (List.range n)) (h1 : 1 ≤ n) (h6 : n ≤ 6) : (lawR (behL q p)).length = (lawR (behL p q)).length := by
  have e : cj (behL p q) p = behL q p := by
    unfold cj
    rw [← f1 (inv_perm P) P, f5' P, beh_range Q]
  have := ren_conj (beh_perm P Q) P h1 h6
  rw [e] at this
  rw [this, ren_len]
end
end K05

end
section
set_option Elab.async false
set_option linter.all false
set_option maxRecDepth 100000
set_option autoImplicit false
set_option maxHeartbeats 400000
open PySem PySem.Spec PyProof.Rows L2
open TL hiding eqT neT
namespace K05
local macro_rules | `(tactic| trivial) => `(tactic| simp -implicitDefEqProofs only [w_callBF, kCallB_ap, gCallB_ap, gFRB_ok, lf_int, lf_tn, lf_tr, lf_bl, w_setDF, kSetD_ap, gSetD0_ap, kSetD2_ap, gSetD_ap, w_okB, w_excB, w_dicF, w_starA, kStar_l, kStar_t, kStar2_ap, vals_star, w_callKF, kCallK_ap, kCallK2_ap, gCallK_ap, prm_nil, w_tryF, kTry_ok, kTry_exc, gTry_t, gTry_f, kTry2_ap, w_raiseF, kRaise_ap, gRaise_ap, w_par3F, kPar3a_ap, kPar3b_ap, kPar3c_ap, gPar_exc, gPar_exc1, w_slF, kSl1_ap, kSl2_ap, kSl3_ap, w_someB, kSome_ap, w_noB, w_rngI2, kRng2_ap, List.nil_append, List.cons_append,  w_con, w_opE, kOpE_sh, kOpE_ow, w_nilA, w_consA, kCons_ap, kCons2_ap, w_op2, kOp2_ap, kOp2'_ap, gOp2_ap, w_op1, kOp1_ap, gOp1_ap, w_opN, kOpN_ap, gOpN_ap, w_res, w_tst, kTst_ap, w_chn, kChn_ap, kChn2_ap, gChn_ap, hChn_t, hChn_f, kChn3_ap, w_andT, kAndT_t, kAndT_f, w_orT, kOrT_t, kOrT_f, w_notT, kNotT_ap, w_andE, kAndE_t, kAndE_f, w_orE, kOrE_t, kOrE_f, w_notE, kNotE_ap, w_ite3, kIte3_t, kIte3_f, w_lstF, kLst_ap, w_tupF, kTup_ap, gLst_ap, gTup_ap, w_seq, kSeq_nx, kSeq_rt, kSeq_bk, kSeq_ct, w_nxF, w_bkF, w_ctF, w_retF, kRet_ap, w_retNF, w_dropF, kDrop_ap, w_ifF, kIfF_t, kIfF_f, w_setF, kSet_ap, w_asgF, kAsg_ap, gAsg_ap, w_forF, kFor_ap, w_forL, w_forL0, gForL_ap, kForL_nx, kForL_ct, kForL_bk, kForL_rt, w_callF, kCall_ap, gCall_ap, gFR_ok, gFR_exc, w_seqI, kSeqI_l, kSeqI_t, w_enumI, kEnumI_l, kEnumI_t, w_zipI, kZip_ap, kZip2_l, kZip2_t, w_rngI1, kRng_n, w_yesT, w_var, w_varE, w_varR, gVar_sh, gVar_ow, gVarE_sh, gVarE_ow, gVarR_sh, gVarR_ow, get_pl, get_val, tree_sh, tree_ow, slot_tree_sh, slot_tree_ow, w_methF, gMeth0_ap, kMeth_ap, gMeth_ap, hMeth_ap, w_setIF, kSetI_ap, gSetI0_ap, kSetI2_ap, gSetI_ap, hSetI_ap, w_parF, kPar_ap, gPar_ap, gPar_one, nil_app, put_nm, put_tp, put_tpw, put_tpl, putAll_nil, putAll_cons, vals_nil, vals_cons, gets_nil, gets_cons, Option.map_some, Option.bind_some, List.getElem?_cons_succ, List.getElem?_cons_zero, List.set_cons_succ, List.set_cons_zero, List.length_cons, List.length_nil, Nat.zero_add, Nat.reduceAdd, Nat.reduceLT, Nat.reduceLeDiff, Nat.le_refl, and_self, ↓reduceIte, Bool.not_true, Bool.not_false, fnEnd, *])
theorem r_is_integer (z : Int) (nb : Nib) : f_is_integer [.int z] nb = .ok (.sh (.bl true)) nb := by
  simp [f_is_integer, fnOf, fnEnd, b_is_integer, sta0, N_is_integer, var_sh, isN_int_int, isN_int_bool]
theorem r_is_numbers_l (p : List Nat) (nb : Nib) (hp : p.length ≤ 1000) : f_is_numbers [.lst (tn p)] nb = .ok (.sh (.bl true)) nb := by
  have h := compF_run (own := [1]) (it := seqI (opE (varE 0))) (tg := .nm 1) (tt := yesT) (te := callF 1 f_is_integer (consA (opE (varE 1)) nilA)) (S := ⟨[.sh (.lst (tn p)), .no], [], nb⟩) (S1 := ⟨[.sh (.lst (tn p)), .no], [], nb⟩) (ts := tn p) (fun _ => some (.bl true)) (by simp [varE_sh]) rfl (by decide) (by simp [sz]; omega) (fun t ht acc => by
    obtain ⟨n, _, rfl⟩ := List.mem_map.mp ht
    simp [compStep, varE_sh, r_is_integer])
  simp [f_is_numbers, fnOf, fnEnd, b_is_numbers, b_is_numbers_C1, sta0, N_is_numbers, var_sh, isN_lst, h, filterMap_const, allN_rep]
theorem r_is_numbers_t (p : List Nat) (nb : Nib) (hp : p.length ≤ 1000) : f_is_numbers [.tup (tn p)] nb = .ok (.sh (.bl true)) nb := by
  have h := compF_run (own := [1]) (it := seqI (opE (varE 0))) (tg := .nm 1) (tt := yesT) (te := callF 1 f_is_integer (consA (opE (varE 1)) nilA)) (S := ⟨[.sh (.tup (tn p)), .no], [], nb⟩) (S1 := ⟨[.sh (.tup (tn p)), .no], [], nb⟩) (ts := tn p) (fun _ => some (.bl true)) (by simp [varE_sh]) rfl (by decide) (by simp [sz]; omega) (fun t ht acc => by
    obtain ⟨n, _, rfl⟩ := List.mem_map.mp ht
    simp [compStep, varE_sh, r_is_integer])
  simp [f_is_numbers, fnOf, fnEnd, b_is_numbers, b_is_numbers_C1, sta0, N_is_numbers, var_sh, isN_tup, h, filterMap_const, allN_rep]

theorem r_is_numbers (b : Bool) (p : List Nat) (nb : Nib) (hp : p.length ≤ 1000) : f_is_numbers [sq b (tn p)] nb = .ok (.sh (.bl true)) nb := by
  cases b
  · exact r_is_numbers_l p nb hp
  · exact r_is_numbers_t p nb hp

theorem sortB_sq (b : Bool) {p : List Nat} {n : Nat} (hp : p.Perm (List.range n)) : sortBN [sq b (tn p)] = some (.ow (.lst (tn (List.range n)))) := by
  cases b
  · show sortBN [.lst (tn p)] = _
    unfold sortBN
    rw [sorted_l p n hp]
  · show sortBN [.tup (tn p)] = _
    unfold sortBN
    rw [sorted_t p n hp]
theorem len_sq (b : Bool) (p : List Nat) : lenN [sq b (tn p)] = some (.sh (.int (p.length : Int))) := by
  cases b
  · exact len_tn p
  · exact len_tnt p
theorem tuple_sq (b : Bool) (ts : List T) : tupleN [sq b ts] = some (.sh (.tup ts)) := by cases b <;> rfl
theorem eq_lst (p q : List Nat) : TL.eqT (.lst (tn p)) (.lst (tn q)) = some (.sh (.bl (decide (p = q)))) := by
  unfold TL.eqT
  rw [if_pos ⟨okD_lst p 59, okD_lst q 59⟩, eqD_lst]
theorem r_is_wiring (b : Bool) (p : List Nat) (n : Nat) (nb : Nib) (hp : p.Perm (List.range n)) (h1 : 1 ≤ n) (h6 : n ≤ 6) : f_is_wiring [sq b (tn p)] nb = .ok (.sh (.bl true)) nb := by
  have hl := perm_len hp
  have e1 := r_is_numbers b p nb (by omega)
  have e2 := len_sq b p
  rw [hl] at e2
  have e3 := le_nat 1 n
  rw [decide_eq_true h1] at e3
  replace e3 : leT (.int 1) (.int (n : Int)) = _ := e3
  have e4 : leT (.int (n : Int)) (.int 6) = _ := le_nat n 6
  rw [decide_eq_true h6] at e4
  have e5 := sortB_sq b hp
  have e6 := lrg_n n (by omega)
  have e7 := eq_lst (List.range n) (List.range n)
  rw [decide_eq_true rfl] at e7
  have s2 : f_is_wiring [sq b (tn p)] nb = fnEnd (b_is_wiring ⟨[.sh (sq b (tn p))], [], nb⟩) := rfl
  rw [s2]
  unfold b_is_wiring
  clear hp h1 h6 hl s2
  trivial
theorem r_need_wiring (b : Bool) (p : List Nat) (n : Nat) (x : T) (nb : Nib) (hp : p.Perm (List.range n)) (h1 : 1 ≤ n) (h6 : n ≤ 6) : f_need_wiring [sq b (tn p), x] nb = .ok (.sh (.tup (tn p))) nb := by
  have e1 := r_is_wiring b p n nb hp h1 h6
  have e2 := tuple_sq b (tn p)
  have s2 : f_need_wiring [sq b (tn p), x] nb = fnEnd (b_need_wiring ⟨[.sh (sq b (tn p)), .sh x], [], nb⟩) := rfl
  rw [s2]
  unfold b_need_wiring
  clear hp h1 h6 s2
  trivial
theorem r_back_loop (r : Slot) (nb : Nib) : ∀ (p : List Nat) (i : Nat) (acc : List Nat) (a b : Slot), (∀ x ∈ p, x < acc.length) →
    ∃ a' b', forL (.tp [2, 3]) (setIF 1 (opE (varE 2)) (opE (varE 3))) (enumT i (tn p)) ⟨[r, .ow (.lst (tn acc)), a, b], [], nb⟩ = .ok .nx ⟨[r, .ow (.lst (tn (backL i p acc))), a', b'], [], nb⟩
  | [], i, acc, a, b, _ => ⟨a, b, rfl⟩
  | x :: p, i, acc, a, b, h => by
    have hx : x < acc.length := h x List.mem_cons_self
    obtain ⟨a', b', e⟩ := r_back_loop r nb p (i + 1) (acc.set x i) (.sh (.int (i : Int))) (.sh (.int (x : Int))) (fun y hy => by rw [List.length_set]; exact h y (List.mem_cons_of_mem _ hy))
    refine ⟨a', b', ?_⟩
    rw [tn_cons, enumT, forL_cons]
    simp [varE_sh, ixN_n hx, tn_set, e, backL]
theorem r_back_of (p : List Nat) (nb : Nib) (h : ∀ x ∈ p, x < p.length) : f_back_of [.tup (tn p)] nb = .ok (.sh (.tup (tn (backL 0 p p)))) nb := by
  obtain ⟨a', b', e⟩ := r_back_loop (.sh (.tup (tn p))) nb p 0 p .no .no h
  simp [f_back_of, fnOf, fnEnd, b_back_of, b_back_of_L1, sta0, N_back_of, var_sh, varE_sh, listN, e, var_ow, get_ow, tupleN]
section
variable {p : List Nat} {n : Nat}
theorem r_back (b : Bool) (hp : p.Perm (List.range n)) (h1 : 1 ≤ n) (h6 : n ≤ 6) (nb : Nib) : f_back [sq b (tn p)] nb = .ok (.sh (.tup (tn (backL 0 p p)))) nb := by
  have e1 := r_need_wiring b p n (.str "row") nb hp h1 h6
  have e2 := r_back_of p nb (fun x hx => by rw [perm_len hp]; exact perm_lt hp x hx)
  have s2 : f_back [sq b (tn p)] nb = fnEnd (b_back ⟨[.sh (sq b (tn p))], [], nb⟩) := rfl
  rw [s2]
  unfold b_back
  clear hp h1 h6
  trivial
end
end K05

end
section
set_option Elab.async false
set_option linter.all false
set_option maxRecDepth 100000
set_option autoImplicit false
set_option maxHeartbeats 400000
open PySem PySem.Spec PyProof.Rows L2
open TL hiding eqT neT
namespace K05
local macro_rules | `(tactic| trivial) => `(tactic| simp -implicitDefEqProofs only [w_callBF, kCallB_ap, gCallB_ap, gFRB_ok, lf_int, lf_tn, lf_tr, lf_bl, w_setDF, kSetD_ap, gSetD0_ap, kSetD2_ap, gSetD_ap, w_okB, w_excB, w_dicF, w_starA, kStar_l, kStar_t, kStar2_ap, vals_star, w_callKF, kCallK_ap, kCallK2_ap, gCallK_ap, prm_nil, w_tryF, kTry_ok, kTry_exc, gTry_t, gTry_f, kTry2_ap, w_raiseF, kRaise_ap, gRaise_ap, w_par3F, kPar3a_ap, kPar3b_ap, kPar3c_ap, gPar_exc, gPar_exc1, w_slF, kSl1_ap, kSl2_ap, kSl3_ap, w_someB, kSome_ap, w_noB, w_rngI2, kRng2_ap, List.nil_append, List.cons_append,  w_con, w_opE, kOpE_sh, kOpE_ow, w_nilA, w_consA, kCons_ap, kCons2_ap, w_op2, kOp2_ap, kOp2'_ap, gOp2_ap, w_op1, kOp1_ap, gOp1_ap, w_opN, kOpN_ap, gOpN_ap, w_res, w_tst, kTst_ap, w_chn, kChn_ap, kChn2_ap, gChn_ap, hChn_t, hChn_f, kChn3_ap, w_andT, kAndT_t, kAndT_f, w_orT, kOrT_t, kOrT_f, w_notT, kNotT_ap, w_andE, kAndE_t, kAndE_f, w_orE, kOrE_t, kOrE_f, w_notE, kNotE_ap, w_ite3, kIte3_t, kIte3_f, w_lstF, kLst_ap, w_tupF, kTup_ap, gLst_ap, gTup_ap, w_seq, kSeq_nx, kSeq_rt, kSeq_bk, kSeq_ct, w_nxF, w_bkF, w_ctF, w_retF, kRet_ap, w_retNF, w_dropF, kDrop_ap, w_ifF, kIfF_t, kIfF_f, w_setF, kSet_ap, w_asgF, kAsg_ap, gAsg_ap, w_forF, kFor_ap, w_forL, w_forL0, gForL_ap, kForL_nx, kForL_ct, kForL_bk, kForL_rt, w_callF, kCall_ap, gCall_ap, gFR_ok, gFR_exc, w_seqI, kSeqI_l, kSeqI_t, w_enumI, kEnumI_l, kEnumI_t, w_zipI, kZip_ap, kZip2_l, kZip2_t, w_rngI1, kRng_n, w_yesT, w_var, w_varE, w_varR, gVar_sh, gVar_ow, gVarE_sh, gVarE_ow, gVarR_sh, gVarR_ow, get_pl, get_val, tree_sh, tree_ow, slot_tree_sh, slot_tree_ow, w_methF, gMeth0_ap, kMeth_ap, gMeth_ap, hMeth_ap, w_setIF, kSetI_ap, gSetI0_ap, kSetI2_ap, gSetI_ap, hSetI_ap, w_parF, kPar_ap, gPar_ap, gPar_one, nil_app, put_nm, put_tp, put_tpw, put_tpl, putAll_nil, putAll_cons, vals_nil, vals_cons, gets_nil, gets_cons, Option.map_some, Option.bind_some, List.getElem?_cons_succ, List.getElem?_cons_zero, List.set_cons_succ, List.set_cons_zero, List.length_cons, List.length_nil, Nat.zero_add, Nat.reduceAdd, Nat.reduceLT, Nat.reduceLeDiff, Nat.le_refl, and_self, ↓reduceIte, Bool.not_true, Bool.not_false, fnEnd, *])

theorem b_tip : b_law_sip = drawB 81041 4523 2147483579 61417 4523 2147483477 2521 81041 61417 2147483587 := rfl
theorem r_tip {k m : Nat} {nb : Nib} (h : NbOk k nb) (hk : k ≤ 100000) (hm : 0 < m) (hm2 : m ≤ 1000000000) : ∃ (r : Nat) (nb' : Nib), r < m ∧ NbOk (k + 1) nb' ∧ f_law_sip [.nib, .int (m : Int)] nb = .ok (.sh (.int (r : Int))) nb' := by
  obtain ⟨r, S, h1, h2, h3⟩ := run_draw (a := 81041) (b := 4523) (p1 := 2147483579) (c1 := 61417) (b1 := 4523) (p2 := 2147483477) (e := 2521) (a2 := 81041) (c2 := 61417) (p3 := 2147483587) (x2 := .no) (x3 := .no) (x4 := .no) (x5 := .no) h hk hm (by omega) (by omega) (by omega) (by omega) (by omega) (by omega) (by omega) (by omega) (by omega) (by omega)
  refine ⟨r, S.nb, h1, h2, ?_⟩
  show fnEnd (b_law_sip ⟨[.sh .nib, .sh (.int (m : Int)), .no, .no, .no, .no], [], nb⟩) = _
  rw [b_tip, h3]
  rfl
theorem r_pick {k : Nat} {nb : Nib} (h : NbOk k nb) (hk : k ≤ 100000) (L : List T) (h0 : 0 < L.length) (h1 : L.length ≤ 1000) : ∃ t nb', t ∈ L ∧ NbOk (k + 1) nb' ∧ f_law_one_of [.nib, .lst L] nb = .ok (.sh t) nb' := by
  obtain ⟨r, nb1, hr, k1, e1⟩ := r_tip h hk (m := L.length) h0 (by omega)
  obtain ⟨t, g⟩ : ∃ t, L[r]? = some t := ⟨_, List.getElem?_eq_getElem hr⟩
  refine ⟨t, nb1, List.mem_of_getElem? g, k1, ?_⟩
  have e2 : lenN [.lst L] = some (.sh (.int (L.length : Int))) := rfl
  have e3 := ix_lst g
  have s2 : f_law_one_of [.nib, .lst L] nb = fnEnd (b_law_one_of ⟨[.sh .nib, .sh (.lst L)], [], nb⟩) := rfl
  rw [s2]
  unfold b_law_one_of
  clear g hr h0 h1 h hk k1
  trivial
theorem row_body {k top st : Nat} {left found : List Nat} {nb : Nib} (h : NbOk k nb) (hk : k ≤ 100000) (h0 : 0 < left.length) (h1 : left.length ≤ 1000) (h2 : found.length ≤ 1000) (w : Slot) :
    ∃ (r x : Nat) (nb' : Nib), left[r]? = some x ∧ NbOk (k + 1) nb' ∧ b_law_row_L1 ⟨[.sh .nib, w, .sh (.int (st : Int)), .ow (.lst (tn left)), .ow (.lst (tn found)), .sh (.int (top : Int))], [], nb⟩
      = .ok .nx ⟨[.sh .nib, w, .sh (.int (st : Int)), .ow (.lst (tn (left.eraseIdx r))), .ow (.lst (tn (found ++ [x]))), .sh (.int (top : Int))], [], nb'⟩ := by
  have fin : ∀ r : Nat, r < left.length → ∃ x, left[r]? = some x ∧ popAtP (tn left) [.int (r : Int)] = some (tn (left.eraseIdx r), .int (x : Int)) ∧ apP (tn found) [.int (x : Int)] = some (tn (found ++ [x]), .non) := fun r hr => by
    have g : left[r]? = some left[r] := List.getElem?_eq_getElem hr
    refine ⟨_, g, popAt_n g (by omega), ?_⟩
    rw [tn_append]
    exact ap_ok (lt_sz (by rw [tn_length]; omega))
  have g1 := lt_nat top st
  by_cases c1 : top < st
  · rw [decide_eq_true c1] at g1
    obtain ⟨x, f1, f2, f3⟩ := fin 0 h0
    have f2 : popAtP (tn left) [.int 0] = _ := f2
    refine ⟨0, x, nb, f1, h.mono (by omega), ?_⟩
    clear f1 fin h0 h1 h2 hk h c1
    unfold b_law_row_L1
    trivial
  · rw [decide_eq_false c1] at g1
    obtain ⟨r, nb1, hr, k1, e1⟩ := r_tip h hk (m := left.length) h0 (by omega)
    have hl := len_tn left
    obtain ⟨x, f1, f2, f3⟩ := fin r hr
    refine ⟨r, x, nb1, f1, k1, ?_⟩
    clear f1 fin hr h0 h1 h2 hk h k1 c1
    unfold b_law_row_L1
    trivial
theorem row_loop (w : Slot) (st : Nat) : ∀ (l left found : List Nat) (k : Nat) (x5 : Slot) (nb : Nib), NbOk k nb → k + l.length ≤ 100000 → l.length = left.length → left.length ≤ 1000 → found.length + left.length ≤ 1000 →
    ∃ (found' : List Nat) (x5' : Slot) (nb' : Nib), NbOk (k + l.length) nb' ∧ found'.Perm (left ++ found) ∧
      forL (.nm 5) b_law_row_L1 (tn l) ⟨[.sh .nib, w, .sh (.int (st : Int)), .ow (.lst (tn left)), .ow (.lst (tn found)), x5], [], nb⟩
        = .ok .nx ⟨[.sh .nib, w, .sh (.int (st : Int)), .ow (.lst []), .ow (.lst (tn found')), x5'], [], nb'⟩
  | [], left, found, k, x5, nb, h, _, hl, _, _ => by
    have e : left = [] := List.length_eq_zero_iff.mp hl.symm
    subst e
    exact ⟨found, x5, nb, h, List.Perm.refl _, rfl⟩
  | t :: l, left, found, k, x5, nb, h, hk, hl, hs, hs2 => by
    rw [List.length_cons] at hk hl
    obtain ⟨r, x, nb1, f1, k1, e1⟩ := row_body (top := t) (st := st) (found := found) h (by omega) (show 0 < left.length by omega) hs (by omega) w
    have hp := eraseIdx_perm f1
    have hr : r < left.length := (List.getElem?_eq_some_iff.mp f1).1
    have hel : (left.eraseIdx r).length = left.length - 1 := List.length_eraseIdx_of_lt hr
    obtain ⟨found', x5', nb', k2, p2, e2⟩ := row_loop w st l (left.eraseIdx r) (found ++ [x]) (k + 1) (.sh (.int (t : Int))) nb1 k1 (by omega) (by omega) (by omega) (by rw [List.length_append, List.length_singleton]; omega)
    refine ⟨found', x5', nb', by rw [List.length_cons, show k + (l.length + 1) = k + 1 + l.length by omega]; exact k2, p2.trans ?_, ?_⟩
    · refine List.Perm.trans ?_ (List.Perm.append_right found hp.symm)
      rw [← List.append_assoc]
      refine (List.perm_append_comm).trans ?_
      rw [List.singleton_append, List.cons_append]
    · rw [tn_cons, forL_cons]
      show ((b_law_row_L1 ⟨[.sh .nib, w, .sh (.int (st : Int)), .ow (.lst (tn left)), .ow (.lst (tn found)), .sh (.int (t : Int))], [], nb⟩).bind _) = _
      rw [e1, R.bind_ok]
      exact e2
theorem r_row {k w : Nat} {nb : Nib} (h : NbOk k nb) (hk : k ≤ 90000) (hw : w ≤ 6) : ∃ (p : List Nat) (nb' : Nib), p.Perm (List.range w) ∧ NbOk (k + 7) nb' ∧ f_law_row [.nib, .int (w : Int)] nb = .ok (.ow (.lst (tn p))) nb' := by
  obtain ⟨t, nb1, ht, k1, e1⟩ := r_pick h (by omega) [.int 0, .int 0, .int 1, .int 2] (by decide) (by decide)
  obtain ⟨st, rfl⟩ : ∃ st : Nat, t = .int (st : Int) := by
    simp only [List.mem_cons, List.not_mem_nil, or_false] at ht
    rcases ht with e | e | e | e
    · exact ⟨0, e⟩
    · exact ⟨0, e⟩
    · exact ⟨1, e⟩
    · exact ⟨2, e⟩
  obtain ⟨p, x5', nb3, k3, hp, e3⟩ := row_loop (.sh (.int (w : Int))) st (List.range w) (List.range w) [] (k + 1) .no nb1 k1 (by simp; omega) rfl (by simp; omega) (by simp; omega)
  rw [List.length_range] at k3
  rw [List.append_nil] at hp
  rw [tn_nil] at e3
  refine ⟨p, nb3, hp, k3.mono (by omega), ?_⟩
  have e4 : ∀ S, kRng (.val (.int (w : Int))) S = .ok (tn (List.range w)) S := fun S => kRng_n S w (by omega)
  have e5 := lrg_n w (by omega)
  have s2 : f_law_row [.nib, .int (w : Int)] nb = fnEnd (b_law_row ⟨[.sh .nib, .sh (.int (w : Int)), .no, .no, .no, .no], [], nb⟩) := rfl
  have kk : b_law_row ⟨[.sh .nib, .sh (.int (w : Int)), .no, .no, .no, .no], [], nb⟩ = .ok (.rt (.ow (.lst (tn p)))) ⟨[.sh .nib, .sh (.int (w : Int)), .sh (.int (st : Int)), .ow (.lst []), .no, x5'], [], nb3⟩ := by
    unfold b_law_row
    clear h hk hw k3 hp s2 k1 ht
    refine seq_nx (S1 := ⟨[.sh .nib, .sh (.int (w : Int)), .sh (.int (st : Int)), .no, .no, .no], [], nb1⟩) (by clear e3 e4 e5; trivial) ?_
    refine seq_nx (S1 := ⟨[.sh .nib, .sh (.int (w : Int)), .sh (.int (st : Int)), .ow (.lst (tn (List.range w))), .ow (.lst []), .no], [], nb1⟩) (by clear e1 e3; trivial) ?_
    refine seq_nx (S1 := ⟨[.sh .nib, .sh (.int (w : Int)), .sh (.int (st : Int)), .ow (.lst []), .ow (.lst (tn p)), x5'], [], nb3⟩) (by clear e1; trivial) ?_
    clear e1 e3
    trivial
  rw [s2, kk]
  rfl
end K05

end
section
set_option Elab.async false
set_option linter.all false
set_option maxRecDepth 100000
set_option autoImplicit false
set_option maxHeartbeats 400000
open PySem PySem.Spec PyProof.Rows L2
open TL hiding eqT neT
namespace K05
local macro_rules | `(tactic| trivial) => `(tactic| simp -implicitDefEqProofs only [w_callBF, kCallB_ap, gCallB_ap, gFRB_ok, lf_int, lf_tn, lf_tr, lf_bl, w_setDF, kSetD_ap, gSetD0_ap, kSetD2_ap, gSetD_ap, w_okB, w_excB, w_dicF, w_starA, kStar_l, kStar_t, kStar2_ap, vals_star, w_callKF, kCallK_ap, kCallK2_ap, gCallK_ap, prm_nil, w_tryF, kTry_ok, kTry_exc, gTry_t, gTry_f, kTry2_ap, w_raiseF, kRaise_ap, gRaise_ap, w_par3F, kPar3a_ap, kPar3b_ap, kPar3c_ap, gPar_exc, gPar_exc1, w_slF, kSl1_ap, kSl2_ap, kSl3_ap, w_someB, kSome_ap, w_noB, w_rngI2, kRng2_ap, List.nil_append, List.cons_append,  w_con, w_opE, kOpE_sh, kOpE_ow, w_nilA, w_consA, kCons_ap, kCons2_ap, w_op2, kOp2_ap, kOp2'_ap, gOp2_ap, w_op1, kOp1_ap, gOp1_ap, w_opN, kOpN_ap, gOpN_ap, w_res, w_tst, kTst_ap, w_chn, kChn_ap, kChn2_ap, gChn_ap, hChn_t, hChn_f, kChn3_ap, w_andT, kAndT_t, kAndT_f, w_orT, kOrT_t, kOrT_f, w_notT, kNotT_ap, w_andE, kAndE_t, kAndE_f, w_orE, kOrE_t, kOrE_f, w_notE, kNotE_ap, w_ite3, kIte3_t, kIte3_f, w_lstF, kLst_ap, w_tupF, kTup_ap, gLst_ap, gTup_ap, w_seq, kSeq_nx, kSeq_rt, kSeq_bk, kSeq_ct, w_nxF, w_bkF, w_ctF, w_retF, kRet_ap, w_retNF, w_dropF, kDrop_ap, w_ifF, kIfF_t, kIfF_f, w_setF, kSet_ap, w_asgF, kAsg_ap, gAsg_ap, w_forF, kFor_ap, w_forL, w_forL0, gForL_ap, kForL_nx, kForL_ct, kForL_bk, kForL_rt, w_callF, kCall_ap, gCall_ap, gFR_ok, gFR_exc, w_seqI, kSeqI_l, kSeqI_t, w_enumI, kEnumI_l, kEnumI_t, w_zipI, kZip_ap, kZip2_l, kZip2_t, w_rngI1, kRng_n, w_yesT, w_var, w_varE, w_varR, gVar_sh, gVar_ow, gVarE_sh, gVarE_ow, gVarR_sh, gVarR_ow, get_pl, get_val, tree_sh, tree_ow, slot_tree_sh, slot_tree_ow, w_methF, gMeth0_ap, kMeth_ap, gMeth_ap, hMeth_ap, w_setIF, kSetI_ap, gSetI0_ap, kSetI2_ap, gSetI_ap, hSetI_ap, w_parF, kPar_ap, gPar_ap, gPar_one, nil_app, put_nm, put_tp, put_tpw, put_tpl, putAll_nil, putAll_cons, vals_nil, vals_cons, gets_nil, gets_cons, Option.map_some, Option.bind_some, List.getElem?_cons_succ, List.getElem?_cons_zero, List.set_cons_succ, List.set_cons_zero, List.length_cons, List.length_nil, Nat.zero_add, Nat.reduceAdd, Nat.reduceLT, Nat.reduceLeDiff, Nat.le_refl, and_self, ↓reduceIte, Bool.not_true, Bool.not_false, fnEnd, *])
theorem r_bC1 {p q : List Nat} (h : q.length ≤ 100) (gh : List Slot) (nb : Nib) : b_beside_of_C1 ⟨[.sh (.tup (tn p)), .sh (.tup (tn q)), .no], gh, nb⟩ = .ok (.ow (.lst (tn (q.map fun x => p.length + x)))) ⟨[.sh (.tup (tn p)), .sh (.tup (tn q)), .no], gh, nb⟩ := by
  refine (compF_map (S1 := ⟨[.sh (.tup (tn p)), .sh (.tup (tn q)), .no], gh, nb⟩) q (fun (a : Nat) => T.int (a : Int)) (fun a => some (T.int ((p.length + a : Nat) : Int))) (by trivial; rfl) rfl rfl (len_sz (by omega)) (fun x hm acc => ?_)).trans (by
    congr 3
    unfold tn
    rw [List.map_map, ← List.filterMap_eq_map]
    rfl)
  have e1 := len_tnt p
  have e2 : addT (.int (p.length : Int)) (.int (x : Int)) = some (.sh (.int ((p.length + x : Nat) : Int))) := rfl
  clear hm h
  exact compStep_map (S1 := ⟨[.sh (.tup (tn p)), .sh (.tup (tn q)), .sh (.int (x : Int))], gh ++ [.ow (.lst acc)], nb⟩) rfl (by trivial; rfl) rfl rfl
theorem r_beside_of {p q : List Nat} (h : q.length ≤ 100) (h0 : p.length ≤ 100) (nb : Nib) : f_beside_of [.tup (tn p), .tup (tn q)] nb = .ok (.sh (.tup (tn (beW p q)))) nb := by
  have e1 := r_bC1 (p := p) h [] nb
  have e2 : tupleN [.lst (tn p ++ tn (q.map fun x => p.length + x))] = some (.sh (.tup (tn (beW p q)))) := by
    rw [tuple_l, ← tn_append]; rfl
  have e3 : ∀ l : List T, l ++ [] = l := List.append_nil
  have e4 : (tn p ++ tn (q.map fun x => p.length + x)).length ≤ 100000 := by rw [List.length_append, tn_length, tn_length, List.length_map]; omega
  have s2 : f_beside_of [.tup (tn p), .tup (tn q)] nb = fnEnd (b_beside_of ⟨[.sh (.tup (tn p)), .sh (.tup (tn q)), .no], [], nb⟩) := rfl
  rw [s2]
  unfold b_beside_of
  clear h h0
  trivial

section
variable {p q s : List Nat} {n : Nat}
theorem r_vC1 (P : p.Perm (List.range n)) (Q : q.Perm (List.range n)) (h6 : n ≤ 6) (gh : List Slot) (nb : Nib) : b_behind_of_C1 ⟨[.sh (.tup (tn p)), .sh (.tup (tn q)), .no], gh, nb⟩ = .ok (.ow (.lst (tn (behL p q)))) ⟨[.sh (.tup (tn p)), .sh (.tup (tn q)), .no], gh, nb⟩ := by
  refine (compF_map (S1 := ⟨[.sh (.tup (tn p)), .sh (.tup (tn q)), .no], gh, nb⟩) p (fun (a : Nat) => T.int (a : Int)) (fun a => some (T.int ((q.getD a 0 : Nat) : Int))) (by clear P Q h6; trivial; rfl) rfl rfl (len_sz (by rw [perm_len P]; omega)) (fun x hm acc => ?_)).trans (by
    congr 3
    unfold tn behL
    rw [List.map_map, ← List.filterMap_eq_map]
    rfl)
  have i1 : ixT (.tup (tn q)) (.int (x : Int)) = _ := ixD true (p := q) (i := x) (by rw [perm_len Q]; exact perm_lt P x hm)
  clear hm P Q h6
  exact compStep_map (S1 := ⟨[.sh (.tup (tn p)), .sh (.tup (tn q)), .sh (.int (x : Int))], gh ++ [.ow (.lst acc)], nb⟩) rfl (by trivial; rfl) rfl rfl
theorem r_behind_of (P : p.Perm (List.range n)) (Q : q.Perm (List.range n)) (h6 : n ≤ 6) (nb : Nib) : f_behind_of [.tup (tn p), .tup (tn q)] nb = .ok (.sh (.tup (tn (behL p q)))) nb := by
  have e1 := r_vC1 P Q h6 [] nb
  have e2 := tuple_l (tn (behL p q))
  have s2 : f_behind_of [.tup (tn p), .tup (tn q)] nb = fnEnd (b_behind_of ⟨[.sh (.tup (tn p)), .sh (.tup (tn q)), .no], [], nb⟩) := rfl
  rw [s2]
  unfold b_behind_of
  clear P Q h6 s2
  trivial
theorem ne_n (a b : Nat) : TL.neT (.int (a : Int)) (.int (b : Int)) = some (.sh (.bl (!decide (a = b)))) := by
  rw [TL.ne_int, show decide ((a : Int) = (b : Int)) = decide (a = b) from decide_eq_decide.mpr Int.ofNat_inj]
theorem r_behind (b b' : Bool) (P : p.Perm (List.range n)) (Q : q.Perm (List.range n)) (h1 : 1 ≤ n) (h6 : n ≤ 6) (nb : Nib) : f_behind [sq b (tn p), sq b' (tn q)] nb = .ok (.sh (.tup (tn (behL p q)))) nb := by
  have e1 := r_need_wiring b p n (.str "one") nb P h1 h6
  have e2 := r_need_wiring b' q n (.str "other") nb Q h1 h6
  have e3 := r_behind_of P Q h6 nb
  have e4 := len_tnt p
  have e5 := len_tnt q
  rw [perm_len P] at e4
  rw [perm_len Q] at e5
  have e6 := ne_n n n
  rw [decide_eq_true rfl] at e6
  have s2 : f_behind [sq b (tn p), sq b' (tn q)] nb = fnEnd (b_behind ⟨[.sh (sq b (tn p)), .sh (sq b' (tn q)), .no, .no], [], nb⟩) := rfl
  rw [s2]
  unfold b_behind
  clear P Q h1 h6 s2
  trivial
theorem r_beside (b b' : Bool) {m : Nat} (P : p.Perm (List.range n)) (Q : q.Perm (List.range m)) (h1 : 1 ≤ n) (h2 : 1 ≤ m) (h6 : n + m ≤ 6) (nb : Nib) : f_beside [sq b (tn p), sq b' (tn q)] nb = .ok (.sh (.tup (tn (beW p q)))) nb := by
  have e1 := r_need_wiring b p n (.str "one") nb P h1 (by omega)
  have e2 := r_need_wiring b' q m (.str "other") nb Q h2 (by omega)
  have e3 := r_beside_of (p := p) (q := q) (by rw [perm_len Q]; omega) (by rw [perm_len P]; omega) nb
  have e4 := len_tnt p
  have e5 := len_tnt q
  rw [perm_len P] at e4
  rw [perm_len Q] at e5
  have e6 := addN n m
  have e7 : gtA (.int ((n + m : Nat) : Int)) (.int 6) = _ := gt_n (n + m) 6
  rw [decide_eq_false (by omega)] at e7
  have s2 : f_beside [sq b (tn p), sq b' (tn q)] nb = fnEnd (b_beside ⟨[.sh (sq b (tn p)), .sh (sq b' (tn q)), .no, .no], [], nb⟩) := rfl
  rw [s2]
  unfold b_beside
  clear P Q h1 h2 h6 s2
  trivial
end
end K05

end
section
set_option Elab.async false
set_option linter.all false
set_option maxRecDepth 100000
set_option autoImplicit false
set_option maxHeartbeats 400000
open PySem PySem.Spec PyProof.Rows L2
open TL hiding eqT neT
namespace K05
local macro_rules | `(tactic| trivial) => `(tactic| simp -implicitDefEqProofs only [w_callBF, kCallB_ap, gCallB_ap, gFRB_ok, lf_int, lf_tn, lf_tr, lf_bl, w_setDF, kSetD_ap, gSetD0_ap, kSetD2_ap, gSetD_ap, w_okB, w_excB, w_dicF, w_starA, kStar_l, kStar_t, kStar2_ap, vals_star, w_callKF, kCallK_ap, kCallK2_ap, gCallK_ap, prm_nil, w_tryF, kTry_ok, kTry_exc, gTry_t, gTry_f, kTry2_ap, w_raiseF, kRaise_ap, gRaise_ap, w_par3F, kPar3a_ap, kPar3b_ap, kPar3c_ap, gPar_exc, gPar_exc1, w_slF, kSl1_ap, kSl2_ap, kSl3_ap, w_someB, kSome_ap, w_noB, w_rngI2, kRng2_ap, List.nil_append, List.cons_append,  w_con, w_opE, kOpE_sh, kOpE_ow, w_nilA, w_consA, kCons_ap, kCons2_ap, w_op2, kOp2_ap, kOp2'_ap, gOp2_ap, w_op1, kOp1_ap, gOp1_ap, w_opN, kOpN_ap, gOpN_ap, w_res, w_tst, kTst_ap, w_chn, kChn_ap, kChn2_ap, gChn_ap, hChn_t, hChn_f, kChn3_ap, w_andT, kAndT_t, kAndT_f, w_orT, kOrT_t, kOrT_f, w_notT, kNotT_ap, w_andE, kAndE_t, kAndE_f, w_orE, kOrE_t, kOrE_f, w_notE, kNotE_ap, w_ite3, kIte3_t, kIte3_f, w_lstF, kLst_ap, w_tupF, kTup_ap, gLst_ap, gTup_ap, w_seq, kSeq_nx, kSeq_rt, kSeq_bk, kSeq_ct, w_nxF, w_bkF, w_ctF, w_retF, kRet_ap, w_retNF, w_dropF, kDrop_ap, w_ifF, kIfF_t, kIfF_f, w_setF, kSet_ap, w_asgF, kAsg_ap, gAsg_ap, w_forF, kFor_ap, w_forL, w_forL0, gForL_ap, kForL_nx, kForL_ct, kForL_bk, kForL_rt, w_callF, kCall_ap, gCall_ap, gFR_ok, gFR_exc, w_seqI, kSeqI_l, kSeqI_t, w_enumI, kEnumI_l, kEnumI_t, w_zipI, kZip_ap, kZip2_l, kZip2_t, w_rngI1, kRng_n, w_yesT, w_var, w_varE, w_varR, gVar_sh, gVar_ow, gVarE_sh, gVarE_ow, gVarR_sh, gVarR_ow, get_pl, get_val, tree_sh, tree_ow, slot_tree_sh, slot_tree_ow, w_methF, gMeth0_ap, kMeth_ap, gMeth_ap, hMeth_ap, w_setIF, kSetI_ap, gSetI0_ap, kSetI2_ap, gSetI_ap, hSetI_ap, w_parF, kPar_ap, gPar_ap, gPar_one, nil_app, put_nm, put_tp, put_tpw, put_tpl, putAll_nil, putAll_cons, vals_nil, vals_cons, gets_nil, gets_cons, Option.map_some, Option.bind_some, List.getElem?_cons_succ, List.getElem?_cons_zero, List.set_cons_succ, List.set_cons_zero, List.length_cons, List.length_nil, Nat.zero_add, Nat.reduceAdd, Nat.reduceLT, Nat.reduceLeDiff, Nat.le_refl, and_self, ↓reduceIte, Bool.not_true, Bool.not_false, fnEnd, *])

section
variable {p : List Nat} {nb : Nib}
theorem in_step {kn pl : List Nat} {s : Nat} (hs : s < p.length) (hk : s ∉ kn) (h1 : kn.length ≤ 100) (h2 : pl.length ≤ 100) (x1 x3 : Slot) :
    b_rounds_of_L1 ⟨[.sh (.tup (tn p)), x1, .ow (.dic (dT kn)), x3, .ow (.lst (tn pl)), .sh (.int (s : Int))], [], nb⟩ = .ok .nx ⟨[.sh (.tup (tn p)), x1, .ow (.dic (dT (kn ++ [s]))), x3, .ow (.lst (tn (pl ++ [s]))), .sh (.int ((p.getD s 0 : Nat) : Int))], [], nb⟩ := by
  have e1 := put_dT hk
  have e2 : (dT kn).length < sz := lt_sz (by rw [dT_length]; omega)
  have e3 : apP (tn pl) [.int (s : Int)] = some (tn (pl ++ [s]), .non) := by
    rw [tn_append]
    exact ap_ok (lt_sz (by rw [tn_length]; omega))
  have e4 : ixT (.tup (tn p)) (.int (s : Int)) = _ := ixD true (p := p) (i := s) hs
  unfold b_rounds_of_L1
  clear hs hk h1 h2
  trivial
theorem in_tst {kn : List Nat} {s : Nat} (x0 x1 x3 x4 : Slot) : tst (op2 (inDT true) (var 5) (var 2)) ⟨[x0, x1, .ow (.dic (dT kn)), x3, x4, .sh (.int (s : Int))], [], nb⟩ = .ok (!decide (s ∈ kn)) ⟨[x0, x1, .ow (.dic (dT kn)), x3, x4, .sh (.int (s : Int))], [], nb⟩ := by
  have e1 := notin_dT s kn
  trivial
theorem in_while (hp : ∀ i < p.length, p.getD i 0 < p.length) (x1 x3 : Slot) : ∀ (m fuel : Nat) (kn pl : List Nat) (s : Nat), m < fuel → inOk p m kn s = true → s < p.length → kn.length + m ≤ 100 → pl.length + m ≤ 100 →
    ∃ x5, whileL (tst (op2 (inDT true) (var 5) (var 2))) b_rounds_of_L1 fuel ⟨[.sh (.tup (tn p)), x1, .ow (.dic (dT kn)), x3, .ow (.lst (tn pl)), .sh (.int (s : Int))], [], nb⟩
      = .ok .nx ⟨[.sh (.tup (tn p)), x1, .ow (.dic (dT (inW p m kn pl s).1)), x3, .ow (.lst (tn (inW p m kn pl s).2)), x5], [], nb⟩
  | m, 0, _, _, _, h, _, _, _, _ => absurd h (Nat.not_lt_zero _)
  | m, fuel + 1, kn, pl, s, hf, ho, hs, h1, h2 => by
    have e1 := in_tst (nb := nb) (kn := kn) (s := s) (.sh (.tup (tn p))) x1 x3 (.ow (.lst (tn pl)))
    unfold whileL
    rw [e1, R.bind_ok]
    by_cases hk : s ∈ kn
    · refine ⟨.sh (.int (s : Int)), ?_⟩
      have ew : inW p m kn pl s = (kn, pl) := by
        cases m with
        | zero => rfl
        | succ m => unfold inW; rw [if_pos hk]
      rw [decide_eq_true hk, if_neg (by decide), ew]
    · cases m with
      | zero => exact absurd (of_decide_eq_true ho) hk
      | succ m =>
        have ho2 : inOk p m (kn ++ [s]) (p.getD s 0) = true := by
          unfold inOk at ho
          rw [decide_eq_false hk, Bool.false_or] at ho
          exact ho
        obtain ⟨x5, e2⟩ := in_while hp x1 x3 m fuel (kn ++ [s]) (pl ++ [s]) (p.getD s 0) (by omega) ho2 (hp s hs) (by rw [List.length_append, List.length_singleton]; omega) (by rw [List.length_append, List.length_singleton]; omega)
        refine ⟨x5, ?_⟩
        have ew : inW p (m + 1) kn pl s = inW p m (kn ++ [s]) (pl ++ [s]) (p.getD s 0) := by
          show (if s ∈ kn then _ else _) = _
          rw [if_neg hk]
        rw [ew, decide_eq_false hk, if_pos (by rfl), in_step hs hk (by omega) (by omega), R.bind_ok]
        exact e2
theorem tr_ap (F : List (List Nat)) (q : List Nat) (h : F.length ≤ 100) : apP (tr F) [.tup (tn q)] = some (tr (F ++ [q]), .non) := by
  have : tr (F ++ [q]) = tr F ++ [.tup (tn q)] := List.map_append
  rw [this]
  exact ap_ok (lt_sz (by rw [tr_length]; omega))
theorem out_loop (hp : ∀ i < p.length, p.getD i 0 < p.length) : ∀ (l : List Nat) (F : List (List Nat)) (kn : List Nat) (x3 x4 x5 : Slot), (∀ s ∈ l, s < p.length) → prOk p l F kn = true →
    ∃ x2' x3' x4' x5', forL (.nm 3) b_rounds_of_L2 (tn l) ⟨[.sh (.tup (tn p)), .ow (.lst (tr F)), .ow (.dic (dT kn)), x3, x4, x5], [], nb⟩ = .ok .nx ⟨[.sh (.tup (tn p)), .ow (.lst (tr (prL p l F kn))), x2', x3', x4', x5'], [], nb⟩
  | [], F, kn, x3, x4, x5, _, _ => ⟨_, x3, x4, x5, rfl⟩
  | s :: l, F, kn, x3, x4, x5, hl, ho => by
    have hs := hl s List.mem_cons_self
    have e1 := notin_dT s kn
    by_cases hk : s ∈ kn
    · have ho2 : prOk p l F kn = true := by
        unfold prOk at ho
        rw [if_pos hk] at ho
        exact ho
      obtain ⟨y2, y3, y4, y5, e2⟩ := out_loop hp l F kn (.sh (.int (s : Int))) x4 x5 (fun t ht => hl t (List.mem_cons_of_mem _ ht)) ho2
      refine ⟨y2, y3, y4, y5, ?_⟩
      have e3 : b_rounds_of_L2 ⟨[.sh (.tup (tn p)), .ow (.lst (tr F)), .ow (.dic (dT kn)), .sh (.int (s : Int)), x4, x5], [], nb⟩ = .ok .nx ⟨[.sh (.tup (tn p)), .ow (.lst (tr F)), .ow (.dic (dT kn)), .sh (.int (s : Int)), x4, x5], [], nb⟩ := by
        rw [decide_eq_true hk] at e1
        unfold b_rounds_of_L2
        clear e2 ho ho2 hl hs hk hp
        trivial
      rw [tn_cons, forL_cons]
      show ((b_rounds_of_L2 ⟨[.sh (.tup (tn p)), .ow (.lst (tr F)), .ow (.dic (dT kn)), .sh (.int (s : Int)), x4, x5], [], nb⟩).bind _) = _
      rw [e3, R.bind_ok, show prL p (s :: l) F kn = prL p l F kn from if_pos hk]
      exact e2
    · unfold prOk at ho
      rw [if_neg hk] at ho
      simp only [Bool.and_eq_true, decide_eq_true_eq] at ho
      obtain ⟨⟨⟨o1, o2⟩, o3⟩, o4⟩ := ho
      obtain ⟨x5', w1⟩ := in_while (nb := nb) hp (.ow (.lst (tr F))) (.sh (.int (s : Int))) 7 1000000 kn [] s (by omega) o1 hs (by omega) (by simp)
      obtain ⟨y2, y3, y4, y5, e2⟩ := out_loop hp l (F ++ [(inW p 7 kn [] s).2]) (inW p 7 kn [] s).1 (.sh (.int (s : Int))) (.ow (.lst (tn (inW p 7 kn [] s).2))) x5' (fun t ht => hl t (List.mem_cons_of_mem _ ht)) o4
      refine ⟨y2, y3, y4, y5, ?_⟩
      have e0 : prL p (s :: l) F kn = prL p l (F ++ [(inW p 7 kn [] s).2]) (inW p 7 kn [] s).1 := by
        show (if s ∈ kn then _ else _) = _
        rw [if_neg hk]
      rw [e0]
      obtain ⟨K, hK⟩ : ∃ K, K = (inW p 7 kn [] s).1 := ⟨_, rfl⟩
      obtain ⟨q, hq⟩ : ∃ q, q = (inW p 7 kn [] s).2 := ⟨_, rfl⟩
      rw [← hK, ← hq] at w1 e2 ⊢
      have e4 := tr_ap F q (by omega)
      have e5 := tuple_l (tn q)
      have w2 : whileL (tst (op2 (inDT true) (var 5) (var 2))) b_rounds_of_L1 1000000 ⟨[.sh (.tup (tn p)), .ow (.lst (tr F)), .ow (.dic (dT kn)), .sh (.int (s : Int)), .ow (.lst []), .sh (.int (s : Int))], [], nb⟩ = .ok .nx ⟨[.sh (.tup (tn p)), .ow (.lst (tr F)), .ow (.dic (dT K)), .sh (.int (s : Int)), .ow (.lst (tn q)), x5'], [], nb⟩ := w1
      have e3 : b_rounds_of_L2 ⟨[.sh (.tup (tn p)), .ow (.lst (tr F)), .ow (.dic (dT kn)), .sh (.int (s : Int)), x4, x5], [], nb⟩ = .ok .nx ⟨[.sh (.tup (tn p)), .ow (.lst (tr (F ++ [q]))), .ow (.dic (dT K)), .sh (.int (s : Int)), .ow (.lst (tn q)), x5'], [], nb⟩ := by
        rw [decide_eq_false hk] at e1
        unfold b_rounds_of_L2
        have m1 : parF 4 5 (lstF (nilA)) (varE 3) ⟨[.sh (.tup (tn p)), .ow (.lst (tr F)), .ow (.dic (dT kn)), .sh (.int (s : Int)), x4, x5], [], nb⟩ = .ok .nx ⟨[.sh (.tup (tn p)), .ow (.lst (tr F)), .ow (.dic (dT kn)), .sh (.int (s : Int)), .ow (.lst []), .sh (.int (s : Int))], [], nb⟩ := by
          clear e2 hl hs hk hp o1 o2 o3 o4 w1 w2 e0 hK hq e4 e5 e1
          trivial
        have m2 : whileF 1000000 (tst (op2 (inDT true) (var 5) (var 2))) b_rounds_of_L1 ⟨[.sh (.tup (tn p)), .ow (.lst (tr F)), .ow (.dic (dT kn)), .sh (.int (s : Int)), .ow (.lst []), .sh (.int (s : Int))], [], nb⟩ = _ := w2
        obtain ⟨Wh, hW⟩ : ∃ W, W = whileF 1000000 (tst (op2 (inDT true) (var 5) (var 2))) b_rounds_of_L1 := ⟨_, rfl⟩
        rw [← hW] at m2 ⊢
        clear e2 hl hs hk hp o1 o2 o3 o4 w1 w2 e0 hK hq hW
        trivial
      rw [tn_cons, forL_cons]
      show ((b_rounds_of_L2 ⟨[.sh (.tup (tn p)), .ow (.lst (tr F)), .ow (.dic (dT kn)), .sh (.int (s : Int)), x4, x5], [], nb⟩).bind _) = _
      rw [e3, R.bind_ok]
      exact e2
theorem r_rounds_of (hp : ∀ i < p.length, p.getD i 0 < p.length) (hl : p.length ≤ 100) (ho : prOk p (List.range p.length) [] [] = true) : f_rounds_of [.tup (tn p)] nb = .ok (.sh (.tup (tr (prL p (List.range p.length) [] [])))) nb := by
  obtain ⟨x2, x3, x4, x5, e1⟩ := out_loop (nb := nb) hp (List.range p.length) [] [] .no .no .no (fun s hs => List.mem_range.mp hs) ho
  obtain ⟨R, hR⟩ : ∃ R, R = prL p (List.range p.length) [] [] := ⟨_, rfl⟩
  rw [← hR] at e1 ⊢
  have e2 : ∀ S, kRng (.val (.int (p.length : Int))) S = .ok (tn (List.range p.length)) S := fun S => kRng_n S _ (by omega)
  have e3 := len_tnt p
  have e4 := tuple_l (tr R)
  replace e1 : forL (.nm 3) b_rounds_of_L2 (tn (List.range p.length)) ⟨[.sh (.tup (tn p)), .ow (.lst []), .ow (.dic []), .no, .no, .no], [], nb⟩ = _ := e1
  have s2 : f_rounds_of [.tup (tn p)] nb = fnEnd (b_rounds_of ⟨[.sh (.tup (tn p)), .no, .no, .no, .no, .no], [], nb⟩) := rfl
  have kk : b_rounds_of ⟨[.sh (.tup (tn p)), .no, .no, .no, .no, .no], [], nb⟩ = .ok (.rt (.sh (.tup (tr R)))) ⟨[.sh (.tup (tn p)), .ow (.lst (tr R)), x2, x3, x4, x5], [], nb⟩ := by
    unfold b_rounds_of
    clear hp hl ho hR s2
    refine seq_nx (S1 := ⟨[.sh (.tup (tn p)), .ow (.lst []), .ow (.dic []), .no, .no, .no], [], nb⟩) (by clear e1 e4; trivial) ?_
    refine seq_nx (S1 := ⟨[.sh (.tup (tn p)), .ow (.lst (tr R)), x2, x3, x4, x5], [], nb⟩) (by trivial) ?_
    clear e1
    trivial
  rw [s2, kk]
  rfl
end
/-! the law's own rounds -/
theorem minI_nat : ∀ (xs : List Nat) (x : Nat), minI (x : Int) (xs.map fun (n : Nat) => (n : Int)) = ((xs.foldl (fun a y => if y < a then y else a) x : Nat) : Int)
  | [], x => rfl
  | y :: xs, x => by
    have ih := minI_nat xs (if y < x then y else x)
    unfold minI at ih ⊢
    rw [List.map_cons, List.foldl_cons, List.foldl_cons, ← ih]
    congr 1
    by_cases h : y < x
    · rw [if_pos (by omega), if_pos h]
    · rw [if_neg (by omega), if_neg h]
theorem minN_l {l : List Nat} (h : l ≠ []) : minN [.lst (tn l)] = some (.sh (.int ((mn l : Nat) : Int))) := by
  show (intsT (tn l)).bind _ = _
  rw [intsT_tn, Option.bind_some]
  cases l with
  | nil => exact absurd rfl h
  | cons x xs =>
    show some (Slot.sh (T.int (minI (x : Int) (xs.map fun (n : Nat) => (n : Int))))) = _
    rw [minI_nat]
    rfl
theorem sumN_l (l : List Nat) : sumN [.lst (tn l)] = some (.sh (.int ((l.sum : Nat) : Int))) := by
  show (intsT (tn l)).bind _ = _
  rw [intsT_tn, Option.bind_some]
  have : ∀ l : List Nat, (l.map fun (n : Nat) => (n : Int)).sum = ((l.sum : Nat) : Int) := by
    intro l
    induction l with
    | nil => rfl
    | cons a l ih => rw [List.map_cons, List.sum_cons, List.sum_cons, ih]; rfl
  rw [this]
section
variable {p : List Nat} {nb : Nib}
theorem cy_tst {t : List Nat} {s : Nat} (ht : t ≠ []) (hl : t.getLastD 0 < p.length) (x1 : Slot) : tst (op2 TL.neT (opE (op2 ixT (var 0) (opE (op2 ixT (var 3) (opE (op1 negT (opE (con (.int 1))))))))) (var 2)) ⟨[.sh (.lst (tn p)), x1, .sh (.int (s : Int)), .ow (.lst (tn t))], [], nb⟩ = .ok (!decide (p.getD (t.getLastD 0) 0 = s)) ⟨[.sh (.lst (tn p)), x1, .sh (.int (s : Int)), .ow (.lst (tn t))], [], nb⟩ := by
  have e1 := ix_last ht
  have e2 : negT (.int 1) = some (.sh (.int (-1))) := rfl
  have e3 : ixT (.lst (tn p)) (.int ((t.getLastD 0 : Nat) : Int)) = _ := ixD false (p := p) (i := t.getLastD 0) hl
  have e4 := ne_n (p.getD (t.getLastD 0) 0) s
  clear ht hl
  trivial
theorem cy_step {t : List Nat} (ht : t ≠ []) (hl : t.getLastD 0 < p.length) (h1 : t.length ≤ 100) (x1 x2 : Slot) : b_law_rounds_L1 ⟨[.sh (.lst (tn p)), x1, x2, .ow (.lst (tn t))], [], nb⟩ = .ok .nx ⟨[.sh (.lst (tn p)), x1, x2, .ow (.lst (tn (t ++ [p.getD (t.getLastD 0) 0])))], [], nb⟩ := by
  have e1 := ix_last ht
  have e2 : negT (.int 1) = some (.sh (.int (-1))) := rfl
  have e3 : ixT (.lst (tn p)) (.int ((t.getLastD 0 : Nat) : Int)) = _ := ixD false (p := p) (i := t.getLastD 0) hl
  obtain ⟨y, hy⟩ : ∃ y, y = p.getD (t.getLastD 0) 0 := ⟨_, rfl⟩
  rw [← hy] at e3 ⊢
  have e4 : apP (tn t) [.int (y : Int)] = some (tn (t ++ [y]), .non) := by
    rw [tn_append]
    exact ap_ok (lt_sz (by rw [tn_length]; omega))
  unfold b_law_rounds_L1
  clear ht hl h1 hy
  trivial
theorem cy_ne : ∀ (m : Nat) (t : List Nat) (s : Nat), t ≠ [] → cyW p m t s ≠ []
  | 0, t, s, h => h
  | m + 1, t, s, h => by
    unfold cyW
    split
    · exact h
    · exact cy_ne m _ s (by simp)
theorem cy_while (hp : ∀ i < p.length, p.getD i 0 < p.length) (x1 : Slot) : ∀ (m fuel : Nat) (t : List Nat) (s : Nat), m < fuel → cyOk p m t s = true → t ≠ [] → t.getLastD 0 < p.length → t.length + m ≤ 100 →
    whileL (tst (op2 TL.neT (opE (op2 ixT (var 0) (opE (op2 ixT (var 3) (opE (op1 negT (opE (con (.int 1))))))))) (var 2))) b_law_rounds_L1 fuel ⟨[.sh (.lst (tn p)), x1, .sh (.int (s : Int)), .ow (.lst (tn t))], [], nb⟩ = .ok .nx ⟨[.sh (.lst (tn p)), x1, .sh (.int (s : Int)), .ow (.lst (tn (cyW p m t s)))], [], nb⟩
  | m, 0, _, _, h, _, _, _, _ => absurd h (Nat.not_lt_zero _)
  | m, fuel + 1, t, s, hf, ho, ht, hl, h1 => by
    have e1 := cy_tst (nb := nb) (s := s) ht hl x1
    unfold whileL
    rw [e1, R.bind_ok]
    by_cases hk : p.getD (t.getLastD 0) 0 = s
    · have ew : cyW p m t s = t := by
        cases m with
        | zero => rfl
        | succ m => unfold cyW; rw [if_pos hk]
      rw [decide_eq_true hk, if_neg (by decide), ew]
    · cases m with
      | zero => exact absurd (of_decide_eq_true ho) hk
      | succ m =>
        have ho2 : cyOk p m (t ++ [p.getD (t.getLastD 0) 0]) s = true := by
          unfold cyOk at ho
          rw [decide_eq_false hk, Bool.false_or] at ho
          exact ho
        have ew : cyW p (m + 1) t s = cyW p m (t ++ [p.getD (t.getLastD 0) 0]) s := by
          show (if _ then _ else _) = _
          rw [if_neg hk]
        rw [ew, decide_eq_false hk, if_pos (by rfl), cy_step ht hl (by omega), R.bind_ok]
        exact cy_while hp x1 m fuel _ s (by omega) ho2 (by simp) (by rw [List.getLastD_concat]; exact hp _ hl) (by rw [List.length_append, List.length_singleton]; omega)
theorem law_loop (hp : ∀ i < p.length, p.getD i 0 < p.length) : ∀ (l : List Nat) (F : List (List Nat)) (x2 x3 : Slot), (∀ s ∈ l, s < p.length ∧ cyOk p 7 [s] s = true) → F.length + l.length ≤ 100 →
    ∃ x2' x3', forL (.nm 2) b_law_rounds_L2 (tn l) ⟨[.sh (.lst (tn p)), .ow (.lst (tr F)), x2, x3], [], nb⟩ = .ok .nx ⟨[.sh (.lst (tn p)), .ow (.lst (tr (F ++ (l.filter fun s => decide (mn (cyc p s) = s)).map (cyc p)))), x2', x3'], [], nb⟩
  | [], F, x2, x3, _, _ => ⟨x2, x3, by rw [List.filter_nil, List.map_nil, List.append_nil]; rfl⟩
  | s :: l, F, x2, x3, hl, hF => by
    rw [List.length_cons] at hF
    obtain ⟨hs, ho⟩ := hl s List.mem_cons_self
    have w1 := cy_while (nb := nb) hp (.ow (.lst (tr F))) 7 1000000 [s] s (by omega) ho (by simp) hs (by simp)
    have w3 : whileF 1000000 (tst (op2 TL.neT (opE (op2 ixT (var 0) (opE (op2 ixT (var 3) (opE (op1 negT (opE (con (.int 1))))))))) (var 2))) b_law_rounds_L1 ⟨[.sh (.lst (tn p)), .ow (.lst (tr F)), .sh (.int (s : Int)), .ow (.lst [.int (s : Int)])], [], nb⟩ = .ok .nx ⟨[.sh (.lst (tn p)), .ow (.lst (tr F)), .sh (.int (s : Int)), .ow (.lst (tn (cyc p s)))], [], nb⟩ := w1
    have hne : cyc p s ≠ [] := cy_ne 7 [s] s (by simp)
    have e1 := minN_l hne
    have e2 := eq_n (mn (cyc p s)) s
    obtain ⟨q, hq⟩ : ∃ q, q = cyc p s := ⟨_, rfl⟩
    have e4 := tr_ap F q (by omega)
    have e5 := tuple_l (tn q)
    obtain ⟨Wh, hW⟩ : ∃ W, W = whileF 1000000 (tst (op2 TL.neT (opE (op2 ixT (var 0) (opE (op2 ixT (var 3) (opE (op1 negT (opE (con (.int 1))))))))) (var 2))) b_law_rounds_L1 := ⟨_, rfl⟩
    by_cases hk : mn (cyc p s) = s
    · obtain ⟨y2, y3, e6⟩ := law_loop hp l (F ++ [cyc p s]) (.sh (.int (s : Int))) (.ow (.lst (tn (cyc p s)))) (fun t ht => hl t (List.mem_cons_of_mem _ ht)) (by rw [List.length_append, List.length_singleton]; omega)
      refine ⟨y2, y3, ?_⟩
      rw [decide_eq_true hk] at e2
      rw [List.filter_cons, if_pos (by rw [decide_eq_true hk]), List.map_cons, List.append_cons]
      have e3 : b_law_rounds_L2 ⟨[.sh (.lst (tn p)), .ow (.lst (tr F)), .sh (.int (s : Int)), x3], [], nb⟩ = .ok .nx ⟨[.sh (.lst (tn p)), .ow (.lst (tr (F ++ [cyc p s]))), .sh (.int (s : Int)), .ow (.lst (tn (cyc p s)))], [], nb⟩ := by
        unfold b_law_rounds_L2
        rw [← hq] at w3 e1 e2 ⊢
        rw [← hW] at w3 ⊢
        clear hl hF hs ho w1 hne hq hk e6 hW
        trivial
      rw [tn_cons, forL_cons]
      show ((b_law_rounds_L2 ⟨[.sh (.lst (tn p)), .ow (.lst (tr F)), .sh (.int (s : Int)), x3], [], nb⟩).bind _) = _
      rw [e3, R.bind_ok]
      exact e6
    · obtain ⟨y2, y3, e6⟩ := law_loop hp l F (.sh (.int (s : Int))) (.ow (.lst (tn (cyc p s)))) (fun t ht => hl t (List.mem_cons_of_mem _ ht)) (by omega)
      refine ⟨y2, y3, ?_⟩
      rw [decide_eq_false hk] at e2
      rw [List.filter_cons, if_neg (by rw [decide_eq_false hk]; decide)]
      have e3 : b_law_rounds_L2 ⟨[.sh (.lst (tn p)), .ow (.lst (tr F)), .sh (.int (s : Int)), x3], [], nb⟩ = .ok .nx ⟨[.sh (.lst (tn p)), .ow (.lst (tr F)), .sh (.int (s : Int)), .ow (.lst (tn (cyc p s)))], [], nb⟩ := by
        unfold b_law_rounds_L2
        rw [← hq] at w3 e1 e2 ⊢
        rw [← hW] at w3 ⊢
        clear hl hF hs ho w1 hne hq hk e6 hW
        trivial
      rw [tn_cons, forL_cons]
      show ((b_law_rounds_L2 ⟨[.sh (.lst (tn p)), .ow (.lst (tr F)), .sh (.int (s : Int)), x3], [], nb⟩).bind _) = _
      rw [e3, R.bind_ok]
      exact e6
theorem r_law_rounds (hp : ∀ i < p.length, p.getD i 0 < p.length) (hl : p.length ≤ 90) (ho : ∀ s < p.length, cyOk p 7 [s] s = true) : f_law_rounds [.lst (tn p)] nb = .ok (.sh (.tup (tr (lawR p)))) nb := by
  obtain ⟨x2, x3, e1⟩ := law_loop (nb := nb) hp (List.range p.length) [] .no .no (fun s hs => ⟨List.mem_range.mp hs, ho s (List.mem_range.mp hs)⟩) (by rw [List.length_range, List.length_nil]; omega)
  have er : [] ++ ((List.range p.length).filter fun s => decide (mn (cyc p s) = s)).map (cyc p) = lawR p := rfl
  rw [er] at e1
  obtain ⟨R, hR⟩ : ∃ R, R = lawR p := ⟨_, rfl⟩
  rw [← hR] at e1 ⊢
  have e2 : ∀ S, kRng (.val (.int (p.length : Int))) S = .ok (tn (List.range p.length)) S := fun S => kRng_n S _ (by omega)
  have e3 := len_tn p
  have e4 := tuple_l (tr R)
  replace e1 : forL (.nm 2) b_law_rounds_L2 (tn (List.range p.length)) ⟨[.sh (.lst (tn p)), .ow (.lst []), .no, .no], [], nb⟩ = _ := e1
  have s2 : f_law_rounds [.lst (tn p)] nb = fnEnd (b_law_rounds ⟨[.sh (.lst (tn p)), .no, .no, .no], [], nb⟩) := rfl
  have kk : b_law_rounds ⟨[.sh (.lst (tn p)), .no, .no, .no], [], nb⟩ = .ok (.rt (.sh (.tup (tr R)))) ⟨[.sh (.lst (tn p)), .ow (.lst (tr R)), x2, x3], [], nb⟩ := by
    unfold b_law_rounds
    clear hp hl ho hR s2 er
    refine seq_nx (S1 := ⟨[.sh (.lst (tn p)), .ow (.lst []), .no, .no], [], nb⟩) (by clear e1 e4; trivial) ?_
    refine seq_nx (S1 := ⟨[.sh (.lst (tn p)), .ow (.lst (tr R)), x2, x3], [], nb⟩) (by trivial) ?_
    clear e1
    trivial
  rw [s2, kk]
  rfl
end
end K05

end
section
set_option Elab.async false
set_option linter.all false
set_option maxRecDepth 100000
set_option autoImplicit false
set_option maxHeartbeats 400000
open PySem PySem.Spec PyProof.Rows L2
open TL hiding eqT neT
namespace K05
local macro_rules | `(tactic| trivial) => `(tactic| simp -implicitDefEqProofs only [w_callBF, kCallB_ap, gCallB_ap, gFRB_ok, lf_int, lf_tn, lf_tr, lf_bl, w_setDF, kSetD_ap, gSetD0_ap, kSetD2_ap, gSetD_ap, w_okB, w_excB, w_dicF, w_starA, kStar_l, kStar_t, kStar2_ap, vals_star, w_callKF, kCallK_ap, kCallK2_ap, gCallK_ap, prm_nil, w_tryF, kTry_ok, kTry_exc, gTry_t, gTry_f, kTry2_ap, w_raiseF, kRaise_ap, gRaise_ap, w_par3F, kPar3a_ap, kPar3b_ap, kPar3c_ap, gPar_exc, gPar_exc1, w_slF, kSl1_ap, kSl2_ap, kSl3_ap, w_someB, kSome_ap, w_noB, w_rngI2, kRng2_ap, List.nil_append, List.cons_append,  w_con, w_opE, kOpE_sh, kOpE_ow, w_nilA, w_consA, kCons_ap, kCons2_ap, w_op2, kOp2_ap, kOp2'_ap, gOp2_ap, w_op1, kOp1_ap, gOp1_ap, w_opN, kOpN_ap, gOpN_ap, w_res, w_tst, kTst_ap, w_chn, kChn_ap, kChn2_ap, gChn_ap, hChn_t, hChn_f, kChn3_ap, w_andT, kAndT_t, kAndT_f, w_orT, kOrT_t, kOrT_f, w_notT, kNotT_ap, w_andE, kAndE_t, kAndE_f, w_orE, kOrE_t, kOrE_f, w_notE, kNotE_ap, w_ite3, kIte3_t, kIte3_f, w_lstF, kLst_ap, w_tupF, kTup_ap, gLst_ap, gTup_ap, w_seq, kSeq_nx, kSeq_rt, kSeq_bk, kSeq_ct, w_nxF, w_bkF, w_ctF, w_retF, kRet_ap, w_retNF, w_dropF, kDrop_ap, w_ifF, kIfF_t, kIfF_f, w_setF, kSet_ap, w_asgF, kAsg_ap, gAsg_ap, w_forF, kFor_ap, w_forL, w_forL0, gForL_ap, kForL_nx, kForL_ct, kForL_bk, kForL_rt, w_callF, kCall_ap, gCall_ap, gFR_ok, gFR_exc, w_seqI, kSeqI_l, kSeqI_t, w_enumI, kEnumI_l, kEnumI_t, w_zipI, kZip_ap, kZip2_l, kZip2_t, w_rngI1, kRng_n, w_yesT, w_var, w_varE, w_varR, gVar_sh, gVar_ow, gVarE_sh, gVarE_ow, gVarR_sh, gVarR_ow, get_pl, get_val, tree_sh, tree_ow, slot_tree_sh, slot_tree_ow, w_methF, gMeth0_ap, kMeth_ap, gMeth_ap, hMeth_ap, w_setIF, kSetI_ap, gSetI0_ap, kSetI2_ap, gSetI_ap, hSetI_ap, w_parF, kPar_ap, gPar_ap, gPar_one, nil_app, put_nm, put_tp, put_tpw, put_tpl, putAll_nil, putAll_cons, vals_nil, vals_cons, gets_nil, gets_cons, Option.map_some, Option.bind_some, List.getElem?_cons_succ, List.getElem?_cons_zero, List.set_cons_succ, List.set_cons_zero, List.length_cons, List.length_nil, Nat.zero_add, Nat.reduceAdd, Nat.reduceLT, Nat.reduceLeDiff, Nat.le_refl, and_self, ↓reduceIte, Bool.not_true, Bool.not_false, fnEnd, *])

theorem eqvAll_tr : ∀ A B : List (List Nat), PyData.eqvAll (T.dAll (tr A)) (T.dAll (tr B)) = decide (A = B)
  | [], [] => by simp [tr, T.dAll, PyData.eqvAll]
  | [], _ :: _ => by simp [tr, T.dAll, PyData.eqvAll]
  | _ :: _, [] => by simp [tr, T.dAll, PyData.eqvAll]
  | a :: A, b :: B => by
    have ih := eqvAll_tr A B
    unfold tr at ih ⊢
    have e : PyData.eqv (T.d (.tup (tn a))) (T.d (.tup (tn b))) = decide (a = b) := eqD_tup a b
    simp only [List.map_cons, T.dAll, PyData.eqvAll, ih, e]
    rw [Bool.eq_iff_iff]
    simp only [Bool.and_eq_true, decide_eq_true_eq, List.cons.injEq]
theorem eqD_tr (A B : List (List Nat)) : eqD (.tup (tr A)) (.tup (tr B)) = decide (A = B) := by
  show PyData.eqvAll _ _ = _
  exact eqvAll_tr A B
theorem eq_tr (A B : List (List Nat)) : TL.eqT (.tup (tr A)) (.tup (tr B)) = some (.sh (.bl (decide (A = B)))) := by
  unfold TL.eqT
  rw [if_pos ⟨okTs_tr A 58, okTs_tr B 58⟩, eqD_tr]
theorem ne_tr (A : List (List Nat)) : TL.neT (.tup (tr A)) (.tup (tr A)) = some (.sh (.bl false)) := by
  unfold TL.neT
  rw [if_pos ⟨okTs_tr A 58, okTs_tr A 58⟩, eqD_tr, decide_eq_true rfl]
  rfl
theorem len_tr (A : List (List Nat)) : lenN [.tup (tr A)] = some (.sh (.int (A.length : Int))) := by
  show some (Slot.sh (T.int ((tr A).length : Int))) = _
  rw [tr_length]
theorem mod2 (a : Nat) : modT (.int (a : Int)) (.int 2) = some (.sh (.int ((a % 2 : Nat) : Int))) := by
  simp only [modT]
  rw [if_pos (by omega)]
  rfl
theorem ev_def (p : List Nat) : ev p = decide ((p.length - (lawR p).length) % 2 = 0) := rfl
def sg (p : List Nat) : Int := if ev p = true then 1 else -1
theorem neg1 : negT (.int 1) = some (.sh (.int (-1))) := rfl
section
variable {p q : List Nat} {n : Nat}
theorem hp_of (P : p.Perm (List.range n)) : ∀ i < p.length, p.getD i 0 < p.length := fun i hi => by
  rw [perm_len P] at hi ⊢
  exact at_lt P hi
theorem r_rounds0 (P : p.Perm (List.range n)) (h1 : 1 ≤ n) (h6 : n ≤ 6) (nb : Nib) : f_rounds_of [.tup (tn p)] nb = .ok (.sh (.tup (tr (lawR p)))) nb := by
  have R := rok P h1 h6
  have e := r_rounds_of (nb := nb) (hp_of P) (by rw [perm_len P]; omega) R.ok
  rw [show prL p (List.range p.length) [] [] = lawR p from R.pr] at e
  exact e
theorem r_rounds (b : Bool) (P : p.Perm (List.range n)) (h1 : 1 ≤ n) (h6 : n ≤ 6) (nb : Nib) : f_rounds [sq b (tn p)] nb = .ok (.sh (.tup (tr (lawR p)))) nb := by
  have e1 := r_need_wiring b p n (.str "row") nb P h1 h6
  have e2 := r_rounds0 P h1 h6 nb
  have s2 : f_rounds [sq b (tn p)] nb = fnEnd (b_rounds ⟨[.sh (sq b (tn p))], [], nb⟩) := rfl
  have kk : b_rounds ⟨[.sh (sq b (tn p))], [], nb⟩ = .ok (.rt (.sh (.tup (tr (lawR p))))) ⟨[.sh (sq b (tn p))], [], nb⟩ := by
    unfold b_rounds
    clear P h1 h6 s2
    trivial
  rw [s2, kk]
  rfl
theorem r_sign (b : Bool) (P : p.Perm (List.range n)) (h1 : 1 ≤ n) (h6 : n ≤ 6) (nb : Nib) : f_sign [sq b (tn p)] nb = .ok (.sh (.int (sg p))) nb := by
  have e1 := r_need_wiring b p n (.str "row") nb P h1 h6
  have e2 := r_rounds0 P h1 h6 nb
  have e3 := len_tnt p
  have e4 := len_tr (lawR p)
  have e5 := sub_nat (rok P h1 h6).le
  have e6 := mod2 (p.length - (lawR p).length)
  have e7 : TL.eqT (.int ((((p.length - (lawR p).length) % 2 : Nat)) : Int)) (.int 0) = some (.sh (.bl (ev p))) := by
    rw [ev_def]
    exact eq_n ((p.length - (lawR p).length) % 2) 0
  have e8 := neg1
  have e0 : f_sign_of [.tup (tn p)] nb = .ok (.sh (.int (sg p))) nb := by
    obtain ⟨R, hR⟩ : ∃ R, R = lawR p := ⟨_, rfl⟩
    rw [← hR] at e2 e4 e5 e6 e7
    obtain ⟨d, hd⟩ : ∃ d, d = p.length - R.length := ⟨_, rfl⟩
    rw [← hd] at e5 e6 e7
    obtain ⟨m, hm⟩ : ∃ m, m = d % 2 := ⟨_, rfl⟩
    rw [← hm] at e6 e7
    have s2 : f_sign_of [.tup (tn p)] nb = fnEnd (b_sign_of ⟨[.sh (.tup (tn p))], [], nb⟩) := rfl
    have kk : b_sign_of ⟨[.sh (.tup (tn p))], [], nb⟩ = .ok (.rt (.sh (.int (sg p)))) ⟨[.sh (.tup (tn p))], [], nb⟩ := by
      unfold b_sign_of
      clear P h1 h6 s2 e1 hR hd hm
      cases he : ev p with
      | true =>
        rw [he] at e7
        rw [show sg p = 1 from if_pos he]
        clear he
        trivial
      | false =>
        rw [he] at e7
        rw [show sg p = -1 from if_neg (by rw [he]; decide)]
        clear he
        trivial
    rw [s2, kk]
    rfl
  have s2 : f_sign [sq b (tn p)] nb = fnEnd (b_sign ⟨[.sh (sq b (tn p))], [], nb⟩) := rfl
  have kk : b_sign ⟨[.sh (sq b (tn p))], [], nb⟩ = .ok (.rt (.sh (.int (sg p)))) ⟨[.sh (sq b (tn p))], [], nb⟩ := by
    unfold b_sign
    clear P h1 h6 s2 e2 e3 e4 e5 e6 e7 e8
    trivial
  rw [s2, kk]
  rfl
def crsL (p : List Nat) (t : Nat) : List Nat := (List.range t).filter fun a => decide (p.getD t 0 < p.getD a 0)
theorem evI_def (p : List Nat) : evI p = decide (((List.range p.length).map fun t => (crsL p t).length).sum % 2 = 0) := rfl
theorem g_C1 {t : Nat} (ht : t < p.length) (h6 : p.length ≤ 6) (gh : List Slot) (nb : Nib) : b_law_sign_C1 ⟨[.sh (.lst (tn p)), .no, .sh (.int (t : Int)), .no], gh, nb⟩ = .ok (.ow (.lst (tn (crsL p t)))) ⟨[.sh (.lst (tn p)), .no, .sh (.int (t : Int)), .no], gh, nb⟩ := by
  have e0 : ∀ S, kRng (.val (.int (t : Int))) S = .ok (tn (List.range t)) S := fun S => kRng_n S _ (by omega)
  refine (compF_map (S1 := ⟨[.sh (.lst (tn p)), .no, .sh (.int (t : Int)), .no], gh, nb⟩) (List.range t) (fun (a : Nat) => T.int (a : Int)) (fun a => if decide (p.getD t 0 < p.getD a 0) = true then some (T.int (a : Int)) else none) (by clear ht h6; trivial; rfl) rfl rfl (len_sz (by rw [List.length_range]; omega)) (fun a hm acc => ?_)).trans (by
    rw [filterMap_if]
    rfl)
  have ha := List.mem_range.mp hm
  have i1 : ixT (.lst (tn p)) (.int (a : Int)) = _ := ixD false (p := p) (i := a) (by omega)
  have i2 : ixT (.lst (tn p)) (.int (t : Int)) = _ := ixD false (p := p) (i := t) ht
  have i3 := gt_n (p.getD a 0) (p.getD t 0)
  clear hm ha ht h6 e0
  exact compStep_filter (S1 := ⟨[.sh (.lst (tn p)), .no, .sh (.int (t : Int)), .sh (.int (a : Int))], gh ++ [.ow (.lst acc)], nb⟩) rfl (by trivial) (by trivial) rfl
theorem g_C2 (h6 : p.length ≤ 6) (nb : Nib) : b_law_sign_C2 ⟨[.sh (.lst (tn p)), .no, .no, .no], [], nb⟩ = .ok (.ow (.lst (tn ((List.range p.length).map fun t => (crsL p t).length)))) ⟨[.sh (.lst (tn p)), .no, .no, .no], [], nb⟩ := by
  have e0 : ∀ S, kRng (.val (.int (p.length : Int))) S = .ok (tn (List.range p.length)) S := fun S => kRng_n S _ (by omega)
  have e9 := len_tn p
  refine (compF_map (S1 := ⟨[.sh (.lst (tn p)), .no, .no, .no], [], nb⟩) (List.range p.length) (fun (a : Nat) => T.int (a : Int)) (fun t => some (T.int (((crsL p t).length : Nat) : Int))) (by clear h6; trivial; rfl) rfl rfl (len_sz (by rw [List.length_range]; omega)) (fun t hm acc => ?_)).trans (by
    congr 3
    unfold tn
    rw [List.map_map, ← List.filterMap_eq_map]
    rfl)
  have e1 := g_C1 (List.mem_range.mp hm) h6 [.ow (.lst acc)] nb
  have e2 := len_tn (crsL p t)
  clear hm h6 e0 e9
  exact compStep_map (S1 := ⟨[.sh (.lst (tn p)), .no, .sh (.int (t : Int)), .no], [] ++ [.ow (.lst acc)], nb⟩) rfl (by trivial; rfl) rfl rfl
theorem r_law_sign (P : p.Perm (List.range n)) (h1 : 1 ≤ n) (h6 : n ≤ 6) (nb : Nib) : f_law_sign [.lst (tn p)] nb = .ok (.sh (.int (sg p))) nb := by
  have hl := perm_len P
  have e1 := g_C2 (p := p) (by omega) nb
  have e2 := sumN_l ((List.range p.length).map fun t => (crsL p t).length)
  obtain ⟨z, hz⟩ : ∃ z, z = ((List.range p.length).map fun t => (crsL p t).length).sum := ⟨_, rfl⟩
  have e3 : intN [.int (z : Int)] = some (.sh (.int (z : Int))) := rfl
  have e4 := mod2 z
  have e5 : TL.eqT (.int (((z % 2 : Nat)) : Int)) (.int 0) = some (.sh (.bl (ev p))) := by
    have := eq_n (z % 2) 0
    rw [show decide (z % 2 = 0) = ev p from by rw [hz, ← evI_def]; exact (rok P h1 h6).ei] at this
    exact this
  rw [← hz] at e2
  have e6 := neg1
  obtain ⟨Z, hZ⟩ : ∃ Z, Z = (List.range p.length).map fun t => (crsL p t).length := ⟨_, rfl⟩
  rw [← hZ] at e1 e2
  obtain ⟨m, hm⟩ : ∃ m, m = z % 2 := ⟨_, rfl⟩
  rw [← hm] at e4 e5
  have s2 : f_law_sign [.lst (tn p)] nb = fnEnd (b_law_sign ⟨[.sh (.lst (tn p)), .no, .no, .no], [], nb⟩) := rfl
  have kk : b_law_sign ⟨[.sh (.lst (tn p)), .no, .no, .no], [], nb⟩ = .ok (.rt (.sh (.int (sg p)))) ⟨[.sh (.lst (tn p)), .sh (.int (z : Int)), .no, .no], [], nb⟩ := by
    unfold b_law_sign
    clear P h1 h6 s2 hz hZ hm hl
    cases he : ev p with
    | true =>
      rw [he] at e5
      rw [show sg p = 1 from if_pos he]
      clear he
      trivial
    | false =>
      rw [he] at e5
      rw [show sg p = -1 from if_neg (by rw [he]; decide)]
      clear he
      trivial
  rw [s2, kk]
  rfl
theorem idxF_lst {fa fb : OF} {S S1 S2 : Sta} {o o' : Opd} {ts ts' : List T} {u : T} {z : Slot} (h1 : fa S = .ok o S1) (g1 : o.get S1 = some (.lst ts)) (h2 : fb S1 = .ok o' S2) (g2 : o.get S2 = some (.lst ts')) (g3 : o'.get S2 = some u) (hz : idxP ts' u = some z) : idxF fa fb S = .ok z S2 := by
  unfold idxF
  rw [h1, R.bind_ok, g1]
  dsimp only
  rw [h2, R.bind_ok, g2, g3]
  dsimp only
  rw [hz, res_some]
theorem cut_from (ts : List T) {k : Nat} (h : k ≤ ts.length) : cutT ts (some (k : Int)) none = ts.drop k := by
  unfold cutT
  rw [HT.sIx_none, HT.sIx_nat, Nat.min_eq_left h]
  exact List.take_of_length_le (by rw [List.length_drop]; omega)
theorem cut_to (ts : List T) {k : Nat} (h : k ≤ ts.length) : cutT ts none (some (k : Int)) = ts.take k := by
  unfold cutT
  rw [HT.sIx_none, HT.sIx_nat, Nat.min_eq_left h]
  rfl
theorem tn_take (p : List Nat) (k : Nat) : tn (p.take k) = (tn p).take k := by unfold tn; rw [List.map_take]
theorem idx_first {l : List Nat} {x : Nat} (h : x ∈ l) : l[l.idxOf x]? = some x ∧ ∀ m < l.idxOf x, l[m]? ≠ some x := by
  have hl : l.idxOf x < l.length := List.idxOf_lt_length_of_mem h
  refine ⟨?_, fun m hm e => ?_⟩
  · rw [List.getElem?_eq_getElem hl]
    exact congrArg some (List.getElem_idxOf hl)
  · have h2 : m < l.length := (List.getElem?_eq_some_iff.mp e).1
    have h3 := (List.getElem?_eq_some_iff.mp e).2
    exact absurd (beq_iff_eq.mpr h3) (by
      have := List.not_of_lt_findIdx (p := fun y => y == x) (xs := l) (i := m) hm
      simpa using this)
theorem n_C1 {c : List Nat} (hc : ∀ x ∈ c, x < q.length) (hl : c.length ≤ 100) (x0 x2 x4 x5 : Slot) (nb : Nib) : b_law_renamed_C1 ⟨[x0, .sh (.lst (tn q)), x2, .sh (.tup (tn c)), x4, x5, .no], [], nb⟩ = .ok (.ow (.lst (tn (mapC q c)))) ⟨[x0, .sh (.lst (tn q)), x2, .sh (.tup (tn c)), x4, x5, .no], [], nb⟩ := by
  refine (compF_map (S1 := ⟨[x0, .sh (.lst (tn q)), x2, .sh (.tup (tn c)), x4, x5, .no], [], nb⟩) c (fun (a : Nat) => T.int (a : Int)) (fun a => some (T.int ((q.getD a 0 : Nat) : Int))) (by clear hc hl; trivial; rfl) rfl rfl (len_sz (by omega)) (fun x hm acc => ?_)).trans (by
    congr 3
    unfold tn mapC
    rw [List.map_map, ← List.filterMap_eq_map]
    rfl)
  have i1 : ixT (.lst (tn q)) (.int (x : Int)) = _ := ixD false (p := q) (i := x) (hc x hm)
  clear hm hc hl
  exact compStep_map (S1 := ⟨[x0, .sh (.lst (tn q)), x2, .sh (.tup (tn c)), x4, x5, .sh (.int (x : Int))], [] ++ [.ow (.lst acc)], nb⟩) rfl (by trivial; rfl) rfl rfl
theorem n_step {c : List Nat} {F : List (List Nat)} (hc : ∀ x ∈ c, x < q.length) (hne : c ≠ []) (hl : c.length ≤ 100) (hF : F.length ≤ 100) (x0 x4 x5 : Slot) (nb : Nib) : ∃ x4' x5', b_law_renamed_L2 ⟨[x0, .sh (.lst (tn q)), .ow (.lst (tr F)), .sh (.tup (tn c)), x4, x5, .no], [], nb⟩ = .ok .nx ⟨[x0, .sh (.lst (tn q)), .ow (.lst (tr (F ++ [norm (mapC q c)]))), .sh (.tup (tn c)), x4', x5', .no], [], nb⟩ := by
  have e1 := n_C1 hc hl x0 (.ow (.lst (tr F))) x4 x5 nb
  have hm : mapC q c ≠ [] := fun e => hne (List.map_eq_nil_iff.mp e)
  have lm : (mapC q c).length = c.length := List.length_map _
  obtain ⟨d, hd⟩ : ∃ d, d = mapC q c := ⟨_, rfl⟩
  rw [← hd] at e1 hm lm ⊢
  have e2 := minN_l hm
  obtain ⟨f1, f2⟩ := idx_first (mn_spec hm).1
  have e3 := idxP_tn f1 f2
  obtain ⟨k, hk⟩ : ∃ k, k = d.idxOf (mn d) := ⟨_, rfl⟩
  have kl : k < d.length := by rw [hk]; exact (List.getElem?_eq_some_iff.mp f1).1
  have en : norm d = d.drop k ++ d.take k := by rw [hk]; rfl
  rw [← hk] at e3
  have e4 : opE (opN minN (consA (var 4) (nilA))) ⟨[x0, .sh (.lst (tn q)), .ow (.lst (tr F)), .sh (.tup (tn c)), .ow (.lst (tn d)), x5, .no], [], nb⟩ = .ok (.val (.int ((mn d : Nat) : Int))) ⟨[x0, .sh (.lst (tn q)), .ow (.lst (tr F)), .sh (.tup (tn c)), .ow (.lst (tn d)), x5, .no], [], nb⟩ := by
    clear e1 e3 hc hne hl hF hm lm hd f1 f2 hk kl en
    trivial
  have e5 : idxF (var 4) (opE (opN minN (consA (var 4) (nilA)))) ⟨[x0, .sh (.lst (tn q)), .ow (.lst (tr F)), .sh (.tup (tn c)), .ow (.lst (tn d)), x5, .no], [], nb⟩ = .ok (.sh (.int (k : Int))) ⟨[x0, .sh (.lst (tn q)), .ow (.lst (tr F)), .sh (.tup (tn c)), .ow (.lst (tn d)), x5, .no], [], nb⟩ :=
    idxF_lst (o := .pl 4) rfl rfl e4 rfl rfl e3
  have s1 : slT' (.lst (tn d)) (some (k : Int)) none = some (.ow (.lst (tn (d.drop k)))) := by
    show some (Slot.ow (T.lst (cutT (tn d) (some (k : Int)) none))) = _
    rw [cut_from _ (by rw [tn_length]; omega), tn_drop]
  have s3 : slT' (.lst (tn d)) none (some (k : Int)) = some (.ow (.lst (tn (d.take k)))) := by
    show some (Slot.ow (T.lst (cutT (tn d) none (some (k : Int))))) = _
    rw [cut_to _ (by rw [tn_length]; omega), tn_take]
  have s4 : addT (.lst (tn (d.drop k))) (.lst (tn (d.take k))) = some (.ow (.lst (tn (norm d)))) := by
    rw [cat_l _ _ (by rw [tn_length, tn_length, List.length_drop, List.length_take]; omega), ← tn_append, en]
  have s5 := tuple_l (tn (norm d))
  have s6 := tr_ap F (norm d) hF
  obtain ⟨D, hD⟩ : ∃ D, D = d.drop k := ⟨_, rfl⟩
  obtain ⟨E, hE⟩ : ∃ E, E = d.take k := ⟨_, rfl⟩
  obtain ⟨N, hN⟩ : ∃ N, N = norm d := ⟨_, rfl⟩
  rw [← hD] at s1 s4
  rw [← hE] at s3 s4
  rw [← hN] at s4 s5 s6 ⊢
  refine ⟨.ow (.lst (tn d)), .sh (.int (k : Int)), ?_⟩
  unfold b_law_renamed_L2
  clear e2 e3 e4 hc hne hl hF hm lm hd f1 f2 hk kl en hD hE hN
  refine seq_nx (S1 := ⟨[x0, .sh (.lst (tn q)), .ow (.lst (tr F)), .sh (.tup (tn c)), .ow (.lst (tn d)), x5, .no], [], nb⟩) (by clear e5; trivial) ?_
  refine seq_nx (S1 := ⟨[x0, .sh (.lst (tn q)), .ow (.lst (tr F)), .sh (.tup (tn c)), .ow (.lst (tn d)), .sh (.int (k : Int)), .no], [], nb⟩) (by clear e1; rw [w_setF, e5]; rfl) ?_
  clear e1 e5
  trivial
theorem n_loop (x0 : Slot) (nb : Nib) : ∀ (R F : List (List Nat)) (x3 x4 x5 : Slot), (∀ c ∈ R, c ≠ [] ∧ c.length ≤ 100 ∧ ∀ x ∈ c, x < q.length) → F.length + R.length ≤ 100 →
    ∃ x3' x4' x5', forL (.nm 3) b_law_renamed_L2 (tr R) ⟨[x0, .sh (.lst (tn q)), .ow (.lst (tr F)), x3, x4, x5, .no], [], nb⟩ = .ok .nx ⟨[x0, .sh (.lst (tn q)), .ow (.lst (tr (F ++ R.map fun c => norm (mapC q c)))), x3', x4', x5', .no], [], nb⟩
  | [], F, x3, x4, x5, _, _ => ⟨x3, x4, x5, by rw [List.map_nil, List.append_nil]; rfl⟩
  | c :: R, F, x3, x4, x5, h, hF => by
    rw [List.length_cons] at hF
    obtain ⟨c1, c2, c3⟩ := h c List.mem_cons_self
    obtain ⟨y4, y5, e1⟩ := n_step c3 c1 c2 (by omega) x0 x4 x5 nb (F := F)
    obtain ⟨z3, z4, z5, e2⟩ := n_loop x0 nb R (F ++ [norm (mapC q c)]) (.sh (.tup (tn c))) y4 y5 (fun d hd => h d (List.mem_cons_of_mem _ hd)) (by rw [List.length_append, List.length_singleton]; omega)
    refine ⟨z3, z4, z5, ?_⟩
    rw [List.map_cons, List.append_cons]
    show forL (.nm 3) b_law_renamed_L2 (.tup (tn c) :: tr R) _ = _
    rw [forL_cons]
    show ((b_law_renamed_L2 ⟨[x0, .sh (.lst (tn q)), .ow (.lst (tr F)), .sh (.tup (tn c)), x4, x5, .no], [], nb⟩).bind _) = _
    rw [e1, TL.R.bind_ok]
    exact e2
theorem tups_tr : ∀ L : List (List Nat), (∀ c ∈ L, c ≠ []) → tupsT (tr L) = some (L.map toI)
  | [], _ => rfl
  | c :: L, h => by
    have hc := h c List.mem_cons_self
    have e : intsT (tn c) = some (toI c) := intsT_tn c
    show (intsT (tn c)).bind _ = _
    have hz : toI c ≠ [] := fun z => hc (List.map_eq_nil_iff.mp z)
    have ih := tups_tr L fun d hd => h d (List.mem_cons_of_mem _ hd)
    unfold tr at ih
    rw [e, Option.bind_some, if_neg hz, ih]
    rfl
theorem sortB_tr {L : List (List Nat)} (h : ∀ c ∈ L, c ≠ []) : sortBN [.lst (tr L)] = some (.ow (.lst (tr (sortL L)))) := by
  have key : (sortX (L.map toI)).map tpI = tr (sortL L) := by
    rw [← sort_eq, List.map_map]
    unfold tr
    refine List.map_congr_left fun c _ => ?_
    show T.tup ((c.map fun (n : Nat) => (n : Int)).map T.int) = T.tup (tn c)
    unfold tn
    rw [List.map_map]
    rfl
  cases L with
  | nil => rfl
  | cons c L =>
    have e1 : sortedN [.lst (tr (c :: L))] = none := rfl
    have e2 : sortTN [.lst (tr (c :: L))] = some (.ow (.lst (tr (sortL (c :: L))))) := by
      show (tupsT (tr (c :: L))).map _ = _
      rw [tups_tr _ h, Option.map_some, key]
    unfold sortBN
    rw [e1]
    exact e2
theorem r_renamed {R : List (List Nat)} (hR : Cyc n R) (hl : R.length ≤ 50) (hc : ∀ c ∈ R, c.length ≤ 100) (Q : q.Perm (List.range n)) (nb : Nib) : f_law_renamed [.tup (tr R), .lst (tn q)] nb = .ok (.sh (.tup (tr (renN R q)))) nb := by
  have lq := perm_len Q
  obtain ⟨x3, x4, x5, e1⟩ := n_loop (q := q) (.sh (.tup (tr R))) nb R [] .no .no .no (fun c h => ⟨(hR c h).1, hc c h, fun x hx => by rw [lq]; exact (hR c h).2.2 x hx⟩) (by rw [List.length_nil]; omega)
  rw [List.nil_append] at e1
  have e2 := sortB_tr (L := R.map fun c => norm (mapC q c)) (fun d hd => by
    obtain ⟨c, h, rfl⟩ := List.mem_map.mp hd
    intro e
    have hp := norm_perm (mapC q c)
    rw [e] at hp
    exact (hR c h).1 (List.map_eq_nil_iff.mp hp.symm.eq_nil))
  have er : sortL (R.map fun c => norm (mapC q c)) = renN R q := rfl
  rw [er] at e2
  have e3 := tuple_l (tr (renN R q))
  obtain ⟨D, hD⟩ : ∃ D, D = R.map fun c => norm (mapC q c) := ⟨_, rfl⟩
  obtain ⟨N, hN⟩ : ∃ N, N = renN R q := ⟨_, rfl⟩
  rw [← hD] at e1 e2
  rw [← hN] at e2 e3 ⊢
  replace e1 : forL (.nm 3) b_law_renamed_L2 (tr R) ⟨[.sh (.tup (tr R)), .sh (.lst (tn q)), .ow (.lst []), .no, .no, .no, .no], [], nb⟩ = _ := e1
  have s2 : f_law_renamed [.tup (tr R), .lst (tn q)] nb = fnEnd (b_law_renamed ⟨[.sh (.tup (tr R)), .sh (.lst (tn q)), .no, .no, .no, .no, .no], [], nb⟩) := rfl
  have kk : b_law_renamed ⟨[.sh (.tup (tr R)), .sh (.lst (tn q)), .no, .no, .no, .no, .no], [], nb⟩ = .ok (.rt (.sh (.tup (tr N)))) ⟨[.sh (.tup (tr R)), .sh (.lst (tn q)), .ow (.lst (tr D)), x3, x4, x5, .no], [], nb⟩ := by
    unfold b_law_renamed
    clear hR hl hc Q lq er hD hN s2
    refine seq_nx (S1 := ⟨[.sh (.tup (tr R)), .sh (.lst (tn q)), .ow (.lst []), .no, .no, .no, .no], [], nb⟩) (by clear e1 e2 e3; trivial) ?_
    refine seq_nx (S1 := ⟨[.sh (.tup (tr R)), .sh (.lst (tn q)), .ow (.lst (tr D)), x3, x4, x5, .no], [], nb⟩) (by clear e2 e3; trivial) ?_
    clear e1
    trivial
  rw [s2, kk]
  rfl
end
end K05

end
section
set_option Elab.async false
set_option linter.all false
set_option maxRecDepth 100000
set_option autoImplicit false
set_option maxHeartbeats 400000
open PySem PySem.Spec PyProof.Rows L2
open TL hiding eqT neT
namespace K05
local macro_rules | `(tactic| trivial) => `(tactic| simp -implicitDefEqProofs only [w_callBF, kCallB_ap, gCallB_ap, gFRB_ok, lf_int, lf_tn, lf_tr, lf_bl, w_setDF, kSetD_ap, gSetD0_ap, kSetD2_ap, gSetD_ap, w_okB, w_excB, w_dicF, w_starA, kStar_l, kStar_t, kStar2_ap, vals_star, w_callKF, kCallK_ap, kCallK2_ap, gCallK_ap, prm_nil, w_tryF, kTry_ok, kTry_exc, gTry_t, gTry_f, kTry2_ap, w_raiseF, kRaise_ap, gRaise_ap, w_par3F, kPar3a_ap, kPar3b_ap, kPar3c_ap, gPar_exc, gPar_exc1, w_slF, kSl1_ap, kSl2_ap, kSl3_ap, w_someB, kSome_ap, w_noB, w_rngI2, kRng2_ap, List.nil_append, List.cons_append,  w_con, w_opE, kOpE_sh, kOpE_ow, w_nilA, w_consA, kCons_ap, kCons2_ap, w_op2, kOp2_ap, kOp2'_ap, gOp2_ap, w_op1, kOp1_ap, gOp1_ap, w_opN, kOpN_ap, gOpN_ap, w_res, w_tst, kTst_ap, w_chn, kChn_ap, kChn2_ap, gChn_ap, hChn_t, hChn_f, kChn3_ap, w_andT, kAndT_t, kAndT_f, w_orT, kOrT_t, kOrT_f, w_notT, kNotT_ap, w_andE, kAndE_t, kAndE_f, w_orE, kOrE_t, kOrE_f, w_notE, kNotE_ap, w_ite3, kIte3_t, kIte3_f, w_lstF, kLst_ap, w_tupF, kTup_ap, gLst_ap, gTup_ap, w_seq, kSeq_nx, kSeq_rt, kSeq_bk, kSeq_ct, w_nxF, w_bkF, w_ctF, w_retF, kRet_ap, w_retNF, w_dropF, kDrop_ap, w_ifF, kIfF_t, kIfF_f, w_setF, kSet_ap, w_asgF, kAsg_ap, gAsg_ap, w_forF, kFor_ap, w_forL, w_forL0, gForL_ap, kForL_nx, kForL_ct, kForL_bk, kForL_rt, w_callF, kCall_ap, gCall_ap, gFR_ok, gFR_exc, w_seqI, kSeqI_l, kSeqI_t, w_enumI, kEnumI_l, kEnumI_t, w_zipI, kZip_ap, kZip2_l, kZip2_t, w_rngI1, kRng_n, w_yesT, w_var, w_varE, w_varR, gVar_sh, gVar_ow, gVarE_sh, gVarE_ow, gVarR_sh, gVarR_ow, get_pl, get_val, tree_sh, tree_ow, slot_tree_sh, slot_tree_ow, w_methF, gMeth0_ap, kMeth_ap, gMeth_ap, hMeth_ap, w_setIF, kSetI_ap, gSetI0_ap, kSetI2_ap, gSetI_ap, hSetI_ap, w_parF, kPar_ap, gPar_ap, gPar_one, nil_app, put_nm, put_tp, put_tpw, put_tpl, putAll_nil, putAll_cons, vals_nil, vals_cons, gets_nil, gets_cons, Option.map_some, Option.bind_some, List.getElem?_cons_succ, List.getElem?_cons_zero, List.set_cons_succ, List.set_cons_zero, List.length_cons, List.length_nil, Nat.zero_add, Nat.reduceAdd, Nat.reduceLT, Nat.reduceLeDiff, Nat.le_refl, and_self, ↓reduceIte, Bool.not_true, Bool.not_false, fnEnd, *])

theorem ne_i (z : Int) : TL.neT (.int z) (.int z) = some (.sh (.bl false)) := by rw [TL.ne_int, decide_eq_true rfl]; rfl
theorem isN_t (z : List T) : isN ["tuple"] (.tup z) = some (.sh (.bl true)) := by
  simp only [isN, tyN, Option.bind_some, show kitN "tuple" ["tuple"] = some true by decide +kernel]; rfl
theorem par3E_run {i j l : Nat} {f g h : EF} {S S1 S2 S3 S4 S5 : Sta} {x y z x' y' : Slot} (h1 : f S = .ok x S1) (h2 : g (S1.push x) = .ok y S2) (h3 : h (S2.push y) = .ok z S3) (h4 : S3.popG = some (y', S4)) (h5 : S4.popG = some (x', S5)) (h6 : i < S5.lo.length ∧ j < S5.lo.length ∧ l < S5.lo.length) :
    par3E i j l f g h S = .ok .nx (((S5.put l z).put j y').put i x') := by
  unfold par3E
  rw [h1, R.bind_ok, h2]
  dsimp only
  rw [h3]
  dsimp only
  rw [h4]
  dsimp only
  rw [h5]
  dsimp only
  rw [if_pos h6]
theorem fm_false {α β : Type} (f : α → β) : ∀ l : List α, (l.filterMap fun a => if false = true then some (f a) else none) = []
  | [] => rfl
  | _ :: l => fm_false f l
theorem rev_t (ts : List T) : revA (.tup ts) = some (.sh (.tup ts.reverse)) := rfl
theorem slT_to (c : List Nat) : slT' (.tup (tn c)) none (some 1) = some (.sh (.tup (tn (c.take 1)))) := by
  show some (Slot.sh (T.tup (cutT (tn c) none (some 1)))) = _
  cases c with
  | nil => rfl
  | cons a l => rw [show (1 : Int) = ((1 : Nat) : Int) from rfl, cut_to _ (by rw [tn_length, List.length_cons]; omega), tn_take]
theorem slT_from (c : List Nat) (h : c ≠ []) : slT' (.tup (tn c)) (some 1) none = some (.sh (.tup (tn (c.drop 1)))) := by
  show some (Slot.sh (T.tup (cutT (tn c) (some 1) none))) = _
  rw [show (1 : Int) = ((1 : Nat) : Int) from rfl, cut_from _ (by
    rw [tn_length]
    cases c with
    | nil => exact absurd rfl h
    | cons a l => rw [List.length_cons]; omega)]
  unfold tn
  rw [List.map_drop]
theorem tn_rev (c : List Nat) : (tn c).reverse = tn c.reverse := by unfold tn; rw [List.map_reverse]
section
variable {p q r h : List Nat} {R R' : List (List Nat)} {z : Int} {n i j x : Nat}
theorem o_C1 (hl : R.length ≤ 1000) (nb : Nib) : b_law_one_right_C1 ⟨[.sh .nib, .sh (.int (n : Int)), .ow (.lst (tn p)), .sh (.tup (tr R)), .sh (.int z), .ow (.lst (tn p)), .no, .no, .no, .no, .no, .no], [], nb⟩ = .ok (.ow (.lst [])) ⟨[.sh .nib, .sh (.int (n : Int)), .ow (.lst (tn p)), .sh (.tup (tr R)), .sh (.int z), .ow (.lst (tn p)), .no, .no, .no, .no, .no, .no], [], nb⟩ := by
  refine (compF_map (S1 := ⟨[.sh .nib, .sh (.int (n : Int)), .ow (.lst (tn p)), .sh (.tup (tr R)), .sh (.int z), .ow (.lst (tn p)), .no, .no, .no, .no, .no, .no], [], nb⟩) R (fun (c : List Nat) => T.tup (tn c)) (fun c => if false = true then some (T.tup (tn c)) else none) (by clear hl; trivial; rfl) rfl rfl (len_sz (by omega)) (fun c hm acc => ?_)).trans (by
    rw [fm_false])
  have e1 := isN_t (tn c)
  clear hm hl
  exact compStep_filter (S1 := ⟨[.sh .nib, .sh (.int (n : Int)), .ow (.lst (tn p)), .sh (.tup (tr R)), .sh (.int z), .ow (.lst (tn p)), .no, .no, .no, .no, .sh (.tup (tn c)), .no], [] ++ [.ow (.lst acc)], nb⟩) rfl (by trivial) (by trivial) rfl
theorem o_C2 {c : List Nat} (hl : c.length ≤ 1000) (gh : List Slot) (nb : Nib) : b_law_one_right_C2 ⟨[.sh .nib, .sh (.int (n : Int)), .ow (.lst (tn p)), .sh (.tup (tr R)), .sh (.int z), .ow (.lst (tn p)), .no, .no, .no, .no, .sh (.tup (tn c)), .no], gh, nb⟩ = .ok (.ow (.lst [])) ⟨[.sh .nib, .sh (.int (n : Int)), .ow (.lst (tn p)), .sh (.tup (tr R)), .sh (.int z), .ow (.lst (tn p)), .no, .no, .no, .no, .sh (.tup (tn c)), .no], gh, nb⟩ := by
  refine (compF_map (S1 := ⟨[.sh .nib, .sh (.int (n : Int)), .ow (.lst (tn p)), .sh (.tup (tr R)), .sh (.int z), .ow (.lst (tn p)), .no, .no, .no, .no, .sh (.tup (tn c)), .no], gh, nb⟩) c (fun (a : Nat) => T.int (a : Int)) (fun a => if false = true then some (T.int (a : Int)) else none) (by clear hl; trivial; rfl) rfl rfl (len_sz (by omega)) (fun x hm acc => ?_)).trans (by
    rw [fm_false])
  have e1 := isN_bool_int (x : Int)
  clear hm hl
  exact compStep_filter (S1 := ⟨[.sh .nib, .sh (.int (n : Int)), .ow (.lst (tn p)), .sh (.tup (tr R)), .sh (.int z), .ow (.lst (tn p)), .no, .no, .no, .no, .sh (.tup (tn c)), .sh (.int (x : Int))], gh ++ [.ow (.lst acc)], nb⟩) rfl (by trivial) (by trivial) rfl
theorem o_C3 (hl : R.length ≤ 1000) (hc : ∀ c ∈ R, c.length ≤ 1000) (nb : Nib) : b_law_one_right_C3 ⟨[.sh .nib, .sh (.int (n : Int)), .ow (.lst (tn p)), .sh (.tup (tr R)), .sh (.int z), .ow (.lst (tn p)), .no, .no, .no, .no, .no, .no], [], nb⟩ = .ok (.ow (.lst [])) ⟨[.sh .nib, .sh (.int (n : Int)), .ow (.lst (tn p)), .sh (.tup (tr R)), .sh (.int z), .ow (.lst (tn p)), .no, .no, .no, .no, .no, .no], [], nb⟩ := by
  refine (compF_map (S1 := ⟨[.sh .nib, .sh (.int (n : Int)), .ow (.lst (tn p)), .sh (.tup (tr R)), .sh (.int z), .ow (.lst (tn p)), .no, .no, .no, .no, .no, .no], [], nb⟩) R (fun (c : List Nat) => T.tup (tn c)) (fun c => if false = true then some (T.tup (tn c)) else none) (by clear hl hc; trivial; rfl) rfl rfl (len_sz (by omega)) (fun c hm acc => ?_)).trans (by
    rw [fm_false])
  have e1 := o_C2 (p := p) (R := R) (z := z) (n := n) (hc c hm) [.ow (.lst acc)] nb
  have e2 : TL.neT (.lst []) (.lst []) = some (.sh (.bl false)) := ne_lst [] []
  clear hm hl hc
  exact compStep_filter (S1 := ⟨[.sh .nib, .sh (.int (n : Int)), .ow (.lst (tn p)), .sh (.tup (tr R)), .sh (.int z), .ow (.lst (tn p)), .no, .no, .no, .no, .sh (.tup (tn c)), .no], [] ++ [.ow (.lst acc)], nb⟩) rfl (by trivial) (by trivial) rfl
theorem o_C4 (hl : R.length ≤ 1000) (hc : ∀ c ∈ R, c ≠ [] ∧ c.length ≤ 400) (nb : Nib) : b_law_one_right_C4 ⟨[.sh .nib, .sh (.int (n : Int)), .ow (.lst (tn p)), .sh (.tup (tr R)), .sh (.int z), .ow (.lst (tn p)), .sh (.tup (tn h)), .no, .no, .no, .no, .no], [], nb⟩ = .ok (.ow (.lst (tr (R.map turnC)))) ⟨[.sh .nib, .sh (.int (n : Int)), .ow (.lst (tn p)), .sh (.tup (tr R)), .sh (.int z), .ow (.lst (tn p)), .sh (.tup (tn h)), .no, .no, .no, .no, .no], [], nb⟩ := by
  refine (compF_map (S1 := ⟨[.sh .nib, .sh (.int (n : Int)), .ow (.lst (tn p)), .sh (.tup (tr R)), .sh (.int z), .ow (.lst (tn p)), .sh (.tup (tn h)), .no, .no, .no, .no, .no], [], nb⟩) R (fun (c : List Nat) => T.tup (tn c)) (fun c => some (T.tup (tn (turnC c)))) (by clear hl hc; trivial; rfl) rfl rfl (len_sz (by omega)) (fun c hm acc => ?_)).trans (by
    congr 3
    unfold tr
    rw [List.map_map, ← List.filterMap_eq_map]
    rfl)
  have e1 := slT_to c
  have e2 := slT_from c (hc c hm).1
  have e3 := rev_t (tn (c.drop 1))
  rw [tn_rev] at e3
  have e4 := catT (c.take 1) (c.drop 1).reverse (by rw [List.length_take, List.length_reverse, List.length_drop]; have := (hc c hm).2; omega)
  have e5 : c.take 1 ++ (c.drop 1).reverse = turnC c := rfl
  rw [e5] at e4
  obtain ⟨A, hA⟩ : ∃ A, A = c.take 1 := ⟨_, rfl⟩
  obtain ⟨B, hB⟩ : ∃ B, B = c.drop 1 := ⟨_, rfl⟩
  obtain ⟨D, hD⟩ : ∃ D, D = turnC c := ⟨_, rfl⟩
  rw [← hA] at e1 e4
  rw [← hB] at e2 e3 e4
  rw [← hD] at e4 ⊢
  clear hm hl hc hA hB hD e5
  exact compStep_map (S1 := ⟨[.sh .nib, .sh (.int (n : Int)), .ow (.lst (tn p)), .sh (.tup (tr R)), .sh (.int z), .ow (.lst (tn p)), .sh (.tup (tn h)), .no, .no, .no, .sh (.tup (tn c)), .no], [] ++ [.ow (.lst acc)], nb⟩) rfl (by trivial; rfl) rfl rfl
theorem o0 {nb nb1 : Nib} (e1 : f_law_row [.nib, .int (n : Int)] nb = .ok (.ow (.lst (tn p))) nb1) : (setF 2 (callF 2 f_law_row (consA (opE (varE 0)) (consA (opE (varE 1)) (nilA))))) ⟨[.sh .nib, .sh (.int (n : Int)), .no, .no, .no, .no, .no, .no, .no, .no, .no, .no], [], nb⟩ = .ok .nx ⟨[.sh .nib, .sh (.int (n : Int)), .ow (.lst (tn p)), .no, .no, .no, .no, .no, .no, .no, .no, .no], [], nb1⟩ := by
  trivial
theorem o1 {nb : Nib} (e1 : f_rounds [.lst (tn p)] nb = .ok (.sh (.tup (tr R))) nb) (e2 : f_sign [.lst (tn p)] nb = .ok (.sh (.int z)) nb) : (par3E 3 4 5 (callBF 1 f_rounds (consA (var 2) (nilA))) (callBF 1 f_sign (consA (var 2) (nilA))) (opN listN (consA (var 2) (nilA)))) ⟨[.sh .nib, .sh (.int (n : Int)), .ow (.lst (tn p)), .no, .no, .no, .no, .no, .no, .no, .no, .no], [], nb⟩ = .ok .nx ⟨[.sh .nib, .sh (.int (n : Int)), .ow (.lst (tn p)), .sh (.tup (tr R)), .sh (.int z), .ow (.lst (tn p)), .no, .no, .no, .no, .no, .no], [], nb⟩ := by
  have e3 : ∀ ts : List T, listN [.lst ts] = some (.ow (.lst ts)) := fun _ => rfl
  have e4 := lf_tr R
  have e5 := lf_int z
  have q1 : callBF 1 f_rounds (consA (var 2) (nilA)) ⟨[.sh .nib, .sh (.int (n : Int)), .ow (.lst (tn p)), .no, .no, .no, .no, .no, .no, .no, .no, .no], [], nb⟩ = .ok (.sh (.tup (tr R))) ⟨[.sh .nib, .sh (.int (n : Int)), .ow (.lst (tn p)), .no, .no, .no, .no, .no, .no, .no, .no, .no], [], nb⟩ := by
    clear e2 e3 e5
    trivial
  have q2 : callBF 1 f_sign (consA (var 2) (nilA)) ⟨[.sh .nib, .sh (.int (n : Int)), .ow (.lst (tn p)), .no, .no, .no, .no, .no, .no, .no, .no, .no], [.sh (.tup (tr R))], nb⟩ = .ok (.sh (.int z)) ⟨[.sh .nib, .sh (.int (n : Int)), .ow (.lst (tn p)), .no, .no, .no, .no, .no, .no, .no, .no, .no], [.sh (.tup (tr R))], nb⟩ := by
    clear e1 e3 e4 q1
    trivial
  have q3 : opN listN (consA (var 2) (nilA)) ⟨[.sh .nib, .sh (.int (n : Int)), .ow (.lst (tn p)), .no, .no, .no, .no, .no, .no, .no, .no, .no], [.sh (.tup (tr R)), .sh (.int z)], nb⟩ = .ok (.ow (.lst (tn p))) ⟨[.sh .nib, .sh (.int (n : Int)), .ow (.lst (tn p)), .no, .no, .no, .no, .no, .no, .no, .no, .no], [.sh (.tup (tr R)), .sh (.int z)], nb⟩ := by
    clear e1 e2 e4 e5 q1 q2
    trivial
  exact (par3E_run q1 q2 q3 rfl rfl ⟨show 3 < 12 by decide, show 4 < 12 by decide, show 5 < 12 by decide⟩).trans rfl
theorem o2 {nb : Nib} (e1 : b_law_one_right_C1 ⟨[.sh .nib, .sh (.int (n : Int)), .ow (.lst (tn p)), .sh (.tup (tr R)), .sh (.int z), .ow (.lst (tn p)), .no, .no, .no, .no, .no, .no], [], nb⟩ = .ok (.ow (.lst [])) ⟨[.sh .nib, .sh (.int (n : Int)), .ow (.lst (tn p)), .sh (.tup (tr R)), .sh (.int z), .ow (.lst (tn p)), .no, .no, .no, .no, .no, .no], [], nb⟩) (e2 : f_law_rounds [.lst (tn p)] nb = .ok (.sh (.tup (tr R))) nb) : (ifF (orT (notT (tst (op1 (isN ["tuple"]) (var 3)))) (orT (tst (op2 TL.neT (opE (b_law_one_right_C1)) (opE (lstF (nilA))))) (tst (op2 TL.neT (var 3) (opE (callBF 1 f_law_rounds (consA (var 2) (nilA)))))))) (retF (con (.bl false))) (nxF)) ⟨[.sh .nib, .sh (.int (n : Int)), .ow (.lst (tn p)), .sh (.tup (tr R)), .sh (.int z), .ow (.lst (tn p)), .no, .no, .no, .no, .no, .no], [], nb⟩ = .ok .nx ⟨[.sh .nib, .sh (.int (n : Int)), .ow (.lst (tn p)), .sh (.tup (tr R)), .sh (.int z), .ow (.lst (tn p)), .no, .no, .no, .no, .no, .no], [], nb⟩ := by
  have e3 := isN_t (tr R)
  have e4 : TL.neT (.lst []) (.lst []) = some (.sh (.bl false)) := ne_lst [] []
  have e5 := ne_tr R
  have e6 := lf_tr R
  trivial
theorem o3 {nb : Nib} (e1 : b_law_one_right_C3 ⟨[.sh .nib, .sh (.int (n : Int)), .ow (.lst (tn p)), .sh (.tup (tr R)), .sh (.int z), .ow (.lst (tn p)), .no, .no, .no, .no, .no, .no], [], nb⟩ = .ok (.ow (.lst [])) ⟨[.sh .nib, .sh (.int (n : Int)), .ow (.lst (tn p)), .sh (.tup (tr R)), .sh (.int z), .ow (.lst (tn p)), .no, .no, .no, .no, .no, .no], [], nb⟩) : (ifF (tst (op2 TL.neT (opE (b_law_one_right_C3)) (opE (lstF (nilA))))) (retF (con (.bl false))) (nxF)) ⟨[.sh .nib, .sh (.int (n : Int)), .ow (.lst (tn p)), .sh (.tup (tr R)), .sh (.int z), .ow (.lst (tn p)), .no, .no, .no, .no, .no, .no], [], nb⟩ = .ok .nx ⟨[.sh .nib, .sh (.int (n : Int)), .ow (.lst (tn p)), .sh (.tup (tr R)), .sh (.int z), .ow (.lst (tn p)), .no, .no, .no, .no, .no, .no], [], nb⟩ := by
  have e4 : TL.neT (.lst []) (.lst []) = some (.sh (.bl false)) := ne_lst [] []
  trivial
theorem o4 {nb : Nib} {b : Bool} (hz : z = if b = true then 1 else -1) (hb : b = decide ((n - R.length) % 2 = 0)) (hn : R.length ≤ n) (e1 : f_law_sign [.lst (tn p)] nb = .ok (.sh (.int z)) nb) : (ifF (orT (tst (op1 (isN ["bool"]) (var 4))) (orT (notT (tst (op1 (isN ["int"]) (var 4)))) (orT (tst (op2 TL.neT (var 4) (opE (callBF 1 f_law_sign (consA (var 2) (nilA)))))) (tst (op2 TL.neT (var 4) (opE (ite3 (tst (op2 TL.eqT (opE (op2 modT (opE (opN intN (consA (opE (op2 subT (var 1) (opE (opN lenN (consA (var 3) (nilA)))))) (nilA)))) (opE (con (.int 2))))) (opE (con (.int 0))))) (con (.int 1)) (op1 negT (opE (con (.int 1))))))))))) (retF (con (.bl false))) (nxF)) ⟨[.sh .nib, .sh (.int (n : Int)), .ow (.lst (tn p)), .sh (.tup (tr R)), .sh (.int z), .ow (.lst (tn p)), .no, .no, .no, .no, .no, .no], [], nb⟩ = .ok .nx ⟨[.sh .nib, .sh (.int (n : Int)), .ow (.lst (tn p)), .sh (.tup (tr R)), .sh (.int z), .ow (.lst (tn p)), .no, .no, .no, .no, .no, .no], [], nb⟩ := by
  have e2 := isN_bool_int z
  have e3 := isN_int_int z
  have e4 := ne_i z
  have e5 := len_tr R
  have e6 := sub_nat hn
  obtain ⟨d, hd⟩ : ∃ d, d = n - R.length := ⟨_, rfl⟩
  rw [← hd] at e6 hb
  have e7 : intN [.int (d : Int)] = some (.sh (.int (d : Int))) := rfl
  have e8 := mod2 d
  obtain ⟨m, hm⟩ : ∃ m, m = d % 2 := ⟨_, rfl⟩
  rw [← hm] at e8 hb
  have e9 : TL.eqT (.int (m : Int)) (.int 0) = some (.sh (.bl b)) := by rw [hb]; exact eq_n m 0
  have e10 := neg1
  clear hb hm hd hn
  cases b with
  | true =>
    replace hz : z = 1 := hz
    subst hz
    trivial
  | false =>
    replace hz : z = -1 := hz
    subst hz
    trivial
theorem o5 {nb : Nib} (e1 : f_rounds [.tup (tn p)] nb = .ok (.sh (.tup (tr R))) nb) (e2 : f_sign [.tup (tn p)] nb = .ok (.sh (.int z)) nb) : (ifF (orT (tst (op2 TL.neT (opE (callKF 1 1 [0] f_rounds nilA (consA (opE (opN tupleN (consA (var 2) (nilA)))) (nilA)))) (var 3))) (orT (tst (op2 TL.neT (opE (callKF 1 1 [0] f_sign nilA (consA (opE (opN tupleN (consA (var 2) (nilA)))) (nilA)))) (var 4))) (tst (op2 TL.neT (var 2) (var 5))))) (retF (con (.bl false))) (nxF)) ⟨[.sh .nib, .sh (.int (n : Int)), .ow (.lst (tn p)), .sh (.tup (tr R)), .sh (.int z), .ow (.lst (tn p)), .no, .no, .no, .no, .no, .no], [], nb⟩ = .ok .nx ⟨[.sh .nib, .sh (.int (n : Int)), .ow (.lst (tn p)), .sh (.tup (tr R)), .sh (.int z), .ow (.lst (tn p)), .no, .no, .no, .no, .no, .no], [], nb⟩ := by
  have e3 := tuple_l (tn p)
  have e4 := prm_one (T.tup (tn p))
  have e5 := ne_tr R
  have e6 := ne_i z
  have e7 : TL.neT (.lst (tn p)) (.lst (tn p)) = some (.sh (.bl false)) := by rw [ne_lst, decide_eq_true rfl]; rfl
  trivial
theorem o6 {nb : Nib} (e1 : f_back [.lst (tn p)] nb = .ok (.sh (.tup (tn h))) nb) : (setF 6 (callBF 1 f_back (consA (var 2) (nilA)))) ⟨[.sh .nib, .sh (.int (n : Int)), .ow (.lst (tn p)), .sh (.tup (tr R)), .sh (.int z), .ow (.lst (tn p)), .no, .no, .no, .no, .no, .no], [], nb⟩ = .ok .nx ⟨[.sh .nib, .sh (.int (n : Int)), .ow (.lst (tn p)), .sh (.tup (tr R)), .sh (.int z), .ow (.lst (tn p)), .sh (.tup (tn h)), .no, .no, .no, .no, .no], [], nb⟩ := by
  have e2 := lf_tn h
  trivial
theorem o7 {nb : Nib} (e1 : f_sign [.tup (tn h)] nb = .ok (.sh (.int z)) nb) (e2 : f_rounds [.tup (tn h)] nb = .ok (.sh (.tup (tr R'))) nb) (e3 : b_law_one_right_C4 ⟨[.sh .nib, .sh (.int (n : Int)), .ow (.lst (tn p)), .sh (.tup (tr R)), .sh (.int z), .ow (.lst (tn p)), .sh (.tup (tn h)), .no, .no, .no, .no, .no], [], nb⟩ = .ok (.ow (.lst (tr R'))) ⟨[.sh .nib, .sh (.int (n : Int)), .ow (.lst (tn p)), .sh (.tup (tr R)), .sh (.int z), .ow (.lst (tn p)), .sh (.tup (tn h)), .no, .no, .no, .no, .no], [], nb⟩) : (ifF (orT (tst (op2 TL.neT (opE (callF 1 f_sign (consA (opE (varE 6)) (nilA)))) (var 4))) (tst (op2 TL.neT (opE (callF 1 f_rounds (consA (opE (varE 6)) (nilA)))) (opE (opN tupleN (consA (opE (b_law_one_right_C4)) (nilA))))))) (retF (con (.bl false))) (nxF)) ⟨[.sh .nib, .sh (.int (n : Int)), .ow (.lst (tn p)), .sh (.tup (tr R)), .sh (.int z), .ow (.lst (tn p)), .sh (.tup (tn h)), .no, .no, .no, .no, .no], [], nb⟩ = .ok .nx ⟨[.sh .nib, .sh (.int (n : Int)), .ow (.lst (tn p)), .sh (.tup (tr R)), .sh (.int z), .ow (.lst (tn p)), .sh (.tup (tn h)), .no, .no, .no, .no, .no], [], nb⟩ := by
  have e4 := ne_i z
  have e5 := ne_tr R'
  have e6 := tuple_l (tr R')
  trivial
theorem o8 {nb nb1 nb2 : Nib} (e1 : f_law_sip [.nib, .int (n : Int)] nb = .ok (.sh (.int (i : Int))) nb1) (e2 : f_law_sip [.nib, .int (n : Int)] nb1 = .ok (.sh (.int (j : Int))) nb2) : (parF 7 8 (callF 2 f_law_sip (consA (opE (varE 0)) (consA (opE (varE 1)) (nilA)))) (callF 2 f_law_sip (consA (opE (varE 0)) (consA (opE (varE 1)) (nilA))))) ⟨[.sh .nib, .sh (.int (n : Int)), .ow (.lst (tn p)), .sh (.tup (tr R)), .sh (.int z), .ow (.lst (tn p)), .sh (.tup (tn h)), .no, .no, .no, .no, .no], [], nb⟩ = .ok .nx ⟨[.sh .nib, .sh (.int (n : Int)), .ow (.lst (tn p)), .sh (.tup (tr R)), .sh (.int z), .ow (.lst (tn p)), .sh (.tup (tn h)), .sh (.int (i : Int)), .sh (.int (j : Int)), .no, .no, .no], [], nb2⟩ := by
  trivial
theorem o9 {nb : Nib} (e1 : ixT (.lst (tn p)) (.int (i : Int)) = some (.sh (.int (x : Int)))) : (setF 9 (op2 ixT (var 2) (var 7))) ⟨[.sh .nib, .sh (.int (n : Int)), .ow (.lst (tn p)), .sh (.tup (tr R)), .sh (.int z), .ow (.lst (tn p)), .sh (.tup (tn h)), .sh (.int (i : Int)), .sh (.int (j : Int)), .no, .no, .no], [], nb⟩ = .ok .nx ⟨[.sh .nib, .sh (.int (n : Int)), .ow (.lst (tn p)), .sh (.tup (tr R)), .sh (.int z), .ow (.lst (tn p)), .sh (.tup (tn h)), .sh (.int (i : Int)), .sh (.int (j : Int)), .sh (.int (x : Int)), .no, .no], [], nb⟩ := by
  trivial
theorem o10 {nb : Nib} {y : Nat} (e1 : ixT (.lst (tn p)) (.int (j : Int)) = some (.sh (.int (y : Int)))) (e2 : ixN (tn p).length (i : Int) = some i) (hq : q = p.set i y) : (setIF 2 (opE (op2 ixT (var 2) (var 8))) (opE (varE 7))) ⟨[.sh .nib, .sh (.int (n : Int)), .ow (.lst (tn p)), .sh (.tup (tr R)), .sh (.int z), .ow (.lst (tn p)), .sh (.tup (tn h)), .sh (.int (i : Int)), .sh (.int (j : Int)), .sh (.int (x : Int)), .no, .no], [], nb⟩ = .ok .nx ⟨[.sh .nib, .sh (.int (n : Int)), .ow (.lst (tn q)), .sh (.tup (tr R)), .sh (.int z), .ow (.lst (tn p)), .sh (.tup (tn h)), .sh (.int (i : Int)), .sh (.int (j : Int)), .sh (.int (x : Int)), .no, .no], [], nb⟩ := by
  have e3 := tn_set p i y
  rw [← hq] at e3
  clear hq
  trivial
theorem o11 {nb : Nib} (e2 : ixN (tn q).length (j : Int) = some j) (hr : r = q.set j x) : (setIF 2 (opE (varE 9)) (opE (varE 8))) ⟨[.sh .nib, .sh (.int (n : Int)), .ow (.lst (tn q)), .sh (.tup (tr R)), .sh (.int z), .ow (.lst (tn p)), .sh (.tup (tn h)), .sh (.int (i : Int)), .sh (.int (j : Int)), .sh (.int (x : Int)), .no, .no], [], nb⟩ = .ok .nx ⟨[.sh .nib, .sh (.int (n : Int)), .ow (.lst (tn r)), .sh (.tup (tr R)), .sh (.int z), .ow (.lst (tn p)), .sh (.tup (tn h)), .sh (.int (i : Int)), .sh (.int (j : Int)), .sh (.int (x : Int)), .no, .no], [], nb⟩ := by
  have e3 := tn_set q j x
  rw [← hr] at e3
  clear hr
  trivial
theorem o12 {nb : Nib} {w : Int} (e1 : f_sign [.lst (tn r)] nb = .ok (.sh (.int w)) nb) (hw : w = if i = j then z else -z) : (retF (op2 TL.eqT (opE (callBF 1 f_sign (consA (var 2) (nilA)))) (opE (ite3 (tst (op2 TL.eqT (var 7) (var 8))) (varE 4) (op1 negT (var 4)))))) ⟨[.sh .nib, .sh (.int (n : Int)), .ow (.lst (tn r)), .sh (.tup (tr R)), .sh (.int z), .ow (.lst (tn p)), .sh (.tup (tn h)), .sh (.int (i : Int)), .sh (.int (j : Int)), .sh (.int (x : Int)), .no, .no], [], nb⟩ = .ok (.rt (.sh (.bl true))) ⟨[.sh .nib, .sh (.int (n : Int)), .ow (.lst (tn r)), .sh (.tup (tr R)), .sh (.int z), .ow (.lst (tn p)), .sh (.tup (tn h)), .sh (.int (i : Int)), .sh (.int (j : Int)), .sh (.int (x : Int)), .no, .no], [], nb⟩ := by
  have e2 := lf_int w
  have e3 := eq_n i j
  have e4 : negT (.int z) = some (.sh (.int (-z))) := rfl
  have e5 : TL.eqT (.int w) (.int w) = some (.sh (.bl true)) := by rw [TL.eq_int, decide_eq_true rfl]
  by_cases hij : i = j
  · rw [if_pos hij] at hw
    rw [decide_eq_true hij] at e3
    subst hw
    clear hij
    trivial
  · rw [if_neg hij] at hw
    rw [decide_eq_false hij] at e3
    subst hw
    clear hij
    trivial
end
end K05

end
section
set_option Elab.async false
set_option linter.all false
set_option maxRecDepth 100000
set_option autoImplicit false
set_option maxHeartbeats 400000
open PySem PySem.Spec PyProof.Rows L2
open TL hiding eqT neT
namespace K05
local macro_rules | `(tactic| trivial) => `(tactic| simp -implicitDefEqProofs only [w_callBF, kCallB_ap, gCallB_ap, gFRB_ok, lf_int, lf_tn, lf_tr, lf_bl, w_setDF, kSetD_ap, gSetD0_ap, kSetD2_ap, gSetD_ap, w_okB, w_excB, w_dicF, w_starA, kStar_l, kStar_t, kStar2_ap, vals_star, w_callKF, kCallK_ap, kCallK2_ap, gCallK_ap, prm_nil, w_tryF, kTry_ok, kTry_exc, gTry_t, gTry_f, kTry2_ap, w_raiseF, kRaise_ap, gRaise_ap, w_par3F, kPar3a_ap, kPar3b_ap, kPar3c_ap, gPar_exc, gPar_exc1, w_slF, kSl1_ap, kSl2_ap, kSl3_ap, w_someB, kSome_ap, w_noB, w_rngI2, kRng2_ap, List.nil_append, List.cons_append,  w_con, w_opE, kOpE_sh, kOpE_ow, w_nilA, w_consA, kCons_ap, kCons2_ap, w_op2, kOp2_ap, kOp2'_ap, gOp2_ap, w_op1, kOp1_ap, gOp1_ap, w_opN, kOpN_ap, gOpN_ap, w_res, w_tst, kTst_ap, w_chn, kChn_ap, kChn2_ap, gChn_ap, hChn_t, hChn_f, kChn3_ap, w_andT, kAndT_t, kAndT_f, w_orT, kOrT_t, kOrT_f, w_notT, kNotT_ap, w_andE, kAndE_t, kAndE_f, w_orE, kOrE_t, kOrE_f, w_notE, kNotE_ap, w_ite3, kIte3_t, kIte3_f, w_lstF, kLst_ap, w_tupF, kTup_ap, gLst_ap, gTup_ap, w_seq, kSeq_nx, kSeq_rt, kSeq_bk, kSeq_ct, w_nxF, w_bkF, w_ctF, w_retF, kRet_ap, w_retNF, w_dropF, kDrop_ap, w_ifF, kIfF_t, kIfF_f, w_setF, kSet_ap, w_asgF, kAsg_ap, gAsg_ap, w_forF, kFor_ap, w_forL, w_forL0, gForL_ap, kForL_nx, kForL_ct, kForL_bk, kForL_rt, w_callF, kCall_ap, gCall_ap, gFR_ok, gFR_exc, w_seqI, kSeqI_l, kSeqI_t, w_enumI, kEnumI_l, kEnumI_t, w_zipI, kZip_ap, kZip2_l, kZip2_t, w_rngI1, kRng_n, w_yesT, w_var, w_varE, w_varR, gVar_sh, gVar_ow, gVarE_sh, gVarE_ow, gVarR_sh, gVarR_ow, get_pl, get_val, tree_sh, tree_ow, slot_tree_sh, slot_tree_ow, w_methF, gMeth0_ap, kMeth_ap, gMeth_ap, hMeth_ap, w_setIF, kSetI_ap, gSetI0_ap, kSetI2_ap, gSetI_ap, hSetI_ap, w_parF, kPar_ap, gPar_ap, gPar_one, nil_app, put_nm, put_tp, put_tpw, put_tpl, putAll_nil, putAll_cons, vals_nil, vals_cons, gets_nil, gets_cons, Option.map_some, Option.bind_some, List.getElem?_cons_succ, List.getElem?_cons_zero, List.set_cons_succ, List.set_cons_zero, List.length_cons, List.length_nil, Nat.zero_add, Nat.reduceAdd, Nat.reduceLT, Nat.reduceLeDiff, Nat.le_refl, and_self, ↓reduceIte, Bool.not_true, Bool.not_false, fnEnd, *])

theorem getD_set' (p : List Nat) (i a t : Nat) (hi : i < p.length) : (p.set i a).getD t 0 = if t = i then a else p.getD t 0 := by
  rw [List.getD_eq_getElem?_getD, List.getD_eq_getElem?_getD, List.getElem?_set]
  by_cases h : i = t
  · rw [if_pos h, if_pos h.symm]
    subst h
    rw [if_pos hi]
    rfl
  · rw [if_neg h, if_neg (Ne.symm h)]
theorem get_at {l : List Nat} {t : Nat} (h : t < l.length) : l[t] = l.getD t 0 := by rw [List.getD_eq_getElem?_getD, List.getElem?_eq_getElem h]; rfl
theorem len_sub : ∀ (c l : List Nat), c.Nodup → (∀ x ∈ c, x ∈ l) → c.length ≤ l.length
  | [], _, _, _ => Nat.zero_le _
  | a :: c, l, nd, h => by
    have h1 := List.nodup_cons.mp nd
    have ha := h a List.mem_cons_self
    have := len_sub c (l.erase a) h1.2 fun x hx => (List.mem_erase_of_ne (fun (e : x = a) => h1.1 (by rw [← e]; exact hx))).mpr (h x (List.mem_cons_of_mem _ hx))
    rw [List.length_erase_of_mem ha] at this
    have := List.length_pos_of_mem ha
    rw [List.length_cons]
    omega
section
variable {p : List Nat} {n i j : Nat}
theorem swap_eq (P : p.Perm (List.range n)) (hi : i < n) (hj : j < n) : (p.set i (p.getD j 0)).set j (p.getD i 0) = behL (tpL n i j) p := by
  have hl := perm_len P
  have ht : (tpL n i j).length = n := by
    unfold tpL
    rw [List.length_map, List.length_range]
  refine List.ext_getElem? fun t => ?_
  have e : ((p.set i (p.getD j 0)).set j (p.getD i 0)).length = (behL (tpL n i j) p).length := by
    rw [List.length_set, List.length_set, beh_len, ht, hl]
  by_cases hn : t < n
  · have h1 : t < ((p.set i (p.getD j 0)).set j (p.getD i 0)).length := by rw [List.length_set, List.length_set, hl]; exact hn
    have h2 : t < (behL (tpL n i j) p).length := by rw [← e]; exact h1
    rw [List.getElem?_eq_getElem h1, List.getElem?_eq_getElem h2]
    congr 1
    have a1 : ((p.set i (p.getD j 0)).set j (p.getD i 0))[t] = ((p.set i (p.getD j 0)).set j (p.getD i 0)).getD t 0 := get_at h1
    have a2 : (behL (tpL n i j) p)[t] = (behL (tpL n i j) p).getD t 0 := get_at h2
    rw [a1, a2, beh_at (by rw [ht]; exact hn), getD_set' _ _ _ _ (by rw [List.length_set]; omega), getD_set' _ _ _ _ (by omega)]
    have a3 : (tpL n i j).getD t 0 = if t = i then j else if t = j then i else t := by
      unfold tpL
      rw [getD_map (by rw [List.length_range]; exact hn), getD_range hn]
    rw [a3]
    by_cases c1 : t = j
    · rw [if_pos c1]
      by_cases c2 : t = i
      · rw [if_pos c2, ← c2, ← c1]
      · rw [if_neg c2, if_pos c1]
    · rw [if_neg c1]
      by_cases c2 : t = i
      · rw [if_pos c2, if_pos c2]
      · rw [if_neg c2, if_neg c2, if_neg c1]
  · rw [List.getElem?_eq_none (by rw [List.length_set, List.length_set, hl]; omega), List.getElem?_eq_none (by rw [← e, List.length_set, List.length_set, hl]; omega)]
theorem ev_inv (P : p.Perm (List.range n)) (h1 : 1 ≤ n) (h6 : n ≤ 6) : ev (invL p) = ev p := by
  have e : lawR (invL p) = (lawR p).map turnC := by
    rw [← (rok (inv_perm P) h1 h6).pr]
    exact (rok P h1 h6).tu
  rw [ev_def, ev_def, e, List.length_map, inv_len P, perm_len P]
theorem inv_rounds (P : p.Perm (List.range n)) (h1 : 1 ≤ n) (h6 : n ≤ 6) : lawR (invL p) = (lawR p).map turnC := by
  rw [← (rok (inv_perm P) h1 h6).pr]
  exact (rok P h1 h6).tu
theorem sg_inv (P : p.Perm (List.range n)) (h1 : 1 ≤ n) (h6 : n ≤ 6) : sg (invL p) = sg p := by
  unfold sg
  rw [ev_inv P h1 h6]
theorem sg_swap (P : p.Perm (List.range n)) (h1 : 1 ≤ n) (h6 : n ≤ 6) (hi : i < n) (hj : j < n) : sg (behL (tpL n i j) p) = if i = j then sg p else -sg p := by
  obtain ⟨e, Q⟩ := tp_ok h1 h6 hi hj
  unfold sg
  rw [ev_mul Q P h1 h6, e]
  by_cases c : i = j
  · rw [if_pos c, decide_eq_true c]
    cases ev p <;> rfl
  · rw [if_neg c, decide_eq_false c]
    cases ev p <;> rfl
theorem nodup_len {c : List Nat} {m : Nat} (nd : c.Nodup) (h : ∀ x ∈ c, x < m) : c.length ≤ m := by
  have := len_sub c (List.range m) nd fun x hx => List.mem_range.mpr (h x hx)
  rwa [List.length_range] at this
theorem r_one {k : Nat} {nb : Nib} (hk0 : NbOk k nb) (hk : k ≤ 50000) (h1 : 1 ≤ n) (h6 : n ≤ 6) : ∃ nb', NbOk (k + 9) nb' ∧ f_law_one_right [.nib, .int (n : Int)] nb = .ok (.sh (.bl true)) nb' := by
  obtain ⟨p, nb1, P, k1, e1⟩ := r_row (w := n) hk0 (by omega) h6
  obtain ⟨i, nb2, hi, k2, e2⟩ := r_tip k1 (by omega) (m := n) (by omega) (by omega)
  obtain ⟨j, nb3, hj, k3, e3⟩ := r_tip k2 (by omega) (m := n) (by omega) (by omega)
  refine ⟨nb3, k3.mono (by omega), ?_⟩
  have K := rok P h1 h6
  have hl := perm_len P
  have hR : (lawR p).length ≤ n := by have := K.le; omega
  have hc : ∀ c ∈ lawR p, c ≠ [] ∧ c.length ≤ 6 := fun c hm => ⟨(K.cs c hm).1, by have := nodup_len (K.cs c hm).2.1 (K.cs c hm).2.2; omega⟩
  have H := inv_perm P
  have b0 := o0 e1
  have b1 := o1 (n := n) (r_rounds false P h1 h6 nb1) (r_sign false P h1 h6 nb1)
  have b2 := o2 (o_C1 (p := p) (R := lawR p) (z := sg p) (n := n) (by omega) nb1) (r_law_rounds (hp_of P) (by omega) K.cy)
  have b3 := o3 (o_C3 (p := p) (R := lawR p) (z := sg p) (n := n) (by omega) (fun c hm => by have := (hc c hm).2; omega) nb1)
  have b4 := o4 (n := n) (R := lawR p) (z := sg p) (b := ev p) rfl (by rw [ev_def, hl]) hR (r_law_sign P h1 h6 nb1)
  have b5 := o5 (n := n) (r_rounds true P h1 h6 nb1) (r_sign true P h1 h6 nb1)
  have b6 := o6 (n := n) (R := lawR p) (z := sg p) (h := invL p) (r_back false P h1 h6 nb1)
  have b7 := o7 (p := p) (R := lawR p) (z := sg p) (h := invL p) (n := n) (R' := (lawR p).map turnC) ((r_sign true H h1 h6 nb1).trans (by rw [sg_inv P h1 h6])) ((r_rounds true H h1 h6 nb1).trans (by rw [inv_rounds P h1 h6])) (o_C4 (p := p) (R := lawR p) (z := sg p) (h := invL p) (n := n) (by omega) (fun c hm => ⟨(hc c hm).1, by have := (hc c hm).2; omega⟩) nb1)
  have b8 := o8 (p := p) (R := lawR p) (z := sg p) (h := invL p) e2 e3
  have b9 := o9 (R := lawR p) (z := sg p) (h := invL p) (n := n) (i := i) (j := j) (nb := nb3) (ixD false (p := p) (i := i) (by omega))
  have b10 := o10 (R := lawR p) (z := sg p) (h := invL p) (n := n) (i := i) (j := j) (x := p.getD i 0) (nb := nb3) (ixD false (p := p) (i := j) (by omega)) (ixN_n (by rw [tn_length]; omega)) rfl
  have b11 := o11 (R := lawR p) (z := sg p) (h := invL p) (n := n) (i := i) (j := j) (x := p.getD i 0) (nb := nb3) (p := p) (q := p.set i (p.getD j 0)) (ixN_n (by rw [tn_length, List.length_set]; omega)) rfl
  rw [swap_eq P hi hj] at b11
  have W := beh_perm (tp_ok h1 h6 hi hj).2 P
  have b12 := o12 (p := p) (R := lawR p) (z := sg p) (h := invL p) (n := n) (i := i) (j := j) (x := p.getD i 0) (r_sign false W h1 h6 nb3) (sg_swap P h1 h6 hi hj)
  have s2 : f_law_one_right [.nib, .int (n : Int)] nb = fnEnd (b_law_one_right ⟨[.sh .nib, .sh (.int (n : Int)), .no, .no, .no, .no, .no, .no, .no, .no, .no, .no], [], nb⟩) := rfl
  have kk := seq_nx b0 (seq_nx b1 (seq_nx b2 (seq_nx b3 (seq_nx b4 (seq_nx b5 (seq_nx b6 (seq_nx b7 (seq_nx b8 (seq_nx b9 (seq_nx b10 (seq_nx b11 b12)))))))))))
  rw [s2, show b_law_one_right ⟨[.sh .nib, .sh (.int (n : Int)), .no, .no, .no, .no, .no, .no, .no, .no, .no, .no], [], nb⟩ = _ from kk]
  rfl
end
end K05

end
section
set_option Elab.async false
set_option linter.all false
set_option maxRecDepth 100000
set_option autoImplicit false
set_option maxHeartbeats 400000
open PySem PySem.Spec PyProof.Rows L2
open TL hiding eqT neT
namespace K05
local macro_rules | `(tactic| trivial) => `(tactic| simp -implicitDefEqProofs only [w_callBF, kCallB_ap, gCallB_ap, gFRB_ok, lf_int, lf_tn, lf_tr, lf_bl, w_setDF, kSetD_ap, gSetD0_ap, kSetD2_ap, gSetD_ap, w_okB, w_excB, w_dicF, w_starA, kStar_l, kStar_t, kStar2_ap, vals_star, w_callKF, kCallK_ap, kCallK2_ap, gCallK_ap, prm_nil, w_tryF, kTry_ok, kTry_exc, gTry_t, gTry_f, kTry2_ap, w_raiseF, kRaise_ap, gRaise_ap, w_par3F, kPar3a_ap, kPar3b_ap, kPar3c_ap, gPar_exc, gPar_exc1, w_slF, kSl1_ap, kSl2_ap, kSl3_ap, w_someB, kSome_ap, w_noB, w_rngI2, kRng2_ap, List.nil_append, List.cons_append,  w_con, w_opE, kOpE_sh, kOpE_ow, w_nilA, w_consA, kCons_ap, kCons2_ap, w_op2, kOp2_ap, kOp2'_ap, gOp2_ap, w_op1, kOp1_ap, gOp1_ap, w_opN, kOpN_ap, gOpN_ap, w_res, w_tst, kTst_ap, w_chn, kChn_ap, kChn2_ap, gChn_ap, hChn_t, hChn_f, kChn3_ap, w_andT, kAndT_t, kAndT_f, w_orT, kOrT_t, kOrT_f, w_notT, kNotT_ap, w_andE, kAndE_t, kAndE_f, w_orE, kOrE_t, kOrE_f, w_notE, kNotE_ap, w_ite3, kIte3_t, kIte3_f, w_lstF, kLst_ap, w_tupF, kTup_ap, gLst_ap, gTup_ap, w_seq, kSeq_nx, kSeq_rt, kSeq_bk, kSeq_ct, w_nxF, w_bkF, w_ctF, w_retF, kRet_ap, w_retNF, w_dropF, kDrop_ap, w_ifF, kIfF_t, kIfF_f, w_setF, kSet_ap, w_asgF, kAsg_ap, gAsg_ap, w_forF, kFor_ap, w_forL, w_forL0, gForL_ap, kForL_nx, kForL_ct, kForL_bk, kForL_rt, w_callF, kCall_ap, gCall_ap, gFR_ok, gFR_exc, w_seqI, kSeqI_l, kSeqI_t, w_enumI, kEnumI_l, kEnumI_t, w_zipI, kZip_ap, kZip2_l, kZip2_t, w_rngI1, kRng_n, w_yesT, w_var, w_varE, w_varR, gVar_sh, gVar_ow, gVarE_sh, gVarE_ow, gVarR_sh, gVarR_ow, get_pl, get_val, tree_sh, tree_ow, slot_tree_sh, slot_tree_ow, w_methF, gMeth0_ap, kMeth_ap, gMeth_ap, hMeth_ap, w_setIF, kSetI_ap, gSetI0_ap, kSetI2_ap, gSetI_ap, hSetI_ap, w_parF, kPar_ap, gPar_ap, gPar_one, nil_app, put_nm, put_tp, put_tpw, put_tpl, putAll_nil, putAll_cons, vals_nil, vals_cons, gets_nil, gets_cons, Option.map_some, Option.bind_some, List.getElem?_cons_succ, List.getElem?_cons_zero, List.set_cons_succ, List.set_cons_zero, List.length_cons, List.length_nil, Nat.zero_add, Nat.reduceAdd, Nat.reduceLT, Nat.reduceLeDiff, Nat.le_refl, and_self, ↓reduceIte, Bool.not_true, Bool.not_false, fnEnd, *])

theorem mul1 (a b : Int) (ha : a = 1 ∨ a = -1) (hb : b = 1 ∨ b = -1) : mulT (.int a) (.int b) = some (.sh (.int (a * b))) := by
  have h : a.natAbs.log2 + b.natAbs.log2 < 134000000 := by
    rcases ha with e | e <;> rcases hb with f | f <;> subst e <;> subst f <;> decide +kernel
  exact if_pos h
theorem sg_pm (p : List Nat) : sg p = 1 ∨ sg p = -1 := by
  unfold sg
  by_cases h : ev p = true
  · exact .inl (if_pos h)
  · exact .inr (if_neg h)
section
variable {p q c d e f : List Nat} {R R' : List (List Nat)} {z w v : Int} {n a : Nat}
theorem sg_mul (P : p.Perm (List.range n)) (Q : q.Perm (List.range n)) (h1 : 1 ≤ n) (h6 : n ≤ 6) : sg (behL p q) = sg p * sg q := by
  unfold sg
  rw [ev_mul P Q h1 h6]
  cases ev p <;> cases ev q <;> rfl
theorem u0 {nb nb1 nb2 : Nib} (e1 : f_law_row [.nib, .int (n : Int)] nb = .ok (.ow (.lst (tn p))) nb1) (e2 : f_law_row [.nib, .int (n : Int)] nb1 = .ok (.ow (.lst (tn q))) nb2) : (parF 2 3 (callF 2 f_law_row (consA (opE (varE 0)) (consA (opE (varE 1)) (nilA)))) (callF 2 f_law_row (consA (opE (varE 0)) (consA (opE (varE 1)) (nilA))))) ⟨[.sh .nib, .sh (.int (n : Int)), .no, .no], [], nb⟩ = .ok .nx  ⟨[.sh .nib, .sh (.int (n : Int)), .ow (.lst (tn p)), .ow (.lst (tn q))], [], nb2⟩ := by
  trivial
theorem u1 {nb : Nib} (e1 : f_behind [.lst (tn p), .lst (tn q)] nb = .ok (.sh (.tup (tn c))) nb) (e2 : f_behind [.lst (tn q), .lst (tn p)] nb = .ok (.sh (.tup (tn d))) nb) (e3 : f_sign [.tup (tn c)] nb = .ok (.sh (.int v)) nb) (e4 : f_sign [.tup (tn d)] nb = .ok (.sh (.int v)) nb) (e5 : f_sign [.lst (tn p)] nb = .ok (.sh (.int z)) nb) (e6 : f_sign [.lst (tn q)] nb = .ok (.sh (.int w)) nb) (e7 : mulT (.int z) (.int w) = some (.sh (.int v))) : (ifF (orT (tst (op2 TL.neT (opE (callF 1 f_sign (consA (opE (callF 2 f_behind (consA (opE (varE 2)) (consA (opE (varE 3)) (nilA))))) (nilA)))) (opE (op2 mulT (opE (callF 1 f_sign (consA (opE (varE 2)) (nilA)))) (opE (callF 1 f_sign (consA (opE (varE 3)) (nilA)))))))) (tst (op2 TL.neT (opE (callF 1 f_sign (consA (opE (callF 2 f_behind (consA (opE (varE 3)) (consA (opE (varE 2)) (nilA))))) (nilA)))) (opE (op2 mulT (opE (callF 1 f_sign (consA (opE (varE 2)) (nilA)))) (opE (callF 1 f_sign (consA (opE (varE 3)) (nilA))))))))) (retF (con (.bl false))) (nxF)) ⟨[.sh .nib, .sh (.int (n : Int)), .ow (.lst (tn p)), .ow (.lst (tn q))], [], nb⟩ = .ok .nx  ⟨[.sh .nib, .sh (.int (n : Int)), .sh (.lst (tn p)), .sh (.lst (tn q))], [], nb⟩ := by
  have e8 := ne_i v
  trivial
theorem u2 {nb : Nib} (e1 : f_behind [.lst (tn p), .lst (tn q)] nb = .ok (.sh (.tup (tn c))) nb) (e2 : f_behind [.lst (tn q), .lst (tn p)] nb = .ok (.sh (.tup (tn d))) nb) (e3 : f_rounds [.tup (tn c)] nb = .ok (.sh (.tup (tr R))) nb) (e4 : f_rounds [.tup (tn d)] nb = .ok (.sh (.tup (tr R'))) nb) (hR : R.length = a) (hR' : R'.length = a) : (ifF (tst (op2 TL.neT (opE (opN lenN (consA (opE (callF 1 f_rounds (consA (opE (callF 2 f_behind (consA (opE (varE 2)) (consA (opE (varE 3)) (nilA))))) (nilA)))) (nilA)))) (opE (opN lenN (consA (opE (callF 1 f_rounds (consA (opE (callF 2 f_behind (consA (opE (varE 3)) (consA (opE (varE 2)) (nilA))))) (nilA)))) (nilA)))))) (retF (con (.bl false))) (nxF)) ⟨[.sh .nib, .sh (.int (n : Int)), .sh (.lst (tn p)), .sh (.lst (tn q))], [], nb⟩ = .ok .nx  ⟨[.sh .nib, .sh (.int (n : Int)), .sh (.lst (tn p)), .sh (.lst (tn q))], [], nb⟩ := by
  have e5 := len_tr R
  have e6 := len_tr R'
  rw [hR] at e5
  rw [hR'] at e6
  have e7 := ne_i (a : Int)
  clear hR hR'
  trivial
theorem u3 {nb : Nib} (e1 : f_back [.lst (tn q)] nb = .ok (.sh (.tup (tn c))) nb) (e2 : f_behind [.tup (tn c), .lst (tn p)] nb = .ok (.sh (.tup (tn d))) nb) (e3 : f_behind [.tup (tn d), .lst (tn q)] nb = .ok (.sh (.tup (tn e))) nb) (e4 : f_rounds [.tup (tn e)] nb = .ok (.sh (.tup (tr R))) nb) (e5 : f_law_rounds [.lst (tn p)] nb = .ok (.sh (.tup (tr R'))) nb) (e6 : f_law_renamed [.tup (tr R'), .lst (tn q)] nb = .ok (.sh (.tup (tr R))) nb) : (retF (op2 TL.eqT (opE (callF 1 f_rounds (consA (opE (callF 2 f_behind (consA (opE (callF 2 f_behind (consA (opE (callF 1 f_back (consA (opE (varE 3)) (nilA)))) (consA (opE (varE 2)) (nilA))))) (consA (opE (varE 3)) (nilA))))) (nilA)))) (opE (callF 2 f_law_renamed (consA (opE (callF 1 f_law_rounds (consA (opE (varE 2)) (nilA)))) (consA (opE (varE 3)) (nilA))))))) ⟨[.sh .nib, .sh (.int (n : Int)), .sh (.lst (tn p)), .sh (.lst (tn q))], [], nb⟩ = .ok (.rt (.sh (.bl true))) ⟨[.sh .nib, .sh (.int (n : Int)), .sh (.lst (tn p)), .sh (.lst (tn q))], [], nb⟩ := by
  have e7 : TL.eqT (.tup (tr R)) (.tup (tr R)) = some (.sh (.bl true)) := by rw [eq_tr, decide_eq_true rfl]
  trivial
theorem r_two {k : Nat} {nb : Nib} (hk0 : NbOk k nb) (hk : k ≤ 50000) (h1 : 1 ≤ n) (h6 : n ≤ 6) : ∃ nb', NbOk (k + 14) nb' ∧ f_law_two_right [.nib, .int (n : Int)] nb = .ok (.sh (.bl true)) nb' := by
  obtain ⟨p, nb1, P, k1, e1⟩ := r_row (w := n) hk0 (by omega) h6
  obtain ⟨q, nb2, Q, k2, e2⟩ := r_row (w := n) k1 (by omega) h6
  refine ⟨nb2, k2.mono (by omega), ?_⟩
  have K := rok P h1 h6
  have hl := perm_len P
  have PQ := beh_perm P Q
  have QP := beh_perm Q P
  have hc : ∀ c ∈ lawR p, c ≠ [] ∧ c.length ≤ 6 := fun c hm => ⟨(K.cs c hm).1, by have := nodup_len (K.cs c hm).2.1 (K.cs c hm).2.2; omega⟩
  have b0 := u0 e1 e2
  have b1 := u1 (n := n) (v := sg p * sg q) (r_behind false false P Q h1 h6 nb2) (r_behind false false Q P h1 h6 nb2) ((r_sign true PQ h1 h6 nb2).trans (by rw [sg_mul P Q h1 h6])) ((r_sign true QP h1 h6 nb2).trans (by rw [sg_mul Q P h1 h6, Int.mul_comm])) (r_sign false P h1 h6 nb2) (r_sign false Q h1 h6 nb2) (mul1 _ _ (sg_pm p) (sg_pm q))
  have b2 := u2 (n := n) (r_behind false false P Q h1 h6 nb2) (r_behind false false Q P h1 h6 nb2) (r_rounds true PQ h1 h6 nb2) (r_rounds true QP h1 h6 nb2) rfl (len_conj P Q h1 h6)
  have QI := inv_perm Q
  have b3 := u3 (n := n) (R' := lawR p) (r_back false Q h1 h6 nb2) (r_behind true false QI P h1 h6 nb2) (r_behind true false (beh_perm QI P) Q h1 h6 nb2) (r_rounds true (beh_perm (beh_perm QI P) Q) h1 h6 nb2) (r_law_rounds (hp_of P) (by omega) K.cy) ((r_renamed (cyc_of P h1 h6) (by have := K.le; omega) (fun c hm => by have := (hc c hm).2; omega) Q nb2).trans (by rw [← ren_conj P Q h1 h6]; rfl))
  have s2 : f_law_two_right [.nib, .int (n : Int)] nb = fnEnd (b_law_two_right ⟨[.sh .nib, .sh (.int (n : Int)), .no, .no], [], nb⟩) := rfl
  have kk := seq_nx b0 (seq_nx b1 (seq_nx b2 b3))
  rw [s2, show b_law_two_right ⟨[.sh .nib, .sh (.int (n : Int)), .no, .no], [], nb⟩ = _ from kk]
  rfl
end
end K05

end
section
set_option Elab.async false
set_option linter.all false
set_option maxRecDepth 100000
set_option autoImplicit false
set_option maxHeartbeats 400000
open PySem PySem.Spec PyProof.Rows L2
open TL hiding eqT neT
namespace K05
local macro_rules | `(tactic| trivial) => `(tactic| simp -implicitDefEqProofs only [w_callBF, kCallB_ap, gCallB_ap, gFRB_ok, lf_int, lf_tn, lf_tr, lf_bl, w_setDF, kSetD_ap, gSetD0_ap, kSetD2_ap, gSetD_ap, w_okB, w_excB, w_dicF, w_starA, kStar_l, kStar_t, kStar2_ap, vals_star, w_callKF, kCallK_ap, kCallK2_ap, gCallK_ap, prm_nil, w_tryF, kTry_ok, kTry_exc, gTry_t, gTry_f, kTry2_ap, w_raiseF, kRaise_ap, gRaise_ap, w_par3F, kPar3a_ap, kPar3b_ap, kPar3c_ap, gPar_exc, gPar_exc1, w_slF, kSl1_ap, kSl2_ap, kSl3_ap, w_someB, kSome_ap, w_noB, w_rngI2, kRng2_ap, List.nil_append, List.cons_append,  w_con, w_opE, kOpE_sh, kOpE_ow, w_nilA, w_consA, kCons_ap, kCons2_ap, w_op2, kOp2_ap, kOp2'_ap, gOp2_ap, w_op1, kOp1_ap, gOp1_ap, w_opN, kOpN_ap, gOpN_ap, w_res, w_tst, kTst_ap, w_chn, kChn_ap, kChn2_ap, gChn_ap, hChn_t, hChn_f, kChn3_ap, w_andT, kAndT_t, kAndT_f, w_orT, kOrT_t, kOrT_f, w_notT, kNotT_ap, w_andE, kAndE_t, kAndE_f, w_orE, kOrE_t, kOrE_f, w_notE, kNotE_ap, w_ite3, kIte3_t, kIte3_f, w_lstF, kLst_ap, w_tupF, kTup_ap, gLst_ap, gTup_ap, w_seq, kSeq_nx, kSeq_rt, kSeq_bk, kSeq_ct, w_nxF, w_bkF, w_ctF, w_retF, kRet_ap, w_retNF, w_dropF, kDrop_ap, w_ifF, kIfF_t, kIfF_f, w_setF, kSet_ap, w_asgF, kAsg_ap, gAsg_ap, w_forF, kFor_ap, w_forL, w_forL0, gForL_ap, kForL_nx, kForL_ct, kForL_bk, kForL_rt, w_callF, kCall_ap, gCall_ap, gFR_ok, gFR_exc, w_seqI, kSeqI_l, kSeqI_t, w_enumI, kEnumI_l, kEnumI_t, w_zipI, kZip_ap, kZip2_l, kZip2_t, w_rngI1, kRng_n, w_yesT, w_var, w_varE, w_varR, gVar_sh, gVar_ow, gVarE_sh, gVarE_ow, gVarR_sh, gVarR_ow, get_pl, get_val, tree_sh, tree_ow, slot_tree_sh, slot_tree_ow, w_methF, gMeth0_ap, kMeth_ap, gMeth_ap, hMeth_ap, w_setIF, kSetI_ap, gSetI0_ap, kSetI2_ap, gSetI_ap, hSetI_ap, w_parF, kPar_ap, gPar_ap, gPar_one, nil_app, put_nm, put_tp, put_tpw, put_tpl, putAll_nil, putAll_cons, vals_nil, vals_cons, gets_nil, gets_cons, Option.map_some, Option.bind_some, List.getElem?_cons_succ, List.getElem?_cons_zero, List.set_cons_succ, List.set_cons_zero, List.length_cons, List.length_nil, Nat.zero_add, Nat.reduceAdd, Nat.reduceLT, Nat.reduceLeDiff, Nat.le_refl, and_self, ↓reduceIte, Bool.not_true, Bool.not_false, fnEnd, *])

def shC (n : Nat) (R : List (List Nat)) : List (List Nat) := R.map fun c => c.map fun x => n + x
def chkB (p q : List Nat) : Bool := fL p fun p => fL q fun q => fL (beW p q) fun r => fLL (prR p) fun R => fLL (prR q) fun S => fLL (prR r) fun U => decide (U = R ++ shC p.length S)
theorem finB11 : ((allL 1).all fun p => (allL 1).all fun q => chkB p q) = true := by decide +kernel
theorem finB12 : ((allL 1).all fun p => (allL 2).all fun q => chkB p q) = true := by decide +kernel
theorem finB21 : ((allL 2).all fun p => (allL 1).all fun q => chkB p q) = true := by decide +kernel
theorem finB13 : ((allL 1).all fun p => (allL 3).all fun q => chkB p q) = true := by decide +kernel
theorem finB22 : ((allL 2).all fun p => (allL 2).all fun q => chkB p q) = true := by decide +kernel
theorem finB31 : ((allL 3).all fun p => (allL 1).all fun q => chkB p q) = true := by decide +kernel
theorem finB14 : ((allL 1).all fun p => (allL 4).all fun q => chkB p q) = true := by decide +kernel
theorem finB23 : ((allL 2).all fun p => (allL 3).all fun q => chkB p q) = true := by decide +kernel
theorem finB32 : ((allL 3).all fun p => (allL 2).all fun q => chkB p q) = true := by decide +kernel
theorem finB41 : ((allL 4).all fun p => (allL 1).all fun q => chkB p q) = true := by decide +kernel
theorem finB15 : ((allL 1).all fun p => (allL 5).all fun q => chkB p q) = true := by decide +kernel
theorem finB24 : ((allL 2).all fun p => (allL 4).all fun q => chkB p q) = true := by decide +kernel
theorem finB33 : ((allL 3).all fun p => (allL 3).all fun q => chkB p q) = true := by decide +kernel
theorem finB42 : ((allL 4).all fun p => (allL 2).all fun q => chkB p q) = true := by decide +kernel
theorem finB51 : ((allL 5).all fun p => (allL 1).all fun q => chkB p q) = true := by decide +kernel
theorem bes (n m : Nat) (h1 : 1 ≤ n) (h2 : 1 ≤ m) (h6 : n + m ≤ 6) {p q : List Nat} (P : p.Perm (List.range n)) (Q : q.Perm (List.range m)) : chkB p q = true := by
  have a := mem_all.mpr P
  have b := mem_all.mpr Q
  have fin : ((allL n).all fun p => (allL m).all fun q => chkB p q) = true := by
    have hn : n = 1 ∨ n = 2 ∨ n = 3 ∨ n = 4 ∨ n = 5 := by omega
    rcases hn with e | e | e | e | e
    · have f : m = 1 ∨ m = 2 ∨ m = 3 ∨ m = 4 ∨ m = 5 := by omega
      subst e
      rcases f with f | f | f | f | f
      · subst f
        exact finB11
      · subst f
        exact finB12
      · subst f
        exact finB13
      · subst f
        exact finB14
      · subst f
        exact finB15
    · have f : m = 1 ∨ m = 2 ∨ m = 3 ∨ m = 4 := by omega
      subst e
      rcases f with f | f | f | f
      · subst f
        exact finB21
      · subst f
        exact finB22
      · subst f
        exact finB23
      · subst f
        exact finB24
    · have f : m = 1 ∨ m = 2 ∨ m = 3 := by omega
      subst e
      rcases f with f | f | f
      · subst f
        exact finB31
      · subst f
        exact finB32
      · subst f
        exact finB33
    · have f : m = 1 ∨ m = 2 := by omega
      subst e
      rcases f with f | f
      · subst f
        exact finB41
      · subst f
        exact finB42
    · have f : m = 1 := by omega
      subst e
      subst f
      exact finB51
  exact List.all_eq_true.mp (List.all_eq_true.mp fin p a) q b
section
variable {p q c : List Nat} {n m : Nat} {R R' S' U : List (List Nat)} {z w v : Int}
theorem bes_perm (P : p.Perm (List.range n)) (Q : q.Perm (List.range m)) : (beW p q).Perm (List.range (n + m)) := by
  unfold beW
  rw [perm_len P, List.range_add]
  exact P.append (Q.map _)
theorem bes_R (P : p.Perm (List.range n)) (Q : q.Perm (List.range m)) (h1 : 1 ≤ n) (h2 : 1 ≤ m) (h6 : n + m ≤ 6) : lawR (beW p q) = lawR p ++ shC n (lawR q) := by
  have h := bes n m h1 h2 h6 P Q
  unfold chkB at h
  rw [fL_eq, fL_eq, fL_eq, fLL_eq, fLL_eq, fLL_eq, (rok P h1 (by omega)).pr, (rok Q h2 (by omega)).pr, (rok (bes_perm P Q) (by omega) h6).pr, perm_len P] at h
  exact of_decide_eq_true h
theorem bes_sg (P : p.Perm (List.range n)) (Q : q.Perm (List.range m)) (h1 : 1 ≤ n) (h2 : 1 ≤ m) (h6 : n + m ≤ 6) : sg (beW p q) = sg p * sg q := by
  have a := (rok P h1 (by omega)).le
  have b := (rok Q h2 (by omega)).le
  rw [perm_len P] at a
  rw [perm_len Q] at b
  have e : ev (beW p q) = (ev p == ev q) := by
    rw [ev_def, ev_def, ev_def, bes_R P Q h1 h2 h6, perm_len P, perm_len Q, perm_len (bes_perm P Q), List.length_append]
    unfold shC
    rw [List.length_map, Bool.eq_iff_iff, beq_iff_eq]
    generalize (lawR p).length = x at a ⊢
    generalize (lawR q).length = y at b ⊢
    by_cases c1 : (n - x) % 2 = 0 <;> by_cases c2 : (m - y) % 2 = 0
    · rw [decide_eq_true c1, decide_eq_true c2, decide_eq_true_eq]; constructor
      · intro _; rfl
      · intro _; omega
    · rw [decide_eq_true c1, decide_eq_false c2, decide_eq_true_eq]; constructor
      · intro _; omega
      · intro h; exact absurd h (by decide)
    · rw [decide_eq_false c1, decide_eq_true c2, decide_eq_true_eq]; constructor
      · intro _; omega
      · intro h; exact absurd h (by decide)
    · rw [decide_eq_false c1, decide_eq_false c2, decide_eq_true_eq]; constructor
      · intro _; rfl
      · intro _; omega
  unfold sg
  rw [e]
  cases ev p <;> cases ev q <;> rfl
theorem v_C1 {e : List Nat} (hl : e.length ≤ 1000) (gh : List Slot) (nb : Nib) : b_law_beside_right_C1 ⟨[.sh .nib, .sh (.int (n : Int)), .sh (.lst (tn p)), .sh (.lst (tn q)), .sh (.tup (tn c)), .no, .sh (.tup (tn e)), .no], gh, nb⟩ = .ok (.ow (.lst (tn (e.map fun x => n + x)))) ⟨[.sh .nib, .sh (.int (n : Int)), .sh (.lst (tn p)), .sh (.lst (tn q)), .sh (.tup (tn c)), .no, .sh (.tup (tn e)), .no], gh, nb⟩ := by
  refine (compF_map (S1 := ⟨[.sh .nib, .sh (.int (n : Int)), .sh (.lst (tn p)), .sh (.lst (tn q)), .sh (.tup (tn c)), .no, .sh (.tup (tn e)), .no], gh, nb⟩) e (fun (a : Nat) => T.int (a : Int)) (fun a => some (T.int ((n + a : Nat) : Int))) (by clear hl; trivial; rfl) rfl rfl (len_sz (by omega)) (fun x hm acc => ?_)).trans (by
    congr 3
    unfold tn
    rw [List.map_map, ← List.filterMap_eq_map]
    rfl)
  have e1 := addN n x
  clear hm hl
  exact compStep_map (S1 := ⟨[.sh .nib, .sh (.int (n : Int)), .sh (.lst (tn p)), .sh (.lst (tn q)), .sh (.tup (tn c)), .no, .sh (.tup (tn e)), .sh (.int (x : Int))], gh ++ [.ow (.lst acc)], nb⟩) rfl (by trivial; rfl) rfl rfl
theorem fm_shC (n : Nat) : ∀ S : List (List Nat), (S.filterMap fun e => some (T.tup (tn (e.map fun x => n + x)))) = tr (shC n S)
  | [] => rfl
  | e :: S => congrArg (T.tup (tn (e.map fun x => n + x)) :: ·) (fm_shC n S)
theorem v_C2 (hl : S'.length ≤ 1000) (hc : ∀ e ∈ S', e.length ≤ 1000) (nb : Nib) (e0 : f_law_rounds [.lst (tn q)] nb = .ok (.sh (.tup (tr S'))) nb) : b_law_beside_right_C2 ⟨[.sh .nib, .sh (.int (n : Int)), .sh (.lst (tn p)), .sh (.lst (tn q)), .sh (.tup (tn c)), .no, .no, .no], [], nb⟩ = .ok (.ow (.lst (tr (shC n S')))) ⟨[.sh .nib, .sh (.int (n : Int)), .sh (.lst (tn p)), .sh (.lst (tn q)), .sh (.tup (tn c)), .no, .no, .no], [], nb⟩ := by
  refine (compF_map (S1 := ⟨[.sh .nib, .sh (.int (n : Int)), .sh (.lst (tn p)), .sh (.lst (tn q)), .sh (.tup (tn c)), .no, .no, .no], [], nb⟩) S' (fun (c : List Nat) => T.tup (tn c)) (fun e => some (T.tup (tn (e.map fun x => n + x)))) (by clear hl hc; trivial; rfl) rfl rfl (len_sz (by omega)) (fun e hm acc => ?_)).trans (by
    rw [fm_shC])
  have e1 := v_C1 (p := p) (q := q) (c := c) (n := n) (hc e hm) [.ow (.lst acc)] nb
  obtain ⟨g, hg⟩ : ∃ g, g = e.map fun x => n + x := ⟨_, rfl⟩
  rw [← hg] at e1 ⊢
  have e2 := tuple_l (tn g)
  clear hm hl hc e0 hg
  exact compStep_map (S1 := ⟨[.sh .nib, .sh (.int (n : Int)), .sh (.lst (tn p)), .sh (.lst (tn q)), .sh (.tup (tn c)), .no, .sh (.tup (tn e)), .no], [] ++ [.ow (.lst acc)], nb⟩) rfl (by trivial; rfl) rfl rfl
theorem v0 {nb nb1 : Nib} {a : Nat} (e1 : f_law_sip [.nib, .int 5] nb = .ok (.sh (.int (a : Int))) nb1) (hn : n = 1 + a) : (setF 1 (op2 addT (opE (con (.int 1))) (opE (callF 2 f_law_sip (consA (opE (varE 0)) (consA (opE (con (.int 5))) (nilA))))))) ⟨[.sh .nib, .no, .no, .no, .no, .no, .no, .no], [], nb⟩ = .ok .nx  ⟨[.sh .nib, .sh (.int (n : Int)), .no, .no, .no, .no, .no, .no], [], nb1⟩ := by
  have e2 : addT (.int 1) (.int (a : Int)) = some (.sh (.int (n : Int))) := by rw [hn]; exact addN 1 a
  clear hn
  trivial
theorem v1 {nb nb1 nb2 nb3 : Nib} {a b : Nat} (hn : n + b = 6) (e1 : f_law_row [.nib, .int (n : Int)] nb = .ok (.ow (.lst (tn p))) nb1) (e2 : f_law_sip [.nib, .int (b : Int)] nb1 = .ok (.sh (.int (a : Int))) nb2) (hm : m = 1 + a) (e3 : f_law_row [.nib, .int (m : Int)] nb2 = .ok (.ow (.lst (tn q))) nb3) : (parF 2 3 (callF 2 f_law_row (consA (opE (varE 0)) (consA (opE (varE 1)) (nilA)))) (callF 2 f_law_row (consA (opE (varE 0)) (consA (opE (op2 addT (opE (con (.int 1))) (opE (callF 2 f_law_sip (consA (opE (varE 0)) (consA (opE (op2 subT (opE (con (.int 6))) (var 1))) (nilA))))))) (nilA))))) ⟨[.sh .nib, .sh (.int (n : Int)), .no, .no, .no, .no, .no, .no], [], nb⟩ = .ok .nx  ⟨[.sh .nib, .sh (.int (n : Int)), .ow (.lst (tn p)), .ow (.lst (tn q)), .no, .no, .no, .no], [], nb3⟩ := by
  have e4 : addT (.int 1) (.int (a : Int)) = some (.sh (.int (m : Int))) := by rw [hm]; exact addN 1 a
  have e5 : subT (.int 6) (.int (n : Int)) = some (.sh (.int (b : Int))) := by
    have := sub_nat (a := 6) (b := n) (by omega)
    rw [show 6 - n = b by omega] at this
    exact this
  clear hn hm
  trivial
theorem v2 {nb : Nib} (e1 : f_beside [.lst (tn p), .lst (tn q)] nb = .ok (.sh (.tup (tn c))) nb) : (setF 4 (callF 2 f_beside (consA (opE (varE 2)) (consA (opE (varE 3)) (nilA))))) ⟨[.sh .nib, .sh (.int (n : Int)), .ow (.lst (tn p)), .ow (.lst (tn q)), .no, .no, .no, .no], [], nb⟩ = .ok .nx  ⟨[.sh .nib, .sh (.int (n : Int)), .sh (.lst (tn p)), .sh (.lst (tn q)), .sh (.tup (tn c)), .no, .no, .no], [], nb⟩ := by
  trivial
theorem v3 {nb : Nib} (e1 : f_law_rounds [.lst (tn p)] nb = .ok (.sh (.tup (tr R'))) nb) (e2 : b_law_beside_right_C2 ⟨[.sh .nib, .sh (.int (n : Int)), .sh (.lst (tn p)), .sh (.lst (tn q)), .sh (.tup (tn c)), .no, .no, .no], [], nb⟩ = .ok (.ow (.lst (tr U))) ⟨[.sh .nib, .sh (.int (n : Int)), .sh (.lst (tn p)), .sh (.lst (tn q)), .sh (.tup (tn c)), .no, .no, .no], [], nb⟩) (e3 : addT (.tup (tr R')) (.tup (tr U)) = some (.sh (.tup (tr R)))) : (setF 5 (op2 addT (opE (callF 1 f_law_rounds (consA (opE (varE 2)) (nilA)))) (opE (opN tupleN (consA (opE (b_law_beside_right_C2)) (nilA)))))) ⟨[.sh .nib, .sh (.int (n : Int)), .sh (.lst (tn p)), .sh (.lst (tn q)), .sh (.tup (tn c)), .no, .no, .no], [], nb⟩ = .ok .nx  ⟨[.sh .nib, .sh (.int (n : Int)), .sh (.lst (tn p)), .sh (.lst (tn q)), .sh (.tup (tn c)), .sh (.tup (tr R)), .no, .no], [], nb⟩ := by
  have e4 := tuple_l (tr U)
  trivial
theorem v4 {nb : Nib} (e1 : f_sign [.tup (tn c)] nb = .ok (.sh (.int v)) nb) (e2 : f_sign [.lst (tn p)] nb = .ok (.sh (.int z)) nb) (e3 : f_sign [.lst (tn q)] nb = .ok (.sh (.int w)) nb) (e4 : mulT (.int z) (.int w) = some (.sh (.int v))) (e5 : f_rounds [.tup (tn c)] nb = .ok (.sh (.tup (tr R))) nb) : (retF (andE (op2 TL.eqT (opE (callF 1 f_sign (consA (opE (varE 4)) (nilA)))) (opE (op2 mulT (opE (callF 1 f_sign (consA (opE (varE 2)) (nilA)))) (opE (callF 1 f_sign (consA (opE (varE 3)) (nilA))))))) (op2 TL.eqT (opE (callF 1 f_rounds (consA (opE (varE 4)) (nilA)))) (var 5)))) ⟨[.sh .nib, .sh (.int (n : Int)), .sh (.lst (tn p)), .sh (.lst (tn q)), .sh (.tup (tn c)), .sh (.tup (tr R)), .no, .no], [], nb⟩ = .ok (.rt (.sh (.bl true))) ⟨[.sh .nib, .sh (.int (n : Int)), .sh (.lst (tn p)), .sh (.lst (tn q)), .sh (.tup (tn c)), .sh (.tup (tr R)), .no, .no], [], nb⟩ := by
  have e6 : TL.eqT (.int v) (.int v) = some (.sh (.bl true)) := by rw [TL.eq_int, decide_eq_true rfl]
  have e7 : TL.eqT (.tup (tr R)) (.tup (tr R)) = some (.sh (.bl true)) := by rw [eq_tr, decide_eq_true rfl]
  trivial
theorem catR (A B : List (List Nat)) (h : A.length + B.length ≤ 1000) : addT (.tup (tr A)) (.tup (tr B)) = some (.sh (.tup (tr (A ++ B)))) := by
  show (if (tr A).length + (tr B).length ≤ sz then some (Slot.sh (T.tup (tr A ++ tr B))) else none) = _
  rw [if_pos (by rw [tr_length, tr_length]; exact len_sz (by omega))]
  unfold tr
  rw [List.map_append]
theorem r_bes {k : Nat} {nb : Nib} (hk0 : NbOk k nb) (hk : k ≤ 50000) : ∃ nb', NbOk (k + 16) nb' ∧ f_law_beside_right [.nib] nb = .ok (.sh (.bl true)) nb' := by
  obtain ⟨a, nb1, ha, k1, e1⟩ := r_tip hk0 (by omega) (m := 5) (by omega) (by omega)
  obtain ⟨n, hn⟩ : ∃ n, n = 1 + a := ⟨_, rfl⟩
  obtain ⟨p, nb2, P, k2, e2⟩ := r_row (w := n) k1 (by omega) (by omega)
  obtain ⟨b, hb⟩ : ∃ b, n + b = 6 := ⟨6 - n, by omega⟩
  obtain ⟨d, nb3, hd, k3, e3⟩ := r_tip k2 (by omega) (m := b) (by omega) (by omega)
  obtain ⟨m, hm⟩ : ∃ m, m = 1 + d := ⟨_, rfl⟩
  obtain ⟨q, nb4, Q, k4, e4⟩ := r_row (w := m) k3 (by omega) (by omega)
  refine ⟨nb4, k4.mono (by omega), ?_⟩
  have h1 : 1 ≤ n := by omega
  have h2 : 1 ≤ m := by omega
  have h6 : n + m ≤ 6 := by omega
  have K := rok P h1 (by omega)
  have L := rok Q h2 (by omega)
  have hl := perm_len P
  have ql := perm_len Q
  have hc : ∀ c ∈ lawR q, c.length ≤ 6 := fun c hm => by have := nodup_len (L.cs c hm).2.1 (L.cs c hm).2.2; omega
  have W := bes_perm P Q
  have b0 := v0 e1 hn
  have b1 := v1 hb e2 e3 hm e4
  have b2 := v2 (n := n) (r_beside false false P Q h1 h2 h6 nb4)
  have b3 := v3 (n := n) (c := beW p q) (r_law_rounds (hp_of P) (by omega) K.cy) (v_C2 (p := p) (c := beW p q) (n := n) (S' := lawR q) (by have := L.le; omega) (fun c hm => by have := hc c hm; omega) nb4 (r_law_rounds (hp_of Q) (by omega) L.cy)) ((catR _ _ (by have := K.le; have := L.le; unfold shC; rw [List.length_map]; omega)).trans (by rw [← bes_R P Q h1 h2 h6]))
  have b4 := v4 (n := n) (v := sg p * sg q) ((r_sign true W (by omega) h6 nb4).trans (by rw [bes_sg P Q h1 h2 h6])) (r_sign false P h1 (by omega) nb4) (r_sign false Q h2 (by omega) nb4) (mul1 _ _ (sg_pm p) (sg_pm q)) (r_rounds true W (by omega) h6 nb4)
  have s2 : f_law_beside_right [.nib] nb = fnEnd (b_law_beside_right ⟨[.sh .nib, .no, .no, .no, .no, .no, .no, .no], [], nb⟩) := rfl
  have kk := seq_nx b0 (seq_nx b1 (seq_nx b2 (seq_nx b3 b4)))
  rw [s2, show b_law_beside_right ⟨[.sh .nib, .no, .no, .no, .no, .no, .no, .no], [], nb⟩ = _ from kk]
  rfl
end
end K05

end
section
set_option Elab.async false
set_option linter.all false
set_option maxRecDepth 100000
set_option autoImplicit false
set_option maxHeartbeats 400000
open PySem PySem.Spec PyProof.Rows L2
open TL hiding eqT neT
namespace K05
local macro_rules | `(tactic| trivial) => `(tactic| simp -implicitDefEqProofs only [w_callBF, kCallB_ap, gCallB_ap, gFRB_ok, lf_int, lf_tn, lf_tr, lf_bl, w_setDF, kSetD_ap, gSetD0_ap, kSetD2_ap, gSetD_ap, w_okB, w_excB, w_dicF, w_starA, kStar_l, kStar_t, kStar2_ap, vals_star, w_callKF, kCallK_ap, kCallK2_ap, gCallK_ap, prm_nil, w_tryF, kTry_ok, kTry_exc, gTry_t, gTry_f, kTry2_ap, w_raiseF, kRaise_ap, gRaise_ap, w_par3F, kPar3a_ap, kPar3b_ap, kPar3c_ap, gPar_exc, gPar_exc1, w_slF, kSl1_ap, kSl2_ap, kSl3_ap, w_someB, kSome_ap, w_noB, w_rngI2, kRng2_ap, List.nil_append, List.cons_append,  w_con, w_opE, kOpE_sh, kOpE_ow, w_nilA, w_consA, kCons_ap, kCons2_ap, w_op2, kOp2_ap, kOp2'_ap, gOp2_ap, w_op1, kOp1_ap, gOp1_ap, w_opN, kOpN_ap, gOpN_ap, w_res, w_tst, kTst_ap, w_chn, kChn_ap, kChn2_ap, gChn_ap, hChn_t, hChn_f, kChn3_ap, w_andT, kAndT_t, kAndT_f, w_orT, kOrT_t, kOrT_f, w_notT, kNotT_ap, w_andE, kAndE_t, kAndE_f, w_orE, kOrE_t, kOrE_f, w_notE, kNotE_ap, w_ite3, kIte3_t, kIte3_f, w_lstF, kLst_ap, w_tupF, kTup_ap, gLst_ap, gTup_ap, w_seq, kSeq_nx, kSeq_rt, kSeq_bk, kSeq_ct, w_nxF, w_bkF, w_ctF, w_retF, kRet_ap, w_retNF, w_dropF, kDrop_ap, w_ifF, kIfF_t, kIfF_f, w_setF, kSet_ap, w_asgF, kAsg_ap, gAsg_ap, w_forF, kFor_ap, w_forL, w_forL0, gForL_ap, kForL_nx, kForL_ct, kForL_bk, kForL_rt, w_callF, kCall_ap, gCall_ap, gFR_ok, gFR_exc, w_seqI, kSeqI_l, kSeqI_t, w_enumI, kEnumI_l, kEnumI_t, w_zipI, kZip_ap, kZip2_l, kZip2_t, w_rngI1, kRng_n, w_yesT, w_var, w_varE, w_varR, gVar_sh, gVar_ow, gVarE_sh, gVarE_ow, gVarR_sh, gVarR_ow, get_pl, get_val, tree_sh, tree_ow, slot_tree_sh, slot_tree_ow, w_methF, gMeth0_ap, kMeth_ap, gMeth_ap, hMeth_ap, w_setIF, kSetI_ap, gSetI0_ap, kSetI2_ap, gSetI_ap, hSetI_ap, w_parF, kPar_ap, gPar_ap, gPar_one, nil_app, put_nm, put_tp, put_tpw, put_tpl, putAll_nil, putAll_cons, vals_nil, vals_cons, gets_nil, gets_cons, Option.map_some, Option.bind_some, List.getElem?_cons_succ, List.getElem?_cons_zero, List.set_cons_succ, List.set_cons_zero, List.length_cons, List.length_nil, Nat.zero_add, Nat.reduceAdd, Nat.reduceLT, Nat.reduceLeDiff, Nat.le_refl, and_self, ↓reduceIte, Bool.not_true, Bool.not_false, fnEnd, *])

def oddL : List T := [T.non, .int 5, .bl true, .str "10", .dic [], .lst [], .tup [], .lst [.int 1], .lst [.int 0, .int 0], .lst [.int 1, .int 2], .lst [.int 0, .int (-1)], .lst [.bl true, .bl false], .lst [.str "0"], .lst [.lst [.int 0]], .lst (tn (List.range 7)), .lst [.int 0, .non, .int 1]]
abbrev exW : Ex := ⟨1, [("part", .str "row")]⟩
theorem odd_cases {P : T → Prop} (h : ∀ i < 16, P (oddL.getD i .non)) : ∀ t ∈ oddL, P t := fun t ht => by
  obtain ⟨i, hi⟩ := List.mem_iff_getElem?.mp ht
  have h2 : i < 16 := (List.getElem?_eq_some_iff.mp hi).1
  have := h i h2
  rw [List.getD_eq_getElem?_getD, hi] at this
  exact this
theorem x_need (nb : Nib) : ∀ t ∈ oddL, f_need_wiring [t, .str "row"] nb = .exc exW nb := odd_cases fun i hi => by
  match i, hi with
  | 0, _ => kernel_rfl
  | 1, _ => kernel_rfl
  | 2, _ => kernel_rfl
  | 3, _ => kernel_rfl
  | 4, _ => kernel_rfl
  | 5, _ => kernel_rfl
  | 6, _ => kernel_rfl
  | 7, _ => kernel_rfl
  | 8, _ => kernel_rfl
  | 9, _ => kernel_rfl
  | 10, _ => kernel_rfl
  | 11, _ => kernel_rfl
  | 12, _ => kernel_rfl
  | 13, _ => kernel_rfl
  | 14, _ => kernel_rfl
  | 15, _ => kernel_rfl
  | n + 16, h => exact absurd h (by omega)
section
variable {t : T} {nb : Nib}
theorem x_rounds (h : t ∈ oddL) : f_rounds [t] nb = .exc exW nb := by
  have e := x_need nb t h
  have s2 : f_rounds [t] nb = fnEnd (b_rounds ⟨[.sh t], [], nb⟩) := rfl
  rw [s2]
  unfold b_rounds
  clear h s2
  trivial
theorem x_sign (h : t ∈ oddL) : f_sign [t] nb = .exc exW nb := by
  have e := x_need nb t h
  have s2 : f_sign [t] nb = fnEnd (b_sign ⟨[.sh t], [], nb⟩) := rfl
  rw [s2]
  unfold b_sign
  clear h s2
  trivial
theorem askF_exc {ask : Nib → FR} {e : Ex} {l gh : List Slot} {nb n : Nib} (h : ask nb = .exc e n) : askF 0 ask ⟨.fu :: l, gh, nb⟩ = .exc e ⟨.fu :: l, gh, n⟩ := by
  show (match ask nb with
    | .ok x n => R.ok x { (⟨.fu :: l, gh, nb⟩ : Sta) with nb := n }
    | .exc e n => .exc e { (⟨.fu :: l, gh, nb⟩ : Sta) with nb := n }
    | .stuck => .stuck) = _
  rw [h]
theorem hear1 {ask : Nib → FR} (h : ask nb = .exc exW nb) : hFn 3 b_law_heard ask nb = .ok (.sh (.str "row")) nb := by
  have e1 := askF_exc (l := [.sh .non, .no]) (gh := []) h
  have c1 : ctch_SizeError 1 = some true := rfl
  have c3 : isX own_BadWiring btN (.exo 1 [("part", .str "row")]) = some (.sh (.bl true)) := by kernel_rfl
  have c4 : attrT okc_part "part" (.exo 1 [("part", .str "row")]) = some (.sh (.str "row")) := by kernel_rfl
  have s2 : hFn 3 b_law_heard ask nb = fnEnd (b_law_heard ask ⟨[.fu, .no, .no], [], nb⟩) := rfl
  rw [s2]
  unfold b_law_heard
  clear h s2
  trivial
theorem y2 (h : t ∈ oddL) (a b : Int) : lamF [5] b_law_X2 (hFn 3 b_law_heard) ⟨[.no, .sh .nib, .sh (.int a), .sh (.int b), .no, .sh t], [], nb⟩ = .ok (.sh (.str "row")) ⟨[.no, .sh .nib, .sh (.int a), .sh (.int b), .no, .sh t], [], nb⟩ := by
  refine lamF_run (S1 := ⟨[.no, .sh .nib, .sh (.int a), .sh (.int b), .no, .sh t], [], nb⟩) rfl (hear1 ?_)
  have e := x_rounds (nb := nb) h
  show askEnd (b_law_X2 ⟨[.no, .sh .nib, .sh (.int a), .sh (.int b), .no, .sh t], [], nb⟩) = _
  have e2 : b_law_X2 ⟨[.no, .sh .nib, .sh (.int a), .sh (.int b), .no, .sh t], [], nb⟩ = .exc exW ⟨[.no, .sh .nib, .sh (.int a), .sh (.int b), .no, .sh t], [], nb⟩ := by
    unfold b_law_X2
    clear h
    trivial
  rw [e2]; rfl
theorem y3 (h : t ∈ oddL) (a b : Int) : lamF [5] b_law_X3 (hFn 3 b_law_heard) ⟨[.no, .sh .nib, .sh (.int a), .sh (.int b), .ow (.lst [.str "row"]), .sh t], [], nb⟩ = .ok (.sh (.str "row")) ⟨[.no, .sh .nib, .sh (.int a), .sh (.int b), .ow (.lst [.str "row"]), .sh t], [], nb⟩ := by
  refine lamF_run (S1 := ⟨[.no, .sh .nib, .sh (.int a), .sh (.int b), .ow (.lst [.str "row"]), .sh t], [], nb⟩) rfl (hear1 ?_)
  have e := x_sign (nb := nb) h
  show askEnd (b_law_X3 ⟨[.no, .sh .nib, .sh (.int a), .sh (.int b), .no, .sh t], [], nb⟩) = _
  have e2 : b_law_X3 ⟨[.no, .sh .nib, .sh (.int a), .sh (.int b), .no, .sh t], [], nb⟩ = .exc exW ⟨[.no, .sh .nib, .sh (.int a), .sh (.int b), .no, .sh t], [], nb⟩ := by
    unfold b_law_X3
    clear h
    trivial
  rw [e2]; rfl
end
theorem r_lap {k : Nat} {nb : Nib} (h : NbOk k nb) (hk : k ≤ 40000) (x2 x3 : Slot) : ∃ (nb' : Nib) (w : Int), NbOk (k + 40) nb' ∧ b_law_L1 ⟨[.no, .sh .nib, x2, x3, .no, .no], [], nb⟩ = .ok .nx ⟨[.no, .sh .nib, x2, .sh (.int w), .no, .no], [], nb'⟩ := by
  obtain ⟨u, nb1, hu, k1, e1⟩ := r_tip h (by omega) (m := 6) (by omega) (by omega)
  obtain ⟨n, hn⟩ : ∃ n, n = 1 + u := ⟨_, rfl⟩
  obtain ⟨nb2, k2, e2⟩ := r_one (n := n) k1 (by omega) (by omega) (by omega)
  obtain ⟨nb3, k3, e3⟩ := r_two (n := n) k2 (by omega) (by omega) (by omega)
  obtain ⟨nb4, k4, e4⟩ := r_bes k3 (by omega)
  refine ⟨nb4, (n : Int), k4.mono (by omega), ?_⟩
  replace e1 : f_law_sip [.nib, .int 6] nb = _ := e1
  have e5 : addT (.int 1) (.int (u : Int)) = some (.sh (.int (n : Int))) := by rw [hn]; exact addN 1 u
  unfold b_law_L1
  clear h hk k1 k2 k3 k4 hu hn
  refine seq_nx (S1 := ⟨[.no, .sh .nib, x2, .sh (.int (n : Int)), .no, .no], [], nb1⟩) (by clear e2 e3 e4; trivial) ?_
  clear e1 e5
  trivial
theorem l1 {nb nb1 : Nib} {t : T} {a b : Int} (e1 : f_law_one_of [.nib, .lst oddL] nb = .ok (.sh t) nb1) : (setF 5 (callF 2 f_law_one_of (consA (opE (varE 1)) (consA (opE (lstF (consA (opE (con .non)) (consA (opE (con (.int 5))) (consA (opE (con (.bl true))) (consA (opE (con (.str "10"))) (consA (opE (dicF)) (consA (opE (lstF (nilA))) (consA (opE (tupF (nilA))) (consA (opE (lstF (consA (opE (con (.int 1))) (nilA)))) (consA (opE (lstF (consA (opE (con (.int 0))) (consA (opE (con (.int 0))) (nilA))))) (consA (opE (lstF (consA (opE (con (.int 1))) (consA (opE (con (.int 2))) (nilA))))) (consA (opE (lstF (consA (opE (con (.int 0))) (consA (opE (op1 negT (opE (con (.int 1))))) (nilA))))) (consA (opE (lstF (consA (opE (con (.bl true))) (consA (opE (con (.bl false))) (nilA))))) (consA (opE (lstF (consA (opE (con (.str "0"))) (nilA)))) (consA (opE (lstF (consA (opE (lstF (consA (opE (con (.int 0))) (nilA)))) (nilA)))) (consA (opE (op1 lrg1 (opE (con (.int 7))))) (consA (opE (lstF (consA (opE (con (.int 0))) (consA (opE (con .non)) (consA (opE (con (.int 1))) (nilA)))))) (nilA))))))))))))))))))) (nilA))))) ⟨[.no, .sh .nib, .sh (.int a), .sh (.int b), .no, .no], [], nb⟩ = .ok .nx ⟨[.no, .sh .nib, .sh (.int a), .sh (.int b), .no, .sh t], [], nb1⟩ := by
  have e2 := lrg_n 7 (by omega)
  replace e2 : lrg1 (.int 7) = some (.ow (.lst (tn (List.range 7)))) := e2
  have e3 := neg1
  obtain ⟨z, hz⟩ : ∃ z, z = tn (List.range 7) := ⟨_, rfl⟩
  unfold oddL at e1
  rw [← hz] at e1 e2
  clear hz
  trivial
theorem l2 {nb : Nib} {t : T} {a b : Int} (h : t ∈ oddL) : (setF 4 (lstF (consA (opE (lamF [5] (b_law_X2) (hFn N_law_heard.length b_law_heard))) (nilA)))) ⟨[.no, .sh .nib, .sh (.int a), .sh (.int b), .no, .sh t], [], nb⟩ = .ok .nx ⟨[.no, .sh .nib, .sh (.int a), .sh (.int b), .ow (.lst [.str "row"]), .sh t], [], nb⟩ := by
  have e1 := y2 (nb := nb) h a b
  replace e1 : lamF [5] b_law_X2 (hFn N_law_heard.length b_law_heard) _ = _ := e1
  obtain ⟨f, hf⟩ : ∃ f, f = lamF [5] b_law_X2 (hFn N_law_heard.length b_law_heard) := ⟨_, rfl⟩
  rw [← hf] at e1 ⊢
  clear h hf
  trivial
theorem l3 {nb : Nib} {t : T} {a b : Int} (h : t ∈ oddL) : (dropF (methF 4 apP (consA (opE (lamF [5] (b_law_X3) (hFn N_law_heard.length b_law_heard))) (nilA)))) ⟨[.no, .sh .nib, .sh (.int a), .sh (.int b), .ow (.lst [.str "row"]), .sh t], [], nb⟩ = .ok .nx ⟨[.no, .sh .nib, .sh (.int a), .sh (.int b), .ow (.lst [.str "row", .str "row"]), .sh t], [], nb⟩ := by
  have e1 := y3 (nb := nb) h a b
  replace e1 : lamF [5] b_law_X3 (hFn N_law_heard.length b_law_heard) _ = _ := e1
  obtain ⟨f, hf⟩ : ∃ f, f = lamF [5] b_law_X3 (hFn N_law_heard.length b_law_heard) := ⟨_, rfl⟩
  rw [← hf] at e1 ⊢
  have e2 : apP [.str "row"] [.str "row"] = some ([.str "row", .str "row"], .non) := ap_ok (by decide)
  clear h hf
  trivial
theorem l4 {nb : Nib} {t : T} {a b : Int} : (retF (andE (op2 TL.eqT (var 4) (opE (lstF (consA (opE (con (.str "row"))) (consA (opE (con (.str "row"))) (nilA)))))) (andE (op2 TL.eqT (opE (callF 1 f_rounds (consA (opE (lstF (consA (opE (con (.int 0))) (nilA)))) (nilA)))) (opE (tupF (consA (opE (tupF (consA (opE (con (.int 0))) (nilA)))) (nilA))))) (op2 TL.eqT (opE (callF 1 f_sign (consA (opE (tupF (consA (opE (con (.int 0))) (nilA)))) (nilA)))) (opE (con (.int 1))))))) ⟨[.no, .sh .nib, .sh (.int a), .sh (.int b), .ow (.lst [.str "row", .str "row"]), .sh t], [], nb⟩ = .ok (.rt (.sh (.bl true))) ⟨[.no, .sh .nib, .sh (.int a), .sh (.int b), .ow (.lst [.str "row", .str "row"]), .sh t], [], nb⟩ := by
  have P : [0].Perm (List.range 1) := List.Perm.refl _
  have e1 : f_rounds [.lst [.int 0]] nb = .ok (.sh (.tup [.tup [.int 0]])) nb := by
    have := r_rounds false P (by omega) (by omega) nb
    rw [show lawR [0] = [[0]] by decide +kernel] at this
    exact this
  have e2 : f_sign [.tup [.int 0]] nb = .ok (.sh (.int 1)) nb := by
    have := r_sign true P (by omega) (by omega) nb
    rw [show sg [0] = 1 by decide +kernel] at this
    exact this
  have e3 : TL.eqT (.int 1) (.int 1) = some (.sh (.bl true)) := by rw [TL.eq_int, decide_eq_true rfl]
  have e4 : TL.eqT (.tup [.tup [.int 0]]) (.tup [.tup [.int 0]]) = some (.sh (.bl true)) := by
    have := eq_tr [[0]] [[0]]
    rw [decide_eq_true rfl] at this
    exact this
  have e5 : TL.eqT (.lst [.str "row", .str "row"]) (.lst [.str "row", .str "row"]) = some (.sh (.bl true)) := by kernel_rfl
  clear P
  trivial
theorem law_holds0 : ∀ ns : List Int, ns.length ≤ 63 → (∀ z ∈ ns, Builtin.Int.intBits z ≤ 1048576) → ∃ S', b_law ⟨.no :: .sh .nib :: List.replicate 4 .no, [], ⟨ns.take 61, 0, 0⟩⟩ = .ok (.rt (.sh (.bl true))) S' := by
  intro ns hl hb
  have h0 : NbOk 0 ⟨ns.take 61, 0, 0⟩ := ⟨Int.le_refl 0, Int.le_refl 0, Int.le_refl 0, fun z hz => hb z (List.mem_of_mem_take hz)⟩
  obtain ⟨nb1, y1, k1, e1⟩ := r_lap h0 (by omega) (.sh (.int ((0 : Nat) : Int))) .no
  obtain ⟨nb2, y2, k2, e2⟩ := r_lap k1 (by omega) (.sh (.int ((1 : Nat) : Int))) (.sh (.int y1))
  obtain ⟨nb3, y3, k3, e3⟩ := r_lap k2 (by omega) (.sh (.int ((2 : Nat) : Int))) (.sh (.int y2))
  obtain ⟨t, nb4, ht, k4, e4⟩ := r_pick k3 (by omega) oddL (by decide) (by decide)
  have h3 : ∀ S, kRng (.val (.int 3)) S = .ok [.int ((0 : Nat) : Int), .int ((1 : Nat) : Int), .int ((2 : Nat) : Int)] S := fun S => kRng_n S 3 (by omega)
  refine ⟨⟨[.no, .sh .nib, .sh (.int ((2 : Nat) : Int)), .sh (.int y3), .ow (.lst [.str "row", .str "row"]), .sh t], [], nb4⟩, ?_⟩
  show b_law ⟨[.no, .sh .nib, .no, .no, .no, .no], [], ⟨ns.take 61, 0, 0⟩⟩ = _
  have b1 := l1 (a := ((2 : Nat) : Int)) (b := y3) e4
  have b2 := l2 (nb := nb4) (a := ((2 : Nat) : Int)) (b := y3) ht
  have b3 := l3 (nb := nb4) (a := ((2 : Nat) : Int)) (b := y3) ht
  have b4 := l4 (nb := nb4) (t := t) (a := ((2 : Nat) : Int)) (b := y3)
  unfold b_law
  clear hl hb h0 k1 k2 k3 k4 e4
  refine seq_nx (S1 := ⟨[.no, .sh .nib, .sh (.int ((2 : Nat) : Int)), .sh (.int y3), .no, .no], [], nb3⟩) (by clear b1 b2 b3 b4; trivial) (seq_nx b1 (seq_nx b2 (seq_nx b3 b4)))
end K05

end
section
theorem K05.law_holds : K05.LawHolds := K05.law_holds0
end
open PySem PySem.W PyProof.Rows
set_option maxHeartbeats 0 in
theorem PySem.Challenge.cw_fromsize_k05_signs_and_rounds_holds : PySem.Challenge.rw_fromsize_k05_signs_and_rounds.Holds := by
  w_on; o_law; k_head; (case hw => w_witness2)
  k_fill
  refine TL.walk_ofTabs (l := PySem.Challenge.rw_fromsize_k05_signs_and_rounds) (n := 63) (k := 8) (x := "_law_script") (CX := fun w => L2.CX PySem.Challenge.rw_fromsize_k05_signs_and_rounds.prog w) rfl (by decide) rfl ⟨rfl, by decide, by decide⟩ (fun w h Y => PySem.W.km_in_of Y) ?F (fun _ _ _ _ _ h => by obtain ⟨_, _, _, _, _, _, _, _, _, _, _, _, z⟩ := h; exact z)
  case F =>
    intro w mg fa h Y KX G hmg own
    refine' K05.law_fact K05.law_holds (K05.tab_mk KX G ?a0 ?l0 ?c0 ?k0 ?a1 ?l1 ?c1 ?k1 ?a2 ?l2 ?c2 ?k2 ?a3 ?l3 ?c3 ?k3 ?a4 ?l4 ?c4 ?k4 ?a5 ?l5 ?c5 ?k5 ?a6 ?l6 ?c6 ?k6 ?a7 ?l7 ?c7 ?k7 ?a8 ?l8 ?c8 ?k8 ?a9 ?l9 ?c9 ?k9 ?a10 ?l10 ?c10 ?k10 ?a11 ?l11 ?c11 ?k11 ?a12 ?l12 ?c12 ?k12 ?a13 ?l13 ?c13 ?k13 ?a14 ?l14 ?c14 ?k14 ?a15 ?l15 ?c15 ?k15 ?a16 ?l16 ?c16 ?k16 ?a17 ?l17 ?c17 ?k17 ?a18 ?l18 ?c18 ?k18 ?a19 ?l19 ?c19 ?k19 ?a20 ?l20 ?c20 ?k20 ?a21 ?l21 ?c21 ?k21 ?a22 ?l22 ?c22 ?k22 ?a23 ?l23 ?c23 ?k23 ?a24 ?l24 ?c24 ?k24 ?lc24 ?v24 ?a25 ?l25 ?c25 ?k25 ?xa_SizeError ?eC_SizeError ?tC_SizeError ?hC_SizeError ?sC_SizeError ?xa_BadWiring ?eC_BadWiring ?tC_BadWiring ?hC_BadWiring ?sC_BadWiring ?xl_BadWiring ?sa_BadWiring ?ga_BadWiring ?gg_BadWiring ?cl_BadWiring ?kC_BadWiring ?mo_BadWiring ?in_BadWiring ?it_BadWiring ?il_BadWiring ?ik_BadWiring ?ic_BadWiring ?no_BadWiring_part ?xa_Misfit ?eC_Misfit ?tC_Misfit ?hC_Misfit ?sC_Misfit ?xl_Misfit ?sa_Misfit ?ga_Misfit ?gg_Misfit ?cl_Misfit ?kC_Misfit ?mo_Misfit ?in_Misfit ?it_Misfit ?il_Misfit ?ik_Misfit ?ic_Misfit ?no_Misfit_part ?xa_TooMany ?eC_TooMany ?tC_TooMany ?hC_TooMany ?sC_TooMany ?xl_TooMany ?sa_TooMany ?ga_TooMany ?gg_TooMany ?cl_TooMany ?kC_TooMany ?mo_TooMany ?in_TooMany ?it_TooMany ?il_TooMany ?ik_TooMany ?ic_TooMany ?no_TooMany_what ?no_TooMany_most ?sN_BadWiring ?s_Misfit_BadWiring ?s_TooMany_BadWiring ?s_BadWiring_SizeError ?s_Misfit_SizeError ?s_TooMany_SizeError ?spG ?tkG ?z_abs ?z_all ?z_bool ?z_enumerate ?z_int ?z_isinstance ?z_len ?z_list ?z_min ?z_range ?z_sorted ?z_sum ?z_tuple ?g_MOST_WIRES) hmg ?bb own ?hR_law ?hN_law
    (case bb => exact fun s v => .of_eq rfl)
    (case a0 => k_is); (case l0 => k_is); (case c0 => k_is); (case k0 => k_is); (case a1 => k_is); (case l1 => k_is); (case c1 => k_is); (case k1 => k_is); (case a2 => k_is); (case l2 => k_is); (case c2 => k_is); (case k2 => k_is); (case a3 => k_is); (case l3 => k_is); (case c3 => k_is); (case k3 => k_is); (case a4 => k_is); (case l4 => k_is); (case c4 => k_is); (case k4 => k_is); (case a5 => k_is); (case l5 => k_is); (case c5 => k_is); (case k5 => k_is); (case a6 => k_is); (case l6 => k_is); (case c6 => k_is); (case k6 => k_is); (case a7 => k_is); (case l7 => k_is); (case c7 => k_is); (case k7 => k_is); (case a8 => k_is); (case l8 => k_is); (case c8 => k_is); (case k8 => k_is); (case a9 => k_is); (case l9 => k_is); (case c9 => k_is); (case k9 => k_is); (case a10 => k_is); (case l10 => k_is); (case c10 => k_is); (case k10 => k_is); (case a11 => k_is); (case l11 => k_is); (case c11 => k_is); (case k11 => k_is); (case a12 => k_is); (case l12 => k_is); (case c12 => k_is); (case k12 => k_is); (case a13 => k_is); (case l13 => k_is); (case c13 => k_is); (case k13 => k_is); (case a14 => k_is); (case l14 => k_is); (case c14 => k_is); (case k14 => k_is); (case a15 => k_is); (case l15 => k_is); (case c15 => k_is); (case k15 => k_is); (case a16 => k_is); (case l16 => k_is); (case c16 => k_is); (case k16 => k_is); (case a17 => k_is); (case l17 => k_is); (case c17 => k_is); (case k17 => k_is); (case a18 => k_is); (case l18 => k_is); (case c18 => k_is); (case k18 => k_is); (case a19 => k_is); (case l19 => k_is); (case c19 => k_is); (case k19 => k_is); (case a20 => k_is); (case l20 => k_is); (case c20 => k_is); (case k20 => k_is); (case a21 => k_is); (case l21 => k_is); (case c21 => k_is); (case k21 => k_is); (case a22 => k_is); (case l22 => k_is); (case c22 => k_is); (case k22 => k_is); (case a23 => k_is); (case l23 => k_is); (case c23 => k_is); (case k23 => k_is); (case a24 => k_is); (case l24 => k_is); (case c24 => k_is); (case k24 => k_is); (case lc24 => k_is); (case a25 => k_is); (case l25 => k_is); (case c25 => k_is); (case k25 => k_is); (case xa_SizeError => k_is); (case eC_SizeError => k_is); (case tC_SizeError => k_is); (case hC_SizeError => k_is); (case sC_SizeError => k_is); (case xa_BadWiring => k_is); (case eC_BadWiring => k_is); (case tC_BadWiring => k_is); (case hC_BadWiring => k_is); (case sC_BadWiring => k_is); (case xl_BadWiring => k_is); (case sa_BadWiring => k_is); (case ga_BadWiring => k_is); (case gg_BadWiring => k_is); (case cl_BadWiring => k_is); (case kC_BadWiring => k_is); (case mo_BadWiring => k_is); (case in_BadWiring => k_is); (case it_BadWiring => k_is); (case il_BadWiring => k_is); (case ik_BadWiring => k_is); (case ic_BadWiring => k_is); (case no_BadWiring_part => k_is); (case xa_Misfit => k_is); (case eC_Misfit => k_is); (case tC_Misfit => k_is); (case hC_Misfit => k_is); (case sC_Misfit => k_is); (case xl_Misfit => k_is); (case sa_Misfit => k_is); (case ga_Misfit => k_is); (case gg_Misfit => k_is); (case cl_Misfit => k_is); (case kC_Misfit => k_is); (case mo_Misfit => k_is); (case in_Misfit => k_is); (case it_Misfit => k_is); (case il_Misfit => k_is); (case ik_Misfit => k_is); (case ic_Misfit => k_is); (case no_Misfit_part => k_is); (case xa_TooMany => k_is); (case eC_TooMany => k_is); (case tC_TooMany => k_is); (case hC_TooMany => k_is); (case sC_TooMany => k_is); (case xl_TooMany => k_is); (case sa_TooMany => k_is); (case ga_TooMany => k_is); (case gg_TooMany => k_is); (case cl_TooMany => k_is); (case kC_TooMany => k_is); (case mo_TooMany => k_is); (case in_TooMany => k_is); (case it_TooMany => k_is); (case il_TooMany => k_is); (case ik_TooMany => k_is); (case ic_TooMany => k_is); (case no_TooMany_what => k_is); (case no_TooMany_most => k_is); (case sN_BadWiring => k_is); (case s_Misfit_BadWiring => k_is); (case s_TooMany_BadWiring => k_is); (case s_BadWiring_SizeError => k_is); (case s_Misfit_SizeError => k_is); (case s_TooMany_SizeError => k_is); (case spG => k_is); (case tkG => k_is); (case z_abs => k_is); (case z_all => k_is); (case z_bool => k_is); (case z_enumerate => k_is); (case z_int => k_is); (case z_isinstance => k_is); (case z_len => k_is); (case z_list => k_is); (case z_min => k_is); (case z_range => k_is); (case z_sorted => k_is); (case z_sum => k_is); (case z_tuple => k_is); (case g_MOST_WIRES => k_is); (case v24 => rfl)
    (case hN_law => first | rfl | k_is)
    (case hR_law => decide +kernel)

import PyProof.Rows.All
import Wide.All
import OpenK.AllK
import Wide.FinOn
import PySem.Challenge.RW_fromsize_k35_words_turned_and_gone_round
import HandS.Conv
import HandS.Deep
import HandS.Dict
import HandS.EndBits
import HandS.EndTab
import HandS.ExcInit
import HandS.ExcIs
import HandS.ExcOwn
import HandS.ExcValue
import HandS.ForExc
import HandS.ForMost
import HandS.IsInst
import HandS.Iter
import HandS.Lambda
import HandS.NamedTupSort
import HandS.NoneIn
import HandS.RaiseMore
import HandS.SetFor
import HandS.Small
import HandS.Star
import HandS.Steps
import HandS.StrMore
import HandS.Strs
import HandS.Style
import HandS.Text
import HandS.TupAny
import HandS.TupLe
import HandS.TupSets
import HandS.Wide
import HandS.WordsExc
import HandS.Zip
import KE.DatumOrd
import KE.GoesEnum
import KE.GoesMore
import KE.KNest
import KE.OsSort
import PyProof.ReprRoads
import PyProof.Rows.SortShellAny
import PyProof.StrOps2
section
set_option Elab.async false
set_option linter.all false
set_option maxRecDepth 100000
set_option autoImplicit false
/-! TLT: tuples whose object is known to have no dict -/
open PySem PySem.Spec PyProof.Rows L2
namespace TL
def SqD (K : PySem.W.Frag) (H : Hp) (a : Addr) (xs : List V) : Prop :=
  (∃ o, H a = some (.frz o (.tup xs)) ∧ o.dict = none) ∨ ∃ (o : Obj) (its : Array Value) (n : Nat), K.lookup a = some o ∧ o.cls = .type "tuple" ∧ o.dict = none ∧ o.data = .seq its n ∧ its.size ≤ sizeLine ∧ Vals xs its.toList
theorem SqD.sq {K : PySem.W.Frag} {H : Hp} {a : Addr} {xs : List V} (h : SqD K H a xs) : SqT K H a xs := by
  rcases h with ⟨o, h, _⟩ | ⟨o, its, n, h1, h2, _, h3, h4, h5⟩
  · exact .inl (.inr ⟨o, h⟩)
  · exact .inr ⟨o, its, n, h1, h2, h3, h4, h5⟩
theorem sameSqD {K : PySem.W.Frag} {F F' : Hp} {a : Addr} {xs : List V} (e : Same F F') (h : SqD K F a xs) : SqD K F' a xs := by
  rcases h with ⟨o, h, d⟩ | h
  · exact .inl ⟨o, e _ _ h, d⟩
  · exact .inr h
def tupObj (its : List Value) : Obj := { cls := .type "tuple", data := .seq its.toArray }
section
variable {X : Cx} {pins : List (Addr × Obj)} {σ : L2.St} {H : Hp} {s : Shared}
theorem SqD.obj {a : Addr} {xs : List V} (I : Inv X pins σ H s) (h : SqD X.K H a xs) : ∃ ob, s.heap.get? a = some ob ∧ ob.cls = .type "tuple" ∧ ob.dict = none := by
  rcases h with ⟨o, h, d⟩ | ⟨o, its, n, h1, h2, h3, _⟩
  · obtain ⟨e, z, its, r, ob, e2, c, _⟩ := I.hok a _ h
    rw [e] at e2
    cases e2
    exact ⟨o, e, c, d⟩
  · exact ⟨o, I.kIn a o h1, h2, h3⟩
theorem frz_tup {P : Program} {w : World} {H : Hp} {h : Heap} {xs : List V} {its : List Value} (z : xs.length ≤ sizeLine) (r : Vals xs its) : ObjOk P w (upd H h.objs.size (.frz (tupObj its) (.tup xs))) (h.push (tupObj its)) h.objs.size (.frz (tupObj its) (.tup xs)) :=
  ⟨Heap.get?_push_size _ rfl, z, its, r, IsTup.new _ _⟩
end
section
variable {X : Cx} {es : List Expr} {t : TA} {pos : Pos}
def tTupF (t : TA) : TE := fun σ H Q => t σ H fun xs H1 => xs.length ≤ sizeLine ∧ ∀ p o, H1 p = none → o.dict = none → Q (.ref p) (upd H1 p (.frz o (.tup xs)))
theorem pe_tupF {x1 : Nat} (h : PA X es t) : PE X (.Tuple es x1 pos) (tTupF t) := by
  refine ⟨fun pins s σ H Q I hq => ?_⟩
  refine wpAny_Tuple_spliced (thn (h.run pos pins s σ H _ I hq) fun us s1 ⟨xs, H1, I1, r, z, q⟩ => ⟨by rw [← r.length]; exact z, ?_⟩)
  have hf : H1 s1.heap.objs.size = none := I1.hok.fresh (Nat.le_refl _)
  exact ⟨.ref s1.heap.objs.size, upd H1 s1.heap.objs.size (.frz (tupObj us) (.tup xs)), I1.laid (t' := s1.toks) (fun b u e => Heap.get?_push_of_some _ e) (Nat.le_refl _) (frz_tup z r), rfl, q _ _ hf rfl⟩
theorem call_tuple_ofF : CallR X (.type "tuple") (fun xs H Q => ∃ p ys, xs = [.ref p] ∧ ((SqL X.K H p ys ∧ ∀ l o, H l = none → o.dict = none → Q (.ref l) (upd H l (.frz o (.tup ys)))) ∨ (SqT X.K H p ys ∧ Q (.ref p) H))) := by
  intro pins s σ H xs us Q I r h
  obtain ⟨p, ys, rfl, h⟩ := h
  obtain ⟨u, rfl, rx⟩ := vals1 r
  cases rx
  rcases h with ⟨hq, q⟩ | ⟨hq, q⟩
  · obtain ⟨its, r', pl, hz⟩ := I.list hq
    have hlen := r'.length
    refine call_tuple_list pl.isList (fun h' kp => ?_) (by simp only [List.size_toArray] <;> omega)
    have I1 : Inv X pins σ H { s with heap := h' } := I.kept (t' := s.toks) kp
    have I2 : Inv X pins σ (upd H h'.objs.size (.frz (tupObj its) (.tup ys))) { s with heap := h'.push (tupObj its) } :=
      I1.laid (t' := s.toks) (fun b o e => Heap.get?_push_of_some _ e) (Nat.le_refl _) (frz_tup hz r')
    exact ⟨.ref h'.objs.size, _, I2, rfl, q _ _ (I1.hok.fresh (Nat.le_refl _)) rfl⟩
  · obtain ⟨its, r', pl, hz⟩ := I.tuple hq
    exact call_tuple_same pl ⟨.ref p, H, I, rfl, q⟩
def rSlF (K : PySem.W.Frag) : V → Option Int → Option Int → Hp → VK → Prop := fun x lo hi H Q => ∃ a xs, x = .ref a ∧ SqT K H a xs ∧
  ((HT.sIx xs.length 0 lo = 0 ∧ HT.sIx xs.length xs.length hi = xs.length) → Q (.ref a) H) ∧ (¬ (HT.sIx xs.length 0 lo = 0 ∧ HT.sIx xs.length xs.length hi = xs.length) → ∀ p o, H p = none → o.dict = none → Q (.ref p) (upd H p (.frz o (.tup (cutV xs lo hi)))))
theorem sl_tupF : SlR X (rSlF X.K) := by
  intro pins s σ H x v vl vu lo hi sl Q I rx hs pl pu h
  obtain ⟨a, xs, rfl, hx, q1, q2⟩ := h
  by_cases hw : HT.sIx xs.length 0 lo = 0 ∧ HT.sIx xs.length xs.length hi = xs.length
  · exact sl_tupA pins s σ H _ v vl vu lo hi sl Q I rx hs pl pu ⟨a, xs, rfl, hx, fun _ => q1 hw, fun z => absurd hw z⟩
  · cases rx
    obtain ⟨its, r, ht, hz⟩ := I.tuple hx
    have hlen : its.toArray.size = xs.length := by rw [List.size_toArray]; exact r.length.symm
    refine ⟨"tuple", _, PyProof.Rows.slot_tuple_getitem.lookup, ht.typeIs, ?_⟩
    refine HT.getItem_tuple_cut ht hs pl pu (by rw [hlen]; exact hw) ?_ (by rw [hlen]; exact hz)
    rw [hlen]
    exact ⟨.ref s.heap.objs.size, _, I.laid (t' := s.toks) (fun b ob q => Heap.get?_push_of_some _ q) (Nat.le_refl _) (frz_tup (Nat.le_trans (cutV_length xs lo hi) hz) ((r.drop (HT.sIx xs.length 0 lo)).take (HT.sIx xs.length xs.length hi - HT.sIx xs.length 0 lo))), rfl, q2 hw _ _ (I.hok.fresh (Nat.le_refl _)) rfl⟩
def rCatTF (K : PySem.W.Frag) : R2 := fun x y H Q => ∃ a b xs ys, x = .ref a ∧ y = .ref b ∧ SqT K H a xs ∧ SqT K H b ys ∧ xs ≠ [] ∧ xs.length + ys.length ≤ sizeLine ∧
  (ys = [] → Q (.ref a) H) ∧ (ys ≠ [] → ∀ p o, H p = none → o.dict = none → Q (.ref p) (upd H p (.frz o (.tup (xs ++ ys)))))
theorem op_catTF : OpR X (binaryOp .Add) (rCatTF X.K) := by
  intro pins s σ H x y v u Q I rx ry h
  obtain ⟨a, b, xs, ys, rfl, rfl, ha, hb, hx, hz, q1, q2⟩ := h
  cases rx
  cases ry
  obtain ⟨its, r1, p1, _⟩ := I.tuple ha
  obtain ⟨its2, r2, p2, _⟩ := I.tuple hb
  refine HT.cat_tup p1 p2 (fun z => hx (r1.nil_iff.mp z)) (fun z => ⟨.ref a, H, I, rfl, q1 (r2.nil_iff.mp z)⟩) (fun z => ?_) (by rw [← r1.length, ← r2.length]; exact hz)
  exact ⟨.ref s.heap.objs.size, _, I.laid (t' := s.toks) (fun b ob q => Heap.get?_push_of_some _ q) (Nat.le_refl _) (frz_tup (by rw [List.length_append]; exact hz) (r1.append r2)), rfl, q2 (fun w => z (r2.nil_iff.mpr w)) _ _ (I.hok.fresh (Nat.le_refl _)) rfl⟩
def tTupRgF (te : L2.St → Hp → (Int → Int → Hp → Prop) → Prop) : TE := fun σ H Q => te σ H fun a b H1 => RgOk a b ∧ ∀ q o, H1 q = none → o.dict = none → Q (.ref q) (upd H1 q (.frz o (.tup (rgV a b))))
theorem pe_tupRgF {e : Expr} {te : L2.St → Hp → (Int → Int → Hp → Prop) → Prop} {p pos : Pos} (hc : X.calm = true) (hg : Gl X "tuple") (hm : X.mg "tuple" = none) (he : PRg X e te) (na : starEach [e] X.env = (false, eval e X.env) :: starEach [] X.env := by rfl) : PE X (.Call (.Name "tuple" p) [e] [] pos) (tTupRgF te) := by
  refine ⟨fun pins s σ H Q I h => ?_⟩
  refine Call_ (ld_blt I hg hm PyProof.Rows.boot_tuple (PyProof.Rows.callWith_type1 (args_cons (thn (he pins s σ H _ I h) fun x s1 ⟨r, a, b, t, u, v, H1, ex, hr, I1, ok, q⟩ => args_nil ?_) na) na))
  subst ex
  obtain ⟨b1, b2, b3, b4, b5⟩ := ok
  refine call_tuple_range (n := (b - a).toNat) (I1.ok.hd hc) hr (small_one b1 b2 b3 b4) (rangeSize_nat a b) b5 fun h' tk acc hk hi => ?_
  have I2 : Inv X pins σ H1 { s1 with heap := h', toks := tk } := I1.kept hk
  have hz : (rgV a b).length ≤ sizeLine := by rw [rgV_length, sizeLine_eq]; omega
  have e := frz_tup (P := X.prog) (w := X.w) (H := H1) (h := h') hz (vals_rg hi)
  unfold tupObj at e
  rw [Array.toArray_toList] at e
  exact ⟨.ref h'.objs.size, _, I2.laid (t' := tk) (fun c o e => Heap.get?_push_of_some _ e) (Nat.le_refl _) e, rfl, q _ _ (I2.hok.fresh (Nat.le_refl _)) rfl⟩
/-- t.m(e, ..), t such a tuple -/
def tBMT (K : PySem.W.Frag) (r : V → List V → Hp → VK → Prop) (to : TE) (t : TA) : TE := fun σ H Q => to σ H fun x H1 => (∃ a xs, x = .ref a ∧ SqD K H1 a xs) ∧ t σ H1 fun xs H2 => r x xs H2 Q
theorem pe_bmT {o e : Expr} {to : TE} {name : Str} {apos cpos : Pos} {id : String} {r : V → List V → Hp → VK → Prop} (slot : PySem.Slot "tuple" name id) (hty : typeOf (.builtin id) = pure (.type "method_descriptor")) (hm : MtR X id r) (ho : PE X o to) (ha : PA X (e :: es) t)
    (hbase : attributeBase o name X.env (eval o X.env) = eval o X.env := by rfl)
    (hfew : ((backTo cpos (starEach (e :: es) X.env)).all (fun x => !x.1) && (backToKw cpos (keywordEach [] X.env)).all (fun x => x.1.isSome)
      && decide ((e :: es).length + ([] : List Keyword).length + (if ([] : List Keyword).isEmpty then 0 else 1) < 30)) = true := by rfl)
    (hline : (apos.endLine == cpos.line) = true := by rfl) (hs : starEach (e :: es) X.env = (false, eval e X.env) :: starEach es X.env := by rfl) (hplain : (backTo cpos (starEach es X.env)).any (·.1) = false := by rfl) :
    PE X (.Call (.Attribute o name apos) (e :: es) [] cpos) (tBMT X.K r to t) := by
  refine ⟨fun pins s σ H Q I h => ?_⟩
  refine wpAny_Call_method_late hbase hfew hline rfl (thn (ho.run pins s σ H _ I h) fun v s1 ⟨x, H1, I1, r1, ty, q1⟩ => ?_)
  obtain ⟨a, ys, rfl, hd⟩ := ty
  cases r1
  obtain ⟨ob, h1, h2, h3⟩ := hd.obj I1
  refine ⟨"tuple", id, PySem.F.plainAttrs_tuple, slot, hty, ⟨ob, h1, h2⟩, fun b e => by cases e; exact ⟨ob, h1, h3⟩, ?_⟩
  have hA := ha.run cpos pins s1 σ H1 _ I1 q1
  rw [hs] at hA ⊢
  refine Calls.callWith_builtin (by show (false || (backTo cpos (starEach es X.env)).any (·.1)) = false; rw [hplain] <;> rfl) (Calls.evalArgs_plain ?_)
  exact thn hA fun us s2 ⟨vs, H2, I2, r2, q2⟩ => hm pins s2 σ H2 (.ref a) vs (.ref a) us Q I2 rfl r2 q2
end
end TL

end
section
set_option Elab.async false
set_option linter.all false
set_option maxRecDepth 100000
set_option autoImplicit false
/-! TL1: tree values, how they lie in the abstract heap, the state of a small interpreter -/
open PySem PySem.Spec PyProof.Rows L2
namespace TL

inductive T where
  | non | bl (b : Bool) | int (i : Int) | str (x : Str)
  | lst (xs : List T) | tup (xs : List T) | wtp (xs : List T)
  | dic (kvs : List (T × T))
  | obj (c : Nat) (fs : List (Str × T))
  | exo (c : Nat) (fs : List (Str × T))
  | fn (a : Addr)
  | nib
  deriving Inhabited

/-- what is fixed through a run: the written part, where the drawing list lies, the classes' places -/
structure Ga where
  K : PySem.W.Frag
  nb : Addr
  ca : Nat → Addr
  tb : List (Addr × Str)

/-- at a: an exception of the class at C with the dict at d, in nobody's air -/
def EXV (C d a : Addr) : HO := .ext fun h => ∃ (oe : Obj) (vs : Array Value), h.get? a = some oe ∧ Zc (.ref C) (some d) oe ∧ oe.data = .fields vs
def keyT : Key → T
  | .inl i => .int i
  | .inr x => .str x

mutual
inductive Rep (g : Ga) (F : Hp) : V → T → Prop
  | non : Rep g F .non .non
  | bl (b : Bool) : Rep g F (.bl b) (.bl b)
  | int (i : Int) : Rep g F (.int i) (.int i)
  | str (x : Str) : Rep g F (.str x) (.str x)
  | nib : Rep g F (.ref g.nb) .nib
  | lst {a : Addr} {vs : List V} {ts : List T} : F a = some (.lst vs) → RepAll g F vs ts → Rep g F (.ref a) (.lst ts)
  | tup {a : Addr} {vs : List V} {ts : List T} : SqD g.K F a vs → RepAll g F vs ts → Rep g F (.ref a) (.tup ts)
  | wtp {a : Addr} {vs : List V} {ts : List T} : SqT g.K F a vs → RepAll g F vs ts → Rep g F (.ref a) (.wtp ts)
  | dic {a : Addr} {kvs : List (Key × V)} {ts : List (T × T)} : F a = some (.dK kvs) → RepKV g F kvs ts → Rep g F (.ref a) (.dic ts)
  | obj {a dx : Addr} {c : Nat} {fs : List (Str × V)} {ts : List (Str × T)} : F a = some (.ins (g.ca c) dx fs) → RepF g F fs ts → Rep g F (.ref a) (.obj c ts)
  | exo {a d : Addr} {c : Nat} {fs : List (Str × V)} {ts : List (Str × T)} : F a = some (EXV (g.ca c) d a) → F d = some (.xd fs) → RepF g F fs ts → Rep g F (.ref a) (.exo c ts)
  | fn (a : Addr) : Rep g F (.ref a) (.fn a)
inductive RepAll (g : Ga) (F : Hp) : List V → List T → Prop
  | nil : RepAll g F [] []
  | cons {v : V} {t : T} {vs : List V} {ts : List T} : Rep g F v t → RepAll g F vs ts → RepAll g F (v :: vs) (t :: ts)
inductive RepKV (g : Ga) (F : Hp) : List (Key × V) → List (T × T) → Prop
  | nil : RepKV g F [] []
  | cons {k : Key} {v : V} {t : T} {vs : List (Key × V)} {ts : List (T × T)} : Rep g F v t → RepKV g F vs ts → RepKV g F ((k, v) :: vs) ((keyT k, t) :: ts)
inductive RepF (g : Ga) (F : Hp) : List (Str × V) → List (Str × T) → Prop
  | nil : RepF g F [] []
  | cons {k : Str} {v : V} {t : T} {vs : List (Str × V)} {ts : List (Str × T)} : Rep g F v t → RepF g F vs ts → RepF g F ((k, v) :: vs) ((k, t) :: ts)
end

section
variable {g : Ga} {F F' H H' : Hp}
theorem sameSqT {K : PySem.W.Frag} {a : Addr} {xs : List V} (e : Same F F') (h : SqT K F a xs) : SqT K F' a xs := by
  rcases h with (h | ⟨o, h⟩) | h
  · exact .inl (.inl (e _ _ h))
  · exact .inl (.inr ⟨o, e _ _ h⟩)
  · exact .inr h
theorem Rep.mono (s : Same F F') {v : V} {t : T} (h : Rep g F v t) : Rep g F' v t :=
  Rep.rec (motive_1 := fun v t _ => Rep g F' v t) (motive_2 := fun vs ts _ => RepAll g F' vs ts) (motive_3 := fun vs ts _ => RepKV g F' vs ts) (motive_4 := fun vs ts _ => RepF g F' vs ts)
    .non .bl .int .str .nib (fun e _ r => .lst (s _ _ e) r) (fun e _ r => .tup (sameSqD s e) r) (fun e _ r => .wtp (sameSqT s e) r) (fun e _ r => .dic (s _ _ e) r) (fun e _ r => .obj (s _ _ e) r) (fun e e2 _ r => .exo (s _ _ e) (s _ _ e2) r) .fn
    .nil (fun _ _ a b => .cons a b) .nil (fun _ _ a b => .cons a b) .nil (fun _ _ a b => .cons a b) h
theorem RepAll.mono (s : Same F F') : ∀ {vs : List V} {ts : List T}, RepAll g F vs ts → RepAll g F' vs ts
  | _, _, .nil => .nil
  | _, _, .cons a b => .cons (a.mono s) (RepAll.mono s b)
theorem RepKV.mono (s : Same F F') : ∀ {vs : List (Key × V)} {ts : List (T × T)}, RepKV g F vs ts → RepKV g F' vs ts
  | _, _, .nil => .nil
  | _, _, .cons a b => .cons (a.mono s) (RepKV.mono s b)
theorem RepF.mono (s : Same F F') : ∀ {vs : List (Str × V)} {ts : List (Str × T)}, RepF g F vs ts → RepF g F' vs ts
  | _, _, .nil => .nil
  | _, _, .cons a b => .cons (a.mono s) (RepF.mono s b)
theorem RepAll.length : ∀ {vs : List V} {ts : List T}, RepAll g F vs ts → vs.length = ts.length
  | _, _, .nil => rfl
  | _, _, .cons _ b => by simp [RepAll.length b]
theorem RepAll.append : ∀ {vs ws : List V} {ts us : List T}, RepAll g F vs ts → RepAll g F ws us → RepAll g F (vs ++ ws) (ts ++ us)
  | _, _, _, _, .nil, q => q
  | _, _, _, _, .cons a b, q => .cons a (RepAll.append b q)
theorem RepAll.get : ∀ {vs : List V} {ts : List T} {i : Nat} {t : T}, RepAll g F vs ts → ts[i]? = some t → ∃ v, vs[i]? = some v ∧ Rep g F v t
  | _, _, _, _, .nil, e => by simp at e
  | _, _, 0, _, .cons a _, e => by simp at e; subst e; exact ⟨_, rfl, a⟩
  | _, _, i + 1, _, .cons _ b, e => by
    obtain ⟨v, h1, h2⟩ := RepAll.get (i := i) b (by simpa using e)
    exact ⟨v, by simpa using h1, h2⟩
theorem RepAll.getV : ∀ {vs : List V} {ts : List T} {i : Nat} {v : V}, RepAll g F vs ts → vs[i]? = some v → ∃ t, ts[i]? = some t ∧ Rep g F v t
  | _, _, _, _, .nil, e => by simp at e
  | _, _, 0, _, .cons a _, e => by simp at e; subst e; exact ⟨_, rfl, a⟩
  | _, _, i + 1, _, .cons _ b, e => by
    obtain ⟨v, h1, h2⟩ := RepAll.getV (i := i) b (by simpa using e)
    exact ⟨v, by simpa using h1, h2⟩
theorem RepAll.set {v : V} {t : T} (r : Rep g F v t) : ∀ {vs : List V} {ts : List T} (i : Nat), RepAll g F vs ts → RepAll g F (vs.set i v) (ts.set i t)
  | _, _, _, .nil => .nil
  | _, _, 0, .cons _ b => .cons r b
  | _, _, i + 1, .cons a b => .cons a (RepAll.set r i b)
theorem RepAll.take : ∀ {vs : List V} {ts : List T} (n : Nat), RepAll g F vs ts → RepAll g F (vs.take n) (ts.take n)
  | _, _, 0, _ => .nil
  | _, _, _ + 1, .nil => .nil
  | _, _, n + 1, .cons a b => .cons a (RepAll.take n b)
theorem RepAll.drop : ∀ {vs : List V} {ts : List T} (n : Nat), RepAll g F vs ts → RepAll g F (vs.drop n) (ts.drop n)
  | _, _, 0, h => h
  | _, _, _ + 1, .nil => .nil
  | _, _, n + 1, .cons _ b => RepAll.drop n b
theorem RepAll.erase : ∀ {vs : List V} {ts : List T} (n : Nat), RepAll g F vs ts → RepAll g F (vs.eraseIdx n) (ts.eraseIdx n)
  | _, _, _, .nil => .nil
  | _, _, 0, .cons _ b => b
  | _, _, n + 1, .cons a b => .cons a (RepAll.erase n b)
theorem RepAll.reverse : ∀ {vs : List V} {ts : List T}, RepAll g F vs ts → RepAll g F vs.reverse ts.reverse
  | _, _, .nil => .nil
  | _, _, .cons a b => by
    rw [List.reverse_cons, List.reverse_cons]
    exact (RepAll.reverse b).append (.cons a .nil)
theorem RepAll.ints : ∀ {vs : List V} {ns : List Int}, RepAll g F vs (ns.map T.int) → vs = ns.map V.int
  | [], [], _ => rfl
  | _ :: _, n :: ns, h => by
    cases h with
    | cons a b =>
      cases a
      rw [List.map_cons, RepAll.ints b]
  | [], _ :: _, h => by cases h
  | _ :: _, [], h => by cases h
theorem RepAll.of_ints : ∀ (ns : List Int), RepAll g F (ns.map V.int) (ns.map T.int)
  | [] => .nil
  | n :: ns => .cons (.int n) (RepAll.of_ints ns)
theorem RepAll.bools : ∀ {vs : List V} {ns : List Bool}, RepAll g F vs (ns.map T.bl) → vs = ns.map V.bl
  | [], [], _ => rfl
  | _ :: _, n :: ns, h => by
    cases h with
    | cons a b =>
      cases a
      rw [List.map_cons, RepAll.bools b]
  | [], _ :: _, h => by cases h
  | _ :: _, [], h => by cases h
end

/-! ### the state -/
inductive Slot where
  | no | fu | sh (t : T) | ow (t : T)
  deriving Inhabited
structure Nib where
  cells : List Int
  turn : Int
  rest : Int
structure PS0 where
  sl : List Slot
  nb : Nib
structure Ex where
  cls : Nat
  fs : List (Str × T)
/-- the heap and the frozen part at the entry of a def -/
structure Bs where
  H : Hp
  F : Hp
  fv : V

/-- an object whose parts stand in F -/
inductive Mk (g : Ga) (F : Hp) : HO → T → Prop
  | lst {vs : List V} {ts : List T} : RepAll g F vs ts → Mk g F (.lst vs) (.lst ts)
  | dic {kvs : List (Key × V)} {ts : List (T × T)} : RepKV g F kvs ts → Mk g F (.dK kvs) (.dic ts)
  | obj {dx : Addr} {c : Nat} {fs : List (Str × V)} {ts : List (Str × T)} : RepF g F fs ts → Mk g F (.ins (g.ca c) dx fs) (.obj c ts)
theorem Mk.mono {g : Ga} {F F' : Hp} (s : Same F F') {o : HO} {t : T} (h : Mk g F o t) : Mk g F' o t := by
  cases h with
  | lst h => exact .lst (h.mono s)
  | dic h => exact .dic (h.mono s)
  | obj h => exact .obj (h.mono s)
theorem Mk.rep {g : Ga} {F : Hp} {a : Addr} {o : HO} {t : T} (h : Mk g F o t) (e : F a = some o) : Rep g F (.ref a) t := by
  cases h with
  | lst h => exact .lst e h
  | dic h => exact .dic e h
  | obj h => exact .obj e h

def SlotRel (g : Ga) (F H : Hp) (H0 : Bs) : Slot → Option V → Prop
  | .no, _ => True
  | .fu, o => o = some H0.fv
  | .sh t, o => ∃ v, o = some v ∧ Rep g F v t
  | .ow t, o => ∃ a, o = some (.ref a) ∧ (∃ u, H a = some u ∧ Mk g F u t) ∧ F a = none ∧ Fr0 H0.H a ∧ a ≠ g.nb

def NibRel (g : Ga) (F H : Hp) (n : Nib) : Prop := ∃ c, H g.nb = some (.lst [.ref c, .int n.turn, .int n.rest]) ∧ F c = some (.lst (n.cells.map V.int))

/-- no table -/
def NT (o : HO) : Prop := ∀ ps, o ≠ .tbl ps
theorem Mk.noT {g : Ga} {F : Hp} {o : HO} {t : T} (h : Mk g F o t) (ps : Array Value) : o ≠ .tbl ps := by
  cases h <;> exact fun z => nomatch z
theorem Mk.noC {g : Ga} {F : Hp} {o : HO} {t : T} (h : Mk g F o t) (c : Addr) (q : Str) : o ≠ LamX.CodeO c q := by
  cases h <;> exact fun z => by unfold LamX.CodeO at z; cases z
theorem tabs_chg {T : List (Addr × Str)} {H : Hp} {a : Addr} {u u' : HO} (t : LamX.Tabs T H) (hu : H a = some u) (n1 : ∀ ps, u ≠ .tbl ps) (n2 : ∀ c q, u ≠ LamX.CodeO c q) : LamX.Tabs T (upd H a u') := fun p hp => by
  obtain ⟨ps, h1, h2, h3⟩ := t p hp
  refine ⟨ps, by rw [upd_ne (fun z => n1 ps (Option.some.inj (hu.symm.trans (by rw [← z]; exact h1))))]; exact h1, h2, fun pos cv hc => ?_⟩
  obtain ⟨c, e1, e2⟩ := h3 pos cv hc
  exact ⟨c, e1, by rw [upd_ne (fun z => n2 c _ (Option.some.inj (hu.symm.trans (by rw [← z]; exact e2))))]; exact e2⟩
theorem nt_upd {F : Hp} {a : Addr} {u : HO} (h : ∀ a o, F a = some o → NT o) (n : NT u) : ∀ b o, upd F a u b = some o → NT o := fun b o q => by
  by_cases hb : b = a
  · subst hb; rw [upd_same] at q; cases q; exact n
  · rw [upd_ne hb] at q; exact h b o q
/-- the list of cells stays where it is -/
def CelS (g : Ga) (H H' : Hp) : Prop := ∀ c x y, H g.nb = some (.lst [.ref c, x, y]) → ∃ x' y', H' g.nb = some (.lst [.ref c, x', y'])
theorem CelS.refl {g : Ga} (H : Hp) : CelS g H H := fun _ x y h => ⟨x, y, h⟩
theorem CelS.trans {g : Ga} {H H' H2 : Hp} (a : CelS g H H') (b : CelS g H' H2) : CelS g H H2 := fun c x y h => by
  obtain ⟨x', y', h'⟩ := a c x y h
  exact b c x' y' h'
theorem CelS.st {g : Ga} {H H' H2 : Hp} (a : CelS g H H') (s : Same H' H2) : CelS g H H2 := fun c x y h => by
  obtain ⟨x', y', h'⟩ := a c x y h
  exact ⟨x', y', s _ _ h'⟩
theorem CelS.upd {g : Ga} {H H' : Hp} {a : Addr} {u : HO} (e : CelS g H H') (n : a ≠ g.nb) : CelS g H (upd H' a u) := fun c x y h => by
  obtain ⟨x', y', h'⟩ := e c x y h
  exact ⟨x', y', by rw [upd_ne (Ne.symm n)]; exact h'⟩
structure AbsE (g : Ga) (H0 : Bs) (F H : Hp) : Prop where
  bs : Same H0.F F
  nt : ∀ a o, F a = some o → NT o
  tabs : LamX.Tabs g.tb H
  cel : CelS g H0.H H
theorem AbsE.st {g : Ga} {H0 : Bs} {F H H' : Hp} (e : AbsE g H0 F H) (s : Same H H') : AbsE g H0 F H' := ⟨e.bs, e.nt, e.tabs.ext s, e.cel.st s⟩
theorem AbsE.gr {g : Ga} {H0 : Bs} {F F' H : Hp} (e : AbsE g H0 F H) (s : Same F F') (nt : ∀ a o, F' a = some o → NT o) : AbsE g H0 F' H := ⟨e.bs.trans s, nt, e.tabs, e.cel⟩
structure Abs (g : Ga) (H0 : Bs) (F : Hp) (S : PS0) (ρ : List (Option V)) (H : Hp) : Prop where
  fh : Same F H
  fn : F g.nb = none
  nib : NibRel g F H S.nb
  keep : ∀ a o, H0.H a = some o → NT o → a ≠ g.nb → H a = some o
  fre : ∀ a o, H0.H a = some o → NT o → H0.F a = none → F a = none
  ext : AbsE g H0 F H
  len : S.sl.length = ρ.length
  sl : ∀ (i : Nat) (s : Slot) (o : Option V), S.sl[i]? = some s → ρ[i]? = some o → SlotRel g F H H0 s o
  ds : ∀ (i j : Nat) (t u : T) (a : Addr), S.sl[i]? = some (.ow t) → S.sl[j]? = some (.ow u) → ρ[i]? = some (some (.ref a)) → ρ[j]? = some (some (.ref a)) → i = j

def PS0.push (S : PS0) (x : Slot) : PS0 := { S with sl := S.sl ++ [x] }
def PS0.put (S : PS0) (i : Nat) (x : Slot) : PS0 := { S with sl := S.sl.set i x }

section
variable {g : Ga} {H0 : Bs} {F F' H H' : Hp} {S : PS0} {ρ : List (Option V)} {x y : Slot} {v : V} {o : Option V} {t : T} {a p : Addr}
theorem getE_snoc_lt {α : Type} {l : List α} {z : α} {i : Nat} (h : i < l.length) : (l ++ [z])[i]? = l[i]? := List.getElem?_append_left h
theorem getE_snoc_last {α : Type} {l : List α} {z : α} : (l ++ [z])[l.length]? = some z := by simp
theorem getE_snoc {α : Type} {l : List α} {z w : α} {i : Nat} (h : (l ++ [z])[i]? = some w) : (i < l.length ∧ l[i]? = some w) ∨ (i = l.length ∧ z = w) := by
  by_cases hi : i < l.length
  · rw [getE_snoc_lt hi] at h; exact .inl ⟨hi, h⟩
  · have hl : i < (l ++ [z]).length := (List.getElem?_eq_some_iff.mp h).1
    have e : i = l.length := by simp at hl; omega
    subst e
    rw [getE_snoc_last] at h
    exact .inr ⟨rfl, Option.some.inj h⟩

theorem Abs.pop (A : Abs g H0 F (S.push x) (ρ ++ [o]) H) : Abs g H0 F S ρ H := by
  have hl : S.sl.length = ρ.length := by have := A.len; simp [PS0.push] at this; exact this
  refine ⟨A.fh, A.fn, A.nib, A.keep, A.fre, A.ext, hl, fun i s q h1 h2 => ?_, fun i j t u a h1 h2 h3 h4 => ?_⟩
  · have i1 : i < S.sl.length := (List.getElem?_eq_some_iff.mp h1).1
    exact A.sl i s q (by show (S.sl ++ [x])[i]? = _; rw [getE_snoc_lt i1]; exact h1) (by rw [getE_snoc_lt (hl ▸ i1)]; exact h2)
  · have i1 : i < S.sl.length := (List.getElem?_eq_some_iff.mp h1).1
    have j1 : j < S.sl.length := (List.getElem?_eq_some_iff.mp h2).1
    exact A.ds i j t u a (by show (S.sl ++ [x])[i]? = _; rw [getE_snoc_lt i1]; exact h1) (by show (S.sl ++ [x])[j]? = _; rw [getE_snoc_lt j1]; exact h2)
      (by rw [getE_snoc_lt (hl ▸ i1)]; exact h3) (by rw [getE_snoc_lt (hl ▸ j1)]; exact h4)
theorem Abs.lenP (A : Abs g H0 F (S.push x) (ρ ++ [o]) H) : S.sl.length = ρ.length := A.pop.len
theorem Abs.top (A : Abs g H0 F (S.push x) (ρ ++ [o]) H) : SlotRel g F H H0 x o :=
  A.sl S.sl.length x o (by show (S.sl ++ [x])[_]? = _; exact getE_snoc_last) (by rw [A.lenP]; exact getE_snoc_last)
theorem Abs.topSh (A : Abs g H0 F (S.push (.sh t)) (ρ ++ [some v]) H) : Rep g F v t := by
  obtain ⟨w, e, r⟩ := A.top
  cases e
  exact r
/-- a slot more, no owned one -/
theorem Abs.pushSh (A : Abs g H0 F S ρ H) (r : Rep g F v t) : Abs g H0 F (S.push (.sh t)) (ρ ++ [some v]) H := by
  refine ⟨A.fh, A.fn, A.nib, A.keep, A.fre, A.ext, by simp [PS0.push, A.len], fun i s q h1 h2 => ?_, fun i j t u a h1 h2 h3 h4 => ?_⟩
  · rcases getE_snoc h1 with ⟨l1, e1⟩ | ⟨l1, e1⟩
    · rw [getE_snoc_lt (A.len ▸ l1)] at h2
      exact A.sl i s q e1 h2
    · subst e1
      subst l1
      rw [A.len, getE_snoc_last] at h2
      cases h2
      exact ⟨v, rfl, r⟩
  · rcases getE_snoc h1 with ⟨l1, e1⟩ | ⟨l1, e1⟩
    · rcases getE_snoc h2 with ⟨l2, e2⟩ | ⟨l2, e2⟩
      · rw [getE_snoc_lt (A.len ▸ l1)] at h3
        rw [getE_snoc_lt (A.len ▸ l2)] at h4
        exact A.ds i j t u a e1 e2 h3 h4
      · cases e2
    · cases e1
theorem Abs.pushNo (A : Abs g H0 F S ρ H) (o : Option V) : Abs g H0 F (S.push .no) (ρ ++ [o]) H := by
  refine ⟨A.fh, A.fn, A.nib, A.keep, A.fre, A.ext, by simp [PS0.push, A.len], fun i s q h1 h2 => ?_, fun i j t u a h1 h2 h3 h4 => ?_⟩
  · rcases getE_snoc h1 with ⟨l1, e1⟩ | ⟨l1, e1⟩
    · rw [getE_snoc_lt (A.len ▸ l1)] at h2
      exact A.sl i s q e1 h2
    · subst e1
      trivial
  · rcases getE_snoc h1 with ⟨l1, e1⟩ | ⟨l1, e1⟩
    · rcases getE_snoc h2 with ⟨l2, e2⟩ | ⟨l2, e2⟩
      · rw [getE_snoc_lt (A.len ▸ l1)] at h3
        rw [getE_snoc_lt (A.len ▸ l2)] at h4
        exact A.ds i j t u a e1 e2 h3 h4
      · cases e2
    · cases e1
/-- the frozen part grows (by what stands in H, none of it owned) -/
theorem Abs.grow (A : Abs g H0 F S ρ H) (s : Same F F') (s' : Same F' H) (n : F' g.nb = none) (nt : ∀ a o, F' a = some o → NT o) (fr : ∀ a, F a = none → F' a ≠ none → Fr0 H0.H a) (no : ∀ (i : Nat) (t : T) (a : Addr), S.sl[i]? = some (.ow t) → ρ[i]? = some (some (.ref a)) → F' a = none) : Abs g H0 F' S ρ H := by
  obtain ⟨c, n1, n2⟩ := A.nib
  refine ⟨s', n, ⟨c, n1, s _ _ n2⟩, A.keep, fun a o q1 q0 q2 => ?_, A.ext.gr s nt, A.len, fun i s1 q h1 h2 => ?_, A.ds⟩
  · cases q : F' a with
    | none => rfl
    | some u => obtain ⟨ps, e⟩ := fr a (A.fre a o q1 q0 q2) (by rw [q]; simp) o q1; exact absurd e (q0 ps)
  have h := A.sl i s1 q h1 h2
  cases s1 with
  | no => trivial
  | fu => exact h
  | sh t => obtain ⟨v, e, r⟩ := h; exact ⟨v, e, r.mono s⟩
  | ow t =>
    obtain ⟨a, e, ⟨u, hu, mk⟩, f, h0, nn⟩ := h
    subst e
    exact ⟨a, rfl, ⟨u, hu, mk.mono s⟩, no i t a h1 h2, h0, nn⟩
/-- a slot's own object is frozen -/
theorem Abs.freeze {i : Nat} (A : Abs g H0 F S ρ H) (h : S.sl[i]? = some (.ow t)) : ∃ F', Same F F' ∧ Abs g H0 F' (S.put i (.sh t)) ρ H := by
  have hi : i < S.sl.length := (List.getElem?_eq_some_iff.mp h).1
  have hr : i < ρ.length := A.len ▸ hi
  have e0 : ρ[i]? = some ρ[i] := List.getElem?_eq_getElem hr
  obtain ⟨a, e, ⟨u, hu, mk⟩, f, h0, nn⟩ := A.sl i _ _ h e0
  rw [e] at e0
  have s : Same F (upd F a u) := fun b w q => by
    rw [upd_ne (show b ≠ a from fun z => by subst z; rw [f] at q; cases q)]; exact q
  have s' : Same (upd F a u) H := fun b w q => by
    by_cases hb : b = a
    · subst hb; rw [upd_same] at q; cases q; exact hu
    · rw [upd_ne hb] at q; exact A.fh b w q
  obtain ⟨c, n1, n2⟩ := A.nib
  refine ⟨upd F a u, s, s', by rw [upd_ne (Ne.symm nn)]; exact A.fn, ⟨c, n1, s _ _ n2⟩, A.keep, fun b w q1 q0 q2 => by rw [upd_ne (show b ≠ a from fun z => by subst z; obtain ⟨ps, e⟩ := h0 w q1; exact q0 ps e)]; exact A.fre b w q1 q0 q2, A.ext.gr s (nt_upd A.ext.nt mk.noT), by simp [PS0.put, A.len], fun j s1 q h1 h2 => ?_, fun j k t1 t2 b h1 h2 h3 h4 => ?_⟩
  · by_cases hj : i = j
    · subst hj
      rw [show (S.put i (.sh t)).sl = S.sl.set i (.sh t) from rfl, List.getElem?_set_self hi] at h1
      cases h1
      rw [e0] at h2
      cases h2
      exact ⟨_, rfl, (mk.mono s).rep upd_same⟩
    · rw [show (S.put i (.sh t)).sl = S.sl.set i (.sh t) from rfl, List.getElem?_set_ne hj] at h1
      have hh := A.sl j s1 q h1 h2
      cases s1 with
      | no => trivial
      | fu => exact hh
      | sh t => obtain ⟨v, e, r⟩ := hh; exact ⟨v, e, r.mono s⟩
      | ow t1 =>
        obtain ⟨b, e', ⟨u', hu', mk'⟩, f', h0', nn'⟩ := hh
        subst e'
        refine ⟨b, rfl, ⟨u', hu', mk'.mono s⟩, ?_, h0', nn'⟩
        rw [upd_ne (fun z => hj (A.ds i j _ _ b h h1 (by subst z; exact e0) h2))]
        exact f'
  · have ne : ∀ (j : Nat) (t1 : T), (S.put i (.sh t)).sl[j]? = some (.ow t1) → S.sl[j]? = some (.ow t1) := fun j t1 h1 => by
      by_cases hj : i = j
      · subst hj
        rw [show (S.put i (.sh t)).sl = S.sl.set i (.sh t) from rfl, List.getElem?_set_self hi] at h1
        cases h1
      · rwa [show (S.put i (.sh t)).sl = S.sl.set i (.sh t) from rfl, List.getElem?_set_ne hj] at h1
    exact A.ds j k t1 t2 b (ne _ _ h1) (ne _ _ h2) h3 h4
theorem put_push_top : (S.push x).put S.sl.length y = S.push y := by
  simp [PS0.put, PS0.push]
theorem Abs.freezeTop (A : Abs g H0 F (S.push (.ow t)) (ρ ++ [o]) H) : ∃ F', Same F F' ∧ Abs g H0 F' (S.push (.sh t)) (ρ ++ [o]) H := by
  obtain ⟨F', s, A'⟩ := A.freeze (i := S.sl.length) (t := t) (by show (S.sl ++ [_])[_]? = _; exact getE_snoc_last)
  rw [put_push_top] at A'
  exact ⟨F', s, A'⟩
/-- whatever the top is, as a shared value -/
def Slot.tree : Slot → Option T
  | .no => none
  | .fu => none
  | .sh t => some t
  | .ow t => some t
theorem Abs.shTop (A : Abs g H0 F (S.push x) (ρ ++ [o]) H) (e : x.tree = some t) : ∃ F', Same F F' ∧ Abs g H0 F' (S.push (.sh t)) (ρ ++ [o]) H := by
  cases x with
  | no => cases e
  | fu => cases e
  | sh t' => cases e; exact ⟨F, Same.refl F, A⟩
  | ow t' => cases e; exact A.freezeTop
theorem Abs.fr0 (A : Abs g H0 F S ρ H) (np : Fr0 H p) : Fr0 H0.H p := fun w q => by
  have hz : p ≠ g.nb := fun hz => by
    obtain ⟨c, n1, _⟩ := A.nib
    subst hz
    obtain ⟨ps, e⟩ := np _ n1
    cases e
  refine Classical.byContradiction fun z => ?_
  have n : NT w := fun ps e => z ⟨ps, e⟩
  exact z (np w (A.keep p w q n hz))
theorem Abs.fresh (A : Abs g H0 F S ρ H) (np : H p = none) : Fr0 H0.H p := by
  exact A.fr0 (fr0_none np)
/-- a new object of one's own -/
theorem Abs.newOw (A : Abs g H0 F S ρ H) {u : HO} (m : Mk g F u t) (np : H p = none) : Abs g H0 F (S.push (.ow t)) (ρ ++ [some (.ref p)]) (upd H p u) := by
  have st : Same H (upd H p u) := fun b w q => by rw [upd_ne (ne_of_none q np)]; exact q
  obtain ⟨c, n1, n2⟩ := A.nib
  have fp : F p = none := Same.free A.fh np
  refine ⟨A.fh.trans st, A.fn, ⟨c, st _ _ n1, n2⟩, fun a w q n0 n => st _ _ (A.keep a w q n0 n), A.fre, A.ext.st st, by simp [PS0.push, A.len], fun i s q h1 h2 => ?_, fun i j t1 t2 b h1 h2 h3 h4 => ?_⟩
  · rcases getE_snoc h1 with ⟨l1, e1⟩ | ⟨l1, e1⟩
    · rw [getE_snoc_lt (A.len ▸ l1)] at h2
      have h := A.sl i s q e1 h2
      cases s with
      | no => trivial
      | fu => exact h
      | sh t => exact h
      | ow t1 =>
        obtain ⟨a, e, ⟨w, hw, mk⟩, r⟩ := h
        exact ⟨a, e, ⟨w, st _ _ hw, mk⟩, r⟩
    · subst e1
      subst l1
      rw [A.len, getE_snoc_last] at h2
      cases h2
      refine ⟨p, rfl, ⟨u, upd_same, m⟩, fp, ?_, fun z => ?_⟩
      · exact A.fresh np
      · subst z; rw [n1] at np; cases np
  · have lt : ∀ (i : Nat) (t1 : T), S.sl[i]? = some (.ow t1) → (ρ ++ [some (V.ref p)])[i]? = some (some (.ref p)) → False := fun i t1 h1 h3 => by
      have l1 : i < S.sl.length := (List.getElem?_eq_some_iff.mp h1).1
      rw [getE_snoc_lt (A.len ▸ l1)] at h3
      obtain ⟨a, e, ⟨w, hw, _⟩, _⟩ := A.sl i _ _ h1 h3
      cases e
      rw [np] at hw; cases hw
    rcases getE_snoc h1 with ⟨l1, e1⟩ | ⟨l1, e1⟩
    · rcases getE_snoc h2 with ⟨l2, e2⟩ | ⟨l2, e2⟩
      · rw [getE_snoc_lt (A.len ▸ l1)] at h3
        rw [getE_snoc_lt (A.len ▸ l2)] at h4
        exact A.ds i j t1 t2 b e1 e2 h3 h4
      · subst l2
        rw [A.len, getE_snoc_last] at h4
        cases h4
        exact (lt i t1 e1 h3).elim
    · subst l1
      rw [A.len, getE_snoc_last] at h3
      cases h3
      rcases getE_snoc h2 with ⟨l2, e2⟩ | ⟨l2, e2⟩
      · exact (lt j t2 e2 h4).elim
      · exact l2.symm
theorem Abs.newT (A : Abs g H0 F S ρ H) {u : HO} {t : T} (m : ∀ F', Same F F' → F' p = some u → Rep g F' (.ref p) t) (nu : NT u) (np : H p = none) : ∃ F', Same F F' ∧ Abs g H0 F' (S.push (.sh t)) (ρ ++ [some (.ref p)]) (upd H p u) := by
  have st : Same H (upd H p u) := fun b w q => by rw [upd_ne (ne_of_none q np)]; exact q
  have fp : F p = none := Same.free A.fh np
  obtain ⟨c, n1, n2⟩ := A.nib
  have npn : p ≠ g.nb := fun z => by subst z; rw [n1] at np; cases np
  have sF : Same F (upd F p u) := fun b w q => by rw [upd_ne (ne_of_none q fp)]; exact q
  refine ⟨upd F p u, sF, ?_⟩
  have A1 : Abs g H0 F S ρ (upd H p u) := by
    refine ⟨A.fh.trans st, A.fn, ⟨c, st _ _ n1, n2⟩, fun a w q n0 n => st _ _ (A.keep a w q n0 n), A.fre, A.ext.st st, A.len, fun i s q h1 h2 => ?_, A.ds⟩
    have h := A.sl i s q h1 h2
    cases s with
    | no => trivial
    | fu => exact h
    | sh t => exact h
    | ow t1 =>
      obtain ⟨a, e, ⟨w, hw, mk⟩, r⟩ := h
      exact ⟨a, e, ⟨w, st _ _ hw, mk⟩, r⟩
  have A2 : Abs g H0 (upd F p u) S ρ (upd H p u) := by
    refine A1.grow sF (fun b w q => ?_) (by rw [upd_ne (Ne.symm npn)]; exact A.fn) (nt_upd A.ext.nt nu) (fun a q1 q2 => ?_) fun i t a h1 h2 => ?_
    · by_cases hb : b = p
      · subst hb; rw [upd_same] at q ⊢; exact q
      · rw [upd_ne hb] at q ⊢; exact A.fh b w q
    · by_cases hb : a = p
      · subst hb; exact A.fresh np
      · rw [upd_ne hb] at q2; exact absurd q1 q2
    · obtain ⟨a', e, ⟨w, hw, _⟩, f, _⟩ := A.sl i _ _ h1 h2
      cases e
      rw [upd_ne (ne_of_none hw np)]
      exact f
  exact A2.pushSh (m _ sF upd_same)
theorem Abs.newTup (A : Abs g H0 F S ρ H) {vs : List V} {ts : List T} {o : Obj} (m : RepAll g F vs ts) (np : H p = none) (hd : o.dict = none) : ∃ F', Same F F' ∧ Abs g H0 F' (S.push (.sh (.tup ts))) (ρ ++ [some (.ref p)]) (upd H p (.frz o (.tup vs))) :=
  A.newT (fun F' s e => .tup (.inl ⟨o, e, hd⟩) (m.mono s)) (fun _ z => nomatch z) np
theorem Abs.newWtp (A : Abs g H0 F S ρ H) {vs : List V} {ts : List T} (m : RepAll g F vs ts) (np : H p = none) : ∃ F', Same F F' ∧ Abs g H0 F' (S.push (.sh (.wtp ts))) (ρ ++ [some (.ref p)]) (upd H p (.tup vs)) :=
  A.newT (fun F' s e => .wtp (.inl (.inl e)) (m.mono s)) (fun _ z => nomatch z) np
/-- the top goes to a slot -/
theorem Abs.assign {σ τ : List (Option V)} {i : Nat} (A : Abs g H0 F (S.push x) (σ ++ τ ++ [some v]) H) (hi : i < σ.length) : Abs g H0 F (S.put i x) (σ.set i (some v) ++ τ) H := by
  have A0 := A.pop
  have hl := A0.len
  have hlen : i < S.sl.length := by rw [hl]; simp; omega
  have e : (σ.set i (some v) ++ τ) = (σ ++ τ).set i (some v) := by rw [List.set_append_left _ _ hi]
  rw [e]
  have hi2 : i < (σ ++ τ).length := by simp; omega
  refine ⟨A.fh, A.fn, A.nib, A.keep, A.fre, A.ext, by simp [PS0.put, hl], fun j s q h1 h2 => ?_, fun j k t1 t2 b h1 h2 h3 h4 => ?_⟩
  · by_cases hj : i = j
    · subst hj
      rw [show (S.put i x).sl = S.sl.set i x from rfl, List.getElem?_set_self hlen] at h1
      rw [List.getElem?_set_self hi2] at h2
      cases h1
      cases h2
      exact A.top
    · rw [show (S.put i x).sl = S.sl.set i x from rfl, List.getElem?_set_ne hj] at h1
      rw [List.getElem?_set_ne hj] at h2
      exact A0.sl j s q h1 h2
  · -- old places: i stands for the top
    have back : ∀ (j : Nat) (t1 : T), (S.put i x).sl[j]? = some (.ow t1) → ((σ ++ τ).set i (some v))[j]? = some (some (.ref b)) →
        ∃ j', (S.push x).sl[j']? = some (.ow t1) ∧ (σ ++ τ ++ [some v])[j']? = some (some (.ref b)) ∧ (j = if j' = S.sl.length then i else j') := fun j t1 h1 h3 => by
      by_cases hj : i = j
      · subst hj
        rw [show (S.put i x).sl = S.sl.set i x from rfl, List.getElem?_set_self hlen] at h1
        rw [List.getElem?_set_self hi2] at h3
        cases h1
        refine ⟨S.sl.length, by show (S.sl ++ [_])[_]? = _; exact getE_snoc_last, ?_, by simp⟩
        rw [hl, getE_snoc_last]
        exact h3
      · rw [show (S.put i x).sl = S.sl.set i x from rfl, List.getElem?_set_ne hj] at h1
        rw [List.getElem?_set_ne hj] at h3
        have l1 : j < S.sl.length := (List.getElem?_eq_some_iff.mp h1).1
        refine ⟨j, by show (S.sl ++ [_])[_]? = _; rw [getE_snoc_lt l1]; exact h1, by rw [getE_snoc_lt (hl ▸ l1)]; exact h3, ?_⟩
        rw [if_neg (by omega)]
    obtain ⟨j', p1, p2, p3⟩ := back j t1 h1 h3
    obtain ⟨k', q1, q2, q3⟩ := back k t2 h2 h4
    have := A.ds j' k' t1 t2 b p1 q1 p2 q2
    rw [p3, q3, this]
/-- an own object is changed -/
theorem Abs.change {i : Nat} {t' : T} (A : Abs g H0 F S ρ H) (h : S.sl[i]? = some (.ow t)) (h2 : ρ[i]? = some (some (.ref a))) {u' : HO} (m : Mk g F u' t') : Abs g H0 F (S.put i (.ow t')) ρ (upd H a u') := by
  have hi : i < S.sl.length := (List.getElem?_eq_some_iff.mp h).1
  obtain ⟨a', e, ⟨u, hu, mk⟩, f, h0, nn⟩ := A.sl i _ _ h h2
  cases e
  obtain ⟨c, n1, n2⟩ := A.nib
  refine ⟨fun b w q => ?_, A.fn, ⟨c, ?_, n2⟩, fun b w q n0 n => ?_, fun b w q n0 n => ?_, ⟨A.ext.bs, A.ext.nt, tabs_chg A.ext.tabs hu mk.noT mk.noC, A.ext.cel.upd nn⟩, by simp [PS0.put, A.len], fun j s q h1 h3 => ?_, fun j k t1 t2 b h1 h3 h4 h5 => ?_⟩
  · rw [upd_ne (show b ≠ a from fun z => by subst z; rw [f] at q; cases q)]; exact A.fh b w q
  · rw [upd_ne (Ne.symm nn)]; exact n1
  · rw [upd_ne (show b ≠ a from fun z => by subst z; obtain ⟨ps, e⟩ := h0 w q; exact n0 ps e)]; exact A.keep b w q n0 n
  · exact A.fre b w q n0 n
  · by_cases hj : i = j
    · subst hj
      rw [show (S.put i (.ow t')).sl = S.sl.set i (.ow t') from rfl, List.getElem?_set_self hi] at h1
      cases h1
      rw [h2] at h3
      cases h3
      exact ⟨a, rfl, ⟨u', upd_same, m⟩, f, h0, nn⟩
    · rw [show (S.put i (.ow t')).sl = S.sl.set i (.ow t') from rfl, List.getElem?_set_ne hj] at h1
      have hh := A.sl j s q h1 h3
      cases s with
      | no => trivial
      | fu => exact hh
      | sh t => exact hh
      | ow t1 =>
        obtain ⟨b, e', ⟨u2, hu2, mk2⟩, r⟩ := hh
        subst e'
        exact ⟨b, rfl, ⟨u2, by rw [upd_ne (show b ≠ a from fun z => hj (A.ds i j _ _ b h h1 (by subst z; exact h2) h3))]; exact hu2, mk2⟩, r⟩
  · have ne : ∀ (j : Nat) (t1 : T), (S.put i (.ow t')).sl[j]? = some (.ow t1) → ∃ t0, S.sl[j]? = some (.ow t0) := fun j t1 h1 => by
      by_cases hj : i = j
      · subst hj; exact ⟨_, h⟩
      · rw [show (S.put i (.ow t')).sl = S.sl.set i (.ow t') from rfl, List.getElem?_set_ne hj] at h1
        exact ⟨_, h1⟩
    obtain ⟨t3, h1'⟩ := ne _ _ h1
    obtain ⟨t4, h3'⟩ := ne _ _ h3
    exact A.ds j k t3 t4 b h1' h3' h4 h5
end
end TL

end
section
set_option Elab.async false
set_option linter.all false
set_option maxRecDepth 100000
set_option autoImplicit false
/-! TL2: readings by semantic functions; names, constants, operators, tests -/
open PySem PySem.Spec PyProof.Rows L2
namespace TL

structure Sta where
  lo : List Slot
  gh : List Slot
  nb : Nib
inductive R (α : Type) where
  | ok (a : α) (S : Sta) | exc (e : Ex) (S : Sta) | stuck
def R.bind {α β : Type} (r : R α) (k : α → Sta → R β) : R β := match r with
  | .ok a S => k a S
  | .exc e S => .exc e S
  | .stuck => .stuck
@[simp] theorem R.bind_ok {α β : Type} (a : α) (S : Sta) (k : α → Sta → R β) : (R.ok a S).bind k = k a S := rfl
@[simp] theorem R.bind_stuck {α β : Type} (k : α → Sta → R β) : (R.stuck : R α).bind k = R.stuck := rfl
def Sta.z (S : Sta) : PS0 := ⟨S.lo ++ S.gh, S.nb⟩
def Sta.push (S : Sta) (x : Slot) : Sta := { S with gh := S.gh ++ [x] }
def Sta.put (S : Sta) (i : Nat) (x : Slot) : Sta := { S with lo := S.lo.set i x }
theorem Sta.z_push (S : Sta) (x : Slot) : (S.push x).z = S.z.push x := by simp [Sta.z, Sta.push, PS0.push]
theorem Sta.z_put {S : Sta} {i : Nat} {x : Slot} (h : i < S.lo.length) : (S.put i x).z = S.z.put i x := by simp [Sta.z, Sta.put, PS0.put, List.set_append_left _ _ h]

/-- what is fixed through a def's run -/
structure Cfg where
  g : Ga
  B : Bs
  E : List (Option V) → XK
structure AbsX (c : Cfg) (F : Hp) (S : Sta) (σ τ : List (Option V)) (H : Hp) : Prop where
  a : Abs c.g c.B F S.z (σ ++ τ) H
  l : S.lo.length = σ.length
/-- an error in the air: its dict is new since B -/
def ExRel (g : Ga) (B F H : Hp) (e : Ex) (cls : Value) (d : Option Addr) : Prop := cls = .ref (g.ca e.cls) ∧ ∃ a fs, d = some a ∧ Fr0 B a ∧ H a = some (.xd fs) ∧ RepF g F fs e.fs

section
variable {c : Cfg} {F F' F1 H : Hp} {S S' : Sta} {σ τ : List (Option V)} {x : Slot} {v : V} {o : Option V} {t : T}
theorem AbsX.gl (A : AbsX c F S σ τ H) : S.gh.length = τ.length := by
  have h1 := A.a.len
  have h2 := A.l
  simp [Sta.z] at h1
  omega
theorem AbsX.pop (A : AbsX c F (S.push x) σ (τ ++ [o]) H) : AbsX c F S σ τ H := by
  refine ⟨?_, A.l⟩
  have h := A.a
  rw [Sta.z_push, ← List.append_assoc] at h
  exact h.pop
theorem AbsX.mk' (h : Abs c.g c.B F (S.z.push x) (σ ++ τ ++ [o]) H) (l : S.lo.length = σ.length) : AbsX c F (S.push x) σ (τ ++ [o]) H :=
  ⟨by rw [Sta.z_push, ← List.append_assoc]; exact h, l⟩
theorem AbsX.as (A : AbsX c F (S.push x) σ (τ ++ [o]) H) : Abs c.g c.B F (S.z.push x) (σ ++ τ ++ [o]) H := by
  have h := A.a
  rw [Sta.z_push, ← List.append_assoc] at h
  exact h
theorem AbsX.pushSh (A : AbsX c F S σ τ H) (r : Rep c.g F v t) : AbsX c F (S.push (.sh t)) σ (τ ++ [some v]) H := .mk' (A.a.pushSh r) A.l
theorem AbsX.topSh (A : AbsX c F (S.push (.sh t)) σ (τ ++ [some v]) H) : Rep c.g F v t := A.as.topSh
theorem AbsX.shTop (A : AbsX c F (S.push x) σ (τ ++ [o]) H) (e : x.tree = some t) : ∃ F', Same F F' ∧ AbsX c F' (S.push (.sh t)) σ (τ ++ [o]) H := by
  obtain ⟨F', s, A'⟩ := A.as.shTop e
  exact ⟨F', s, .mk' A' A.l⟩
theorem AbsX.newOw {u : HO} {p : Addr} (A : AbsX c F S σ τ H) (m : Mk c.g F u t) (np : H p = none) : AbsX c F (S.push (.ow t)) σ (τ ++ [some (.ref p)]) (upd H p u) := .mk' (A.a.newOw m np) A.l
theorem AbsX.newTup {vs : List V} {ts : List T} {p : Addr} {o : Obj} (A : AbsX c F S σ τ H) (m : RepAll c.g F vs ts) (np : H p = none) (hd : o.dict = none) : ∃ F', Same F F' ∧ AbsX c F' (S.push (.sh (.tup ts))) σ (τ ++ [some (.ref p)]) (upd H p (.frz o (.tup vs))) := by
  obtain ⟨F', s, A'⟩ := A.a.newTup m np hd
  exact ⟨F', s, .mk' A' A.l⟩
theorem AbsX.newWtp {vs : List V} {ts : List T} {p : Addr} (A : AbsX c F S σ τ H) (m : RepAll c.g F vs ts) (np : H p = none) : ∃ F', Same F F' ∧ AbsX c F' (S.push (.sh (.wtp ts))) σ (τ ++ [some (.ref p)]) (upd H p (.tup vs)) := by
  obtain ⟨F', s, A'⟩ := A.a.newWtp m np
  exact ⟨F', s, .mk' A' A.l⟩
theorem AbsX.slot {i : Nat} {s : Slot} (A : AbsX c F S σ τ H) (h : S.lo[i]? = some s) : ∃ o, σ[i]? = some o ∧ SlotRel c.g F H c.B s o := by
  have hi : i < S.lo.length := (List.getElem?_eq_some_iff.mp h).1
  have hi2 : i < σ.length := A.l ▸ hi
  refine ⟨σ[i], List.getElem?_eq_getElem hi2, ?_⟩
  refine A.a.sl i s _ (by show (S.lo ++ S.gh)[i]? = _; rw [List.getElem?_append_left hi]; exact h) ?_
  rw [List.getElem?_append_left hi2]
  exact List.getElem?_eq_getElem hi2
theorem AbsX.assign {i : Nat} (A : AbsX c F (S.push x) σ (τ ++ [some v]) H) (hi : i < σ.length) : AbsX c F (S.put i x) (σ.set i (some v)) τ H := by
  have l : S.lo.length = σ.length := A.l
  refine ⟨?_, by simp [Sta.put, l]⟩
  rw [Sta.z_put (l ▸ hi)]
  exact A.as.assign hi
theorem AbsX.freeze {i : Nat} (A : AbsX c F S σ τ H) (h : S.lo[i]? = some (.ow t)) : ∃ F', Same F F' ∧ AbsX c F' (S.put i (.sh t)) σ τ H := by
  have hi : i < S.lo.length := (List.getElem?_eq_some_iff.mp h).1
  obtain ⟨F', s, A'⟩ := A.a.freeze (i := i) (t := t) (by show (S.lo ++ S.gh)[i]? = _; rw [List.getElem?_append_left hi]; exact h)
  exact ⟨F', s, by rw [Sta.z_put hi]; exact A', by simp [Sta.put, A.l]⟩
theorem AbsX.change {i : Nat} {a : Addr} {t' : T} {u' : HO} (A : AbsX c F S σ τ H) (h : S.lo[i]? = some (.ow t)) (h2 : σ[i]? = some (some (.ref a))) (m : Mk c.g F u' t') : AbsX c F (S.put i (.ow t')) σ τ (upd H a u') := by
  have hi : i < S.lo.length := (List.getElem?_eq_some_iff.mp h).1
  refine ⟨?_, by simp [Sta.put, A.l]⟩
  rw [Sta.z_put hi]
  refine A.a.change (i := i) (t := t) (by show (S.lo ++ S.gh)[i]? = _; rw [List.getElem?_append_left hi]; exact h) ?_ m
  rw [List.getElem?_append_left (A.l ▸ hi)]
  exact h2
end

/-! ### operands -/
inductive Opd where
  | val (t : T) | pl (i : Nat)
def Opd.get (S : Sta) : Opd → Option T
  | .val t => some t
  | .pl i => (S.lo[i]?).bind Slot.tree
def OpdRel (g : Ga) (F : Hp) (σ : List (Option V)) : Opd → V → Prop
  | .val t, v => Rep g F v t
  | .pl i, v => σ[i]? = some (some v)
/-- read now: it stands in F, or its top stands in H alone -/
def PRep (g : Ga) (F H : Hp) (v : V) (t : T) : Prop := Rep g F v t ∨ ∃ a u, v = .ref a ∧ H a = some u ∧ Mk g F u t
inductive OpdAll (g : Ga) (F : Hp) (σ : List (Option V)) : List Opd → List V → Prop
  | nil : OpdAll g F σ [] []
  | cons {o : Opd} {v : V} {os : List Opd} {vs : List V} : OpdRel g F σ o v → OpdAll g F σ os vs → OpdAll g F σ (o :: os) (v :: vs)
inductive PRepAll (g : Ga) (F H : Hp) : List V → List T → Prop
  | nil : PRepAll g F H [] []
  | cons {v : V} {t : T} {vs : List V} {ts : List T} : PRep g F H v t → PRepAll g F H vs ts → PRepAll g F H (v :: vs) (t :: ts)
def gets (S : Sta) : List Opd → Option (List T)
  | [] => some []
  | o :: os => (o.get S).bind fun t => (gets S os).map (t :: ·)
section
variable {c : Cfg} {F F' F1 H : Hp} {S S' : Sta} {σ τ : List (Option V)} {o : Opd} {v : V} {t : T}
theorem OpdRel.mono (s : Same F F') (h : OpdRel c.g F σ o v) : OpdRel c.g F' σ o v := by
  cases o with
  | val t => exact Rep.mono s h
  | pl i => exact h
theorem OpdAll.mono (s : Same F F') : ∀ {os : List Opd} {vs : List V}, OpdAll c.g F σ os vs → OpdAll c.g F' σ os vs
  | _, _, .nil => .nil
  | _, _, .cons a b => .cons (a.mono s) (OpdAll.mono s b)
theorem AbsX.opd (A : AbsX c F S σ τ H) (h : OpdRel c.g F σ o v) (e : o.get S = some t) : PRep c.g F H v t := by
  cases o with
  | val t' => cases e; exact .inl h
  | pl i =>
    have h : σ[i]? = some (some v) := h
    cases q : S.lo[i]? with
    | none => simp [Opd.get, q] at e
    | some s =>
      simp [Opd.get, q] at e
      obtain ⟨w, hw, r⟩ := A.slot q
      rw [h] at hw
      cases hw
      cases s with
      | no => cases e
      | fu => cases e
      | sh t' =>
        cases e
        obtain ⟨_, e1, r⟩ := r
        cases e1
        exact .inl r
      | ow t' =>
        cases e
        obtain ⟨a, e1, ⟨u, hu, m⟩, _⟩ := r
        cases e1
        exact .inr ⟨a, u, rfl, hu, m⟩
theorem AbsX.opds (A : AbsX c F S σ τ H) : ∀ {os : List Opd} {vs : List V} {ts : List T}, OpdAll c.g F σ os vs → gets S os = some ts → PRepAll c.g F H vs ts
  | _, _, _, .nil, e => by cases e; exact .nil
  | o :: os, _, _, .cons a b, e => by
    cases q : o.get S with
    | none => simp [gets, q] at e
    | some t =>
      cases q2 : gets S os with
      | none => simp [gets, q, q2] at e
      | some ts =>
        simp [gets, q, q2] at e
        subst e
        exact .cons (A.opd a q) (A.opds b q2)
end

/-! ### readings -/
inductive Flow where
  | nx | rt (x : Slot) | bk | ct
def rOut {α : Type} (c : Cfg) (F : Hp) (σ τ : List (Option V)) (P : α → Sta → Hp → Hp → Prop) : R α → Prop
  | .ok a S => ∀ H' F', Same F F' → P a S F' H'
  | .exc e S => ∀ cls d H' F', Same F F' → AbsX c F' S σ τ H' → ExRel c.g c.B.H F' H' e cls d → c.E σ cls d H'
  | .stuck => False
theorem rOut.mono {α : Type} {c : Cfg} {F F1 : Hp} {σ τ : List (Option V)} {P : α → Sta → Hp → Hp → Prop} (s : Same F F1) : ∀ {r : R α}, rOut c F σ τ P r → rOut c F1 σ τ P r
  | .ok _ _, h => fun H' F' s' => h H' F' (s.trans s')
  | .exc _ _, h => fun cls d H' F' s' => h cls d H' F' (s.trans s')
  | .stuck, h => h
theorem rOut.bind {α β : Type} {c : Cfg} {F : Hp} {σ τ : List (Option V)} {P1 : α → Sta → Hp → Hp → Prop} {P2 : β → Sta → Hp → Hp → Prop} {r : R α} {k : α → Sta → R β} (h : rOut c F σ τ P2 (r.bind k))
    (K : ∀ a S F' H', Same F F' → rOut c F' σ τ P2 (k a S) → P1 a S F' H') : rOut c F σ τ P1 r := by
  cases r with
  | ok a S =>
    intro H' F' s
    exact K a S F' H' s (rOut.mono s h)
  | exc e S => exact h
  | stuck => exact h

abbrev EF := Sta → R Slot
abbrev OF := Sta → R Opd
abbrev TF := Sta → R Bool
abbrev AF := Sta → R (List Opd)
abbrev SF := Sta → R Flow
def eP (c : Cfg) (σ τ : List (Option V)) (Q : VK) : Slot → Sta → Hp → Hp → Prop := fun x S F' H' => ∀ v, AbsX c F' (S.push x) σ (τ ++ [some v]) H' → Q v H'
def oP (c : Cfg) (σ τ : List (Option V)) (Q : VK) : Opd → Sta → Hp → Hp → Prop := fun o S F' H' => ∀ v, AbsX c F' S σ τ H' → OpdRel c.g F' σ o v → Q v H'
def tP (c : Cfg) (σ τ : List (Option V)) (Q : Bool → Hp → Prop) : Bool → Sta → Hp → Hp → Prop := fun b S F' H' => AbsX c F' S σ τ H' → Q b H'
def aP (c : Cfg) (σ τ : List (Option V)) (Q : List V → Hp → Prop) : List Opd → Sta → Hp → Hp → Prop := fun os S F' H' => ∀ vs, AbsX c F' S σ τ H' → OpdAll c.g F' σ os vs → Q vs H'
def rdE (c : Cfg) (f : EF) : TE := fun σ H Q => ∃ τ F S, AbsX c F S σ τ H ∧ rOut c F σ τ (eP c σ τ Q) (f S)
def rdO (c : Cfg) (f : OF) : TE := fun σ H Q => ∃ τ F S, AbsX c F S σ τ H ∧ rOut c F σ τ (oP c σ τ Q) (f S)
def rdT (c : Cfg) (f : TF) : TT := fun σ H Q => ∃ τ F S, AbsX c F S σ τ H ∧ rOut c F σ τ (tP c σ τ Q) (f S)
def rdA (c : Cfg) (f : AF) : TA := fun σ H Q => ∃ τ F S, AbsX c F S σ τ H ∧ rOut c F σ τ (aP c σ τ Q) (f S)

theorem PE.imp {X : Cx} {e : Expr} {t t' : TE} (h : PE X e t) (w : ∀ σ H Q, t' σ H Q → t σ H Q) : PE X e t' := ⟨fun pins s σ H Q I q => h.run pins s σ H Q I (w σ H Q q)⟩
theorem PT.imp {X : Cx} {e : Expr} {t t' : TT} (h : PT X e t) (w : ∀ σ H Q, t' σ H Q → t σ H Q) : PT X e t' := ⟨fun pins s σ H Q I q => h.run pins s σ H Q I (w σ H Q q)⟩
theorem PW.imp {X : Cx} {e : Expr} {t t' : TT} (h : PW X e t) (w : ∀ σ H Q, t' σ H Q → t σ H Q) : PW X e t' := ⟨fun wh pins s σ H Q I q => h.run wh pins s σ H Q I (w σ H Q q)⟩
theorem PA.imp {X : Cx} {e : List Expr} {t t' : TA} (h : PA X e t) (w : ∀ σ H Q, t' σ H Q → t σ H Q) : PA X e t' := ⟨fun p pins s σ H Q I q => h.run p pins s σ H Q I (w σ H Q q)⟩
theorem ps_imp {X : Cx} {e : Stmt} {t t' : TS} (h : PS X e t) (w : ∀ D σ H, t' D σ H → t D σ H) : PS X e t' := ⟨fun pins s σ H D I q => h.run pins s σ H D I (w D σ H q)⟩

end TL

end
section
set_option Elab.async false
set_option linter.all false
set_option maxRecDepth 100000
set_option autoImplicit false
/-! TL3: expressions -/
open PySem PySem.Spec PyProof.Rows L2
namespace TL
def sz : Nat := 16777216
theorem sz_eq : sz = sizeLine := sizeLine_eq.symm

/-! ### names, constants -/
def var (i : Nat) : OF := fun S => match S.lo[i]? with
  | some (.sh t) => .ok (.val t) S
  | some (.ow _) => .ok (.pl i) S
  | _ => .stuck
def varE (i : Nat) : EF := fun S => match S.lo[i]? with
  | some (.sh t) => .ok (.sh t) S
  | some (.ow t) => .ok (.sh t) (S.put i (.sh t))
  | _ => .stuck
/-- handed out for good: the slot is left without it -/
def varR (i : Nat) : EF := fun S => match S.lo[i]? with
  | some (.sh t) => .ok (.sh t) S
  | some (.ow t) => .ok (.ow t) (S.put i .no)
  | _ => .stuck
def con (t : T) : EF := fun S => .ok (.sh t) S
def opE (f : EF) : OF := fun S => (f S).bind fun x S1 => match x.tree with
  | some t => .ok (.val t) S1
  | none => .stuck
section
variable {X : Cx} {c : Cfg} {e a b : Expr} {es : List Expr} {pos : Pos}
theorem do_var {i : Nat} {x : Str} (h : PE X (.Name x pos) (tVar i)) : PE X (.Name x pos) (rdO c (var i)) := by
  refine PE.imp h fun σ H Q q => ?_
  obtain ⟨τ, F, S, A, q⟩ := q
  unfold var at q
  split at q
  · rename_i t e
    obtain ⟨o, h1, w, h2, r⟩ := A.slot e
    subst h2
    exact ⟨w, h1, q H F (Same.refl F) w A r⟩
  · rename_i t e
    obtain ⟨o, h1, w, h2, r⟩ := A.slot e
    subst h2
    exact ⟨_, h1, q H F (Same.refl F) _ A h1⟩
  · exact q.elim
theorem de_var {i : Nat} {x : Str} (h : PE X (.Name x pos) (tVar i)) : PE X (.Name x pos) (rdE c (varE i)) := by
  refine PE.imp h fun σ H Q q => ?_
  obtain ⟨τ, F, S, A, q⟩ := q
  unfold varE at q
  split at q
  · rename_i t e
    obtain ⟨o, h1, w, h2, r⟩ := A.slot e
    subst h2
    exact ⟨w, h1, q H F (Same.refl F) w (A.pushSh r)⟩
  · rename_i t e
    obtain ⟨F', s, A'⟩ := A.freeze e
    have hi : i < S.lo.length := (List.getElem?_eq_some_iff.mp e).1
    obtain ⟨o, h1, w, h2, r⟩ := A'.slot (i := i) (s := .sh t) (by show (S.lo.set i _)[i]? = _; rw [List.getElem?_set_self hi])
    subst h2
    exact ⟨w, h1, q H F' s w (A'.pushSh r)⟩
  · exact q.elim
theorem Abs.release {g : Ga} {H0 : Bs} {F H : Hp} {S : PS0} {ρ : List (Option V)} {t : T} {i : Nat} (A : Abs g H0 F S ρ H) (h : S.sl[i]? = some (.ow t)) : ∃ o, ρ[i]? = some o ∧ Abs g H0 F ((S.put i .no).push (.ow t)) (ρ ++ [o]) H := by
  have hi : i < S.sl.length := (List.getElem?_eq_some_iff.mp h).1
  have hr : i < ρ.length := A.len ▸ hi
  have e0 : ρ[i]? = some ρ[i] := List.getElem?_eq_getElem hr
  refine ⟨ρ[i], e0, A.fh, A.fn, A.nib, A.keep, A.fre, A.ext, by simp [PS0.put, PS0.push, A.len], fun j s q h1 h2 => ?_, fun j k t1 t2 b h1 h2 h3 h4 => ?_⟩
  · rcases getE_snoc h1 with ⟨l1, e1⟩ | ⟨l1, e1⟩
    · have l2 : j < ρ.length := by simp [PS0.put] at l1; rw [← A.len]; exact l1
      rw [getE_snoc_lt l2] at h2
      by_cases hj : i = j
      · subst hj
        rw [show (S.put i .no).sl = S.sl.set i .no from rfl, List.getElem?_set_self hi] at e1
        cases e1
        trivial
      · rw [show (S.put i .no).sl = S.sl.set i .no from rfl, List.getElem?_set_ne hj] at e1
        exact A.sl j s q e1 h2
    · subst e1
      subst l1
      rw [show (S.put i Slot.no).sl.length = ρ.length by simp [PS0.put, A.len], getE_snoc_last] at h2
      cases h2
      exact A.sl i _ _ h e0
  · have back : ∀ (j : Nat) (t1 : T), ((S.put i .no).push (.ow t)).sl[j]? = some (.ow t1) → (ρ ++ [ρ[i]])[j]? = some (some (.ref b)) →
        ∃ (j' : Nat) (t' : T), S.sl[j']? = some (.ow t') ∧ ρ[j']? = some (some (.ref b)) ∧ (j = if j' = i then S.sl.length else j') := fun j t1 h1 h3 => by
      rcases getE_snoc h1 with ⟨l1, e1⟩ | ⟨l1, e1⟩
      · have l2 : j < ρ.length := by simp [PS0.put] at l1; rw [← A.len]; exact l1
        rw [getE_snoc_lt l2] at h3
        by_cases hj : i = j
        · subst hj
          rw [show (S.put i .no).sl = S.sl.set i .no from rfl, List.getElem?_set_self hi] at e1
          cases e1
        · rw [show (S.put i .no).sl = S.sl.set i .no from rfl, List.getElem?_set_ne hj] at e1
          exact ⟨j, t1, e1, h3, by rw [if_neg (Ne.symm hj)]⟩
      · subst l1
        rw [show (S.put i Slot.no).sl.length = ρ.length by simp [PS0.put, A.len], getE_snoc_last] at h3
        exact ⟨i, t, h, e0.trans h3, by simp [PS0.put]⟩
    obtain ⟨j', _, p1, p2, p3⟩ := back j t1 h1 h3
    obtain ⟨k', _, q1, q2, q3⟩ := back k t2 h2 h4
    have := A.ds j' k' _ _ b p1 q1 p2 q2
    rw [p3, q3, this]
theorem de_varR {i : Nat} {x : Str} (h : PE X (.Name x pos) (tVar i)) : PE X (.Name x pos) (rdE c (varR i)) := by
  refine PE.imp h fun σ H Q q => ?_
  obtain ⟨τ, F, S, A, q⟩ := q
  unfold varR at q
  split at q
  · rename_i t e
    obtain ⟨o, h1, w, h2, r⟩ := A.slot e
    subst h2
    exact ⟨w, h1, q H F (Same.refl F) w (A.pushSh r)⟩
  · rename_i t e
    obtain ⟨o, h1, w, h2, r⟩ := A.slot e
    subst h2
    have hi : i < S.lo.length := (List.getElem?_eq_some_iff.mp e).1
    obtain ⟨o, h3, A'⟩ := A.a.release (i := i) (t := t) (by show (S.lo ++ S.gh)[i]? = _; rw [List.getElem?_append_left hi]; exact e)
    rw [List.getElem?_append_left (A.l ▸ hi), h1] at h3
    cases h3
    exact ⟨_, h1, q H F (Same.refl F) _ (.mk' (by rw [Sta.z_put hi]; exact A') (by simp [Sta.put, A.l]))⟩
  · exact q.elim
theorem de_con {v : V} {t : T} (h : PE X e (tC v)) (r : ∀ F, Rep c.g F v t) : PE X e (rdE c (con t)) := by
  refine PE.imp h fun σ H Q q => ?_
  obtain ⟨τ, F, S, A, q⟩ := q
  exact q H F (Same.refl F) v (A.pushSh (r F))
theorem do_of {f : EF} (h : PE X e (rdE c f)) : PE X e (rdO c (opE f)) := by
  refine PE.imp h fun σ H Q q => ?_
  obtain ⟨τ, F, S, A, q⟩ := q
  refine ⟨τ, F, S, A, rOut.bind q fun x S1 F1 H1 s1 q1 v A1 => ?_⟩
  split at q1
  · rename_i t e
    obtain ⟨F2, s2, A2⟩ := A1.shTop e
    exact q1 H1 F2 s2 v A2.pop A2.topSh
  · exact q1.elim

/-! ### argument lists -/
def nilA : AF := fun S => .ok [] S
def consA (f : OF) (r : AF) : AF := fun S => (f S).bind fun o S1 => (r S1).bind fun os S2 => .ok (o :: os) S2
theorem da_nil : PA X [] (rdA c nilA) := by
  refine PA.imp pa_nil fun σ H Q q => ?_
  obtain ⟨τ, F, S, A, q⟩ := q
  exact q H F (Same.refl F) [] A .nil
theorem da_cons {f : OF} {r : AF} (h : PE X e (rdO c f)) (hr : PA X es (rdA c r)) (hs : starEach (e :: es) X.env = (false, eval e X.env) :: starEach es X.env := by rfl) : PA X (e :: es) (rdA c (consA f r)) := by
  refine PA.imp (pa_cons h hr hs) fun σ H Q q => ?_
  obtain ⟨τ, F, S, A, q⟩ := q
  refine ⟨τ, F, S, A, rOut.bind q fun o S1 F1 H1 s1 q1 v A1 r1 => ⟨τ, F1, S1, A1, rOut.bind q1 fun os S2 F2 H2 s2 q2 vs A2 r2 => ?_⟩⟩
  exact q2 H2 F2 (Same.refl F2) (v :: vs) A2 (.cons (r1.mono s2) r2)

/-! ### operators -/
def Op2 (c : Cfg) (r : R2) (p : T → T → Option Slot) : Prop := ∀ (F : Hp) (S : Sta) (σ τ : List (Option V)) (H : Hp) (x y : V) (t u : T) (z : Slot) (Q : VK), AbsX c F S σ τ H → PRep c.g F H x t → PRep c.g F H y u → p t u = some z →
  (∀ v H' F', Same F F' → AbsX c F' (S.push z) σ (τ ++ [some v]) H' → Q v H') → r x y H Q
def Op1 (c : Cfg) (r : V → Hp → VK → Prop) (p : T → Option Slot) : Prop := ∀ (F : Hp) (S : Sta) (σ τ : List (Option V)) (H : Hp) (x : V) (t : T) (z : Slot) (Q : VK), AbsX c F S σ τ H → PRep c.g F H x t → p t = some z →
  (∀ v H' F', Same F F' → AbsX c F' (S.push z) σ (τ ++ [some v]) H' → Q v H') → r x H Q
def OpN (c : Cfg) (r : List V → Hp → VK → Prop) (p : List T → Option Slot) : Prop := ∀ (F : Hp) (S : Sta) (σ τ : List (Option V)) (H : Hp) (xs : List V) (ts : List T) (z : Slot) (Q : VK), AbsX c F S σ τ H → PRepAll c.g F H xs ts → p ts = some z →
  (∀ v H' F', Same F F' → AbsX c F' (S.push z) σ (τ ++ [some v]) H' → Q v H') → r xs H Q
def res (z : Option Slot) (S : Sta) : R Slot := match z with
  | some z => .ok z S
  | none => .stuck
def op2 (p : T → T → Option Slot) (a b : OF) : EF := fun S => (a S).bind fun o S1 => (b S1).bind fun o' S2 => match o.get S2, o'.get S2 with
  | some t, some u => res (p t u) S2
  | _, _ => .stuck
def op1 (p : T → Option Slot) (a : OF) : EF := fun S => (a S).bind fun o S1 => match o.get S1 with
  | some t => res (p t) S1
  | _ => .stuck
def opN (p : List T → Option Slot) (a : AF) : EF := fun S => (a S).bind fun os S1 => match gets S1 os with
  | some ts => res (p ts) S1
  | _ => .stuck
theorem op2_out {r : R2} {p : T → T → Option Slot} {fa fb : OF} (hp : Op2 c r p) {σ : List (Option V)} {H : Hp} {Q : VK} (h : rdE c (op2 p fa fb) σ H Q) : tOp r (rdO c fa) (rdO c fb) σ H Q := by
  obtain ⟨τ, F, S, A, q⟩ := h
  refine ⟨τ, F, S, A, rOut.bind q fun o S1 F1 H1 s1 q1 v A1 r1 => ⟨τ, F1, S1, A1, rOut.bind q1 fun o2 S2 F2 H2 s2 q2 w A2 r2 => ?_⟩⟩
  cases e1 : o.get S2 with
  | none => simp only [e1] at q2; exact q2.elim
  | some t =>
    cases e2 : o2.get S2 with
    | none => simp only [e1, e2] at q2; exact q2.elim
    | some u =>
      simp only [e1, e2] at q2
      unfold res at q2
      split at q2
      · rename_i z hz
        exact hp F2 S2 σ τ H2 v w t u z Q A2 (A2.opd (r1.mono s2) e1) (A2.opd r2 e2) hz fun v' H' F' s' A' => q2 H' F' s' v' A'
      · exact q2.elim
theorem op1_out {r : V → Hp → VK → Prop} {p : T → Option Slot} {fa : OF} (hp : Op1 c r p) {σ : List (Option V)} {H : Hp} {Q : VK} (h : rdE c (op1 p fa) σ H Q) : rdO c fa σ H fun x H1 => r x H1 Q := by
  obtain ⟨τ, F, S, A, q⟩ := h
  refine ⟨τ, F, S, A, rOut.bind q fun o S1 F1 H1 s1 q1 v A1 r1 => ?_⟩
  cases e1 : o.get S1 with
  | none => simp only [e1] at q1; exact q1.elim
  | some t =>
    simp only [e1] at q1
    unfold res at q1
    split at q1
    · rename_i z hz
      exact hp F1 S1 σ τ H1 v t z Q A1 (A1.opd r1 e1) hz fun v' H' F' s' A' => q1 H' F' s' v' A'
    · exact q1.elim
theorem opN_out {r : List V → Hp → VK → Prop} {p : List T → Option Slot} {fa : AF} (hp : OpN c r p) {σ : List (Option V)} {H : Hp} {Q : VK} (h : rdE c (opN p fa) σ H Q) : rdA c fa σ H fun x H1 => r x H1 Q := by
  obtain ⟨τ, F, S, A, q⟩ := h
  refine ⟨τ, F, S, A, rOut.bind q fun o S1 F1 H1 s1 q1 v A1 r1 => ?_⟩
  cases e1 : gets S1 o with
  | none => simp only [e1] at q1; exact q1.elim
  | some t =>
    simp only [e1] at q1
    unfold res at q1
    split at q1
    · rename_i z hz
      exact hp F1 S1 σ τ H1 v t z Q A1 (A1.opds r1 e1) hz fun v' H' F' s' A' => q1 H' F' s' v' A'
    · exact q1.elim
theorem de_bin {op : Operator} {r : R2} {p : T → T → Option Slot} {fa fb : OF} (ho : OpR X (binaryOp op) r) (hp : Op2 c r p) (ha : PE X a (rdO c fa)) (hb : PE X b (rdO c fb)) : PE X (.BinOp a op b pos) (rdE c (op2 p fa fb)) :=
  PE.imp (pe_op ho ha hb) fun _ _ _ q => op2_out hp q
theorem de_un {op : UnaryOp} {r : V → Hp → VK → Prop} {p : T → Option Slot} {fa : OF} (ho : UnR X (unaryOp op) r) (hp : Op1 c r p) (ha : PE X a (rdO c fa)) : PE X (.UnaryOp op a pos) (rdE c (op1 p fa)) :=
  PE.imp (pe_un ho ha) fun _ _ _ q => op1_out hp q
theorem de_cmp {op : CmpOp} {r : R2} {p : T → T → Option Slot} {fa fb : OF} (ho : OpR X (compareOp op) r) (hp : Op2 c r p) (ha : PE X a (rdO c fa)) (hb : PE X b (rdO c fb)) (hm : behindInMarks op b = false) : PE X (.Compare a [op] [b] pos) (rdE c (op2 p fa fb)) :=
  PE.imp (pe_cmpR ho ha hb hm) fun _ _ _ q => op2_out hp q
/-- a value as a test -/
def tst (f : EF) : TF := fun S => (f S).bind fun x S1 => match x with
  | .sh (.bl b) => .ok b S1
  | _ => .stuck
theorem tst_out {f : EF} {σ : List (Option V)} {H : Hp} {Q : Bool → Hp → Prop} (h : rdT c (tst f) σ H Q) : rdE c f σ H fun x H1 => ∃ k, x = .bl k ∧ Q k H1 := by
  obtain ⟨τ, F, S, A, q⟩ := h
  refine ⟨τ, F, S, A, rOut.bind q fun x S1 F1 H1 s1 q1 v A1 => ?_⟩
  split at q1
  · have r := A1.topSh
    cases r
    exact ⟨_, rfl, q1 H1 F1 (Same.refl F1) A1.pop⟩
  · exact q1.elim
theorem dt_cmp {op : CmpOp} {r : R2} {p : T → T → Option Slot} {fa fb : OF} (ho : OpR X (compareOp op) r) (hp : Op2 c r p) (ha : PE X a (rdO c fa)) (hb : PE X b (rdO c fb)) (hm : behindInMarks op b = false) : PT X (.Compare a [op] [b] pos) (rdT c (tst (op2 p fa fb))) :=
  PT.imp (pt_cmpR ho ha hb hm) fun _ _ _ q => op2_out hp (tst_out q)
theorem dt_val {f : EF} (h : PE X e (rdE c f)) (he : ∀ whole, isTrue e X.env whole = (do let v ← whole; standAt e.pos; holding [v] (truthy v)) := by intro _; rfl) : PT X e (rdT c (tst f)) :=
  PT.imp (pt_val h he) fun _ _ _ q => tst_out q
/-- a op b op' c -/
def chn (p p' : T → T → Option Slot) (fa fb fc : OF) : EF := fun S => (fa S).bind fun o S1 => (fb S1).bind fun o' S2 => match o.get S2, o'.get S2 with
  | some t, some u => match p t u with
    | some (.sh (.bl true)) => (fc S2).bind fun o'' S3 => match o'.get S3, o''.get S3 with
      | some u, some w => res (p' u w) S3
      | _, _ => .stuck
    | some (.sh (.bl false)) => .ok (.sh (.bl false)) S2
    | _ => .stuck
  | _, _ => .stuck
theorem chn_out {r r' : R2} {p p' : T → T → Option Slot} {fa fb fc : OF} (hp : Op2 c r p) (hp' : Op2 c r' p') {σ : List (Option V)} {H : Hp} {Q : VK} (h : rdE c (chn p p' fa fb fc) σ H Q) : tChain r r' (rdO c fa) (rdO c fb) (rdO c fc) σ H Q := by
  obtain ⟨τ, F, S, A, q⟩ := h
  refine ⟨τ, F, S, A, rOut.bind q fun o S1 F1 H1 s1 q1 v A1 r1 => ⟨τ, F1, S1, A1, rOut.bind q1 fun o2 S2 F2 H2 s2 q2 w A2 r2 => ?_⟩⟩
  cases e1 : o.get S2 with
  | none => simp only [e1] at q2; exact q2.elim
  | some t =>
    cases e2 : o2.get S2 with
    | none => simp only [e1, e2] at q2; exact q2.elim
    | some u =>
      simp only [e1, e2] at q2
      split at q2
      · rename_i hz
        refine hp F2 S2 σ τ H2 v w t u _ _ A2 (A2.opd (r1.mono s2) e1) (A2.opd r2 e2) hz fun v' H' F' s' A' => ?_
        have rr := A'.topSh
        cases rr
        refine ⟨true, rfl, ?_⟩
        rw [if_pos rfl]
        refine ⟨τ, F', S2, A'.pop, rOut.bind (q2.mono s') fun o3 S3 F3 H3 s3 q3 y A3 r3 => ?_⟩
        cases e3 : o2.get S3 with
        | none => simp only [e3] at q3; exact q3.elim
        | some u' =>
          cases e4 : o3.get S3 with
          | none => simp only [e3, e4] at q3; exact q3.elim
          | some w' =>
            simp only [e3, e4] at q3
            unfold res at q3
            split at q3
            · rename_i z hz
              exact hp' F3 S3 σ τ H3 w y u' w' z Q A3 (A3.opd ((r2.mono s').mono s3) e3) (A3.opd r3 e4) hz fun v' H' F' s' A' => q3 H' F' s' v' A'
            · exact q3.elim
      · rename_i hz
        refine hp F2 S2 σ τ H2 v w t u _ _ A2 (A2.opd (r1.mono s2) e1) (A2.opd r2 e2) hz fun v' H' F' s' A' => ?_
        have rr := A'.topSh
        cases rr
        exact ⟨false, rfl, by rw [if_neg Bool.false_ne_true]; exact q2 H' F' s' _ A'⟩
      · exact q2.elim
variable {b' : Expr}
theorem de_chn {op op' : CmpOp} {r r' : R2} {p p' : T → T → Option Slot} {fa fb fc : OF} {d : Expr} (ho : OpR X (compareOp op) r) (ho' : OpR X (compareOp op') r') (hp : Op2 c r p) (hp' : Op2 c r' p') (ha : PE X a (rdO c fa)) (hb : PE X b (rdO c fb)) (hc : PE X d (rdO c fc))
    (hm : lastMarks [op, op'] [b, d] = false := by with_unfolding_all rfl) : PE X (.Compare a [op, op'] [b, d] pos) (rdE c (chn p p' fa fb fc)) :=
  PE.imp (pe_chain ho ho' ha hb hc hm) fun _ _ _ q => chn_out hp hp' q
theorem dt_chn {op op' : CmpOp} {r r' : R2} {p p' : T → T → Option Slot} {fa fb fc : OF} {d : Expr} (ho : OpR X (compareOp op) r) (ho' : OpR X (compareOp op') r') (hp : Op2 c r p) (hp' : Op2 c r' p') (ha : PE X a (rdO c fa)) (hb : PE X b (rdO c fb)) (hc : PE X d (rdO c fc))
    (hm : lastMarks [op, op'] [b, d] = false := by with_unfolding_all rfl) : PT X (.Compare a [op, op'] [b, d] pos) (rdT c (tst (chn p p' fa fb fc))) :=
  PT.imp (pt_chain ho ho' ha hb hc hm) fun _ _ _ q => chn_out hp hp' (tst_out q)

/-! ### and, or, not, if -/
def andT (a b : TF) : TF := fun S => (a S).bind fun k S1 => if k = true then b S1 else .ok false S1
def orT (a b : TF) : TF := fun S => (a S).bind fun k S1 => if k = true then .ok true S1 else b S1
def notT (a : TF) : TF := fun S => (a S).bind fun k S1 => .ok (!k) S1
def bV (a : TF) : EF := fun S => (a S).bind fun k S1 => .ok (.sh (.bl k)) S1
def andE (a b : EF) : EF := fun S => (a S).bind fun x S1 => match x with
  | .sh (.bl true) => b S1
  | .sh (.bl false) => .ok (.sh (.bl false)) S1
  | _ => .stuck
def orE (a b : EF) : EF := fun S => (a S).bind fun x S1 => match x with
  | .sh (.bl false) => b S1
  | .sh (.bl true) => .ok (.sh (.bl true)) S1
  | _ => .stuck
def notE (a : EF) : EF := fun S => (a S).bind fun x S1 => match x with
  | .sh (.bl k) => .ok (.sh (.bl (!k))) S1
  | _ => .stuck
def ite3 (t : TF) (a b : EF) : EF := fun S => (t S).bind fun k S1 => if k = true then a S1 else b S1
variable {rest : List Expr}
theorem dw_and1 {fa : TF} (ha : PT X a (rdT c fa)) : PW X (.BoolOp .And [a] pos) (rdT c fa) := pw_and1 ha
theorem dw_or1 {fa : TF} (ha : PT X a (rdT c fa)) : PW X (.BoolOp .Or [a] pos) (rdT c fa) := pw_or1 ha
theorem dw_and {fa fb : TF} (ha : PT X a (rdT c fa)) (hb : PW X (.BoolOp .And (b :: rest) pos) (rdT c fb)) : PW X (.BoolOp .And (a :: b :: rest) pos) (rdT c (andT fa fb)) := by
  refine PW.imp (pw_and ha hb) fun σ H Q q => ?_
  obtain ⟨τ, F, S, A, q⟩ := q
  refine ⟨τ, F, S, A, rOut.bind q fun k S1 F1 H1 s1 q1 A1 => ?_⟩
  cases k with
  | true => exact ⟨τ, F1, S1, A1, q1⟩
  | false => exact q1 H1 F1 (Same.refl F1) A1
theorem dw_or {fa fb : TF} (ha : PT X a (rdT c fa)) (hb : PW X (.BoolOp .Or (b :: rest) pos) (rdT c fb)) : PW X (.BoolOp .Or (a :: b :: rest) pos) (rdT c (orT fa fb)) := by
  refine PW.imp (pw_or ha hb) fun σ H Q q => ?_
  obtain ⟨τ, F, S, A, q⟩ := q
  refine ⟨τ, F, S, A, rOut.bind q fun k S1 F1 H1 s1 q1 A1 => ?_⟩
  cases k with
  | false => exact ⟨τ, F1, S1, A1, q1⟩
  | true => exact q1 H1 F1 (Same.refl F1) A1
theorem dt_not {fa : TF} (ha : PT X a (rdT c fa)) : PT X (.UnaryOp .Not a pos) (rdT c (notT fa)) := by
  refine PT.imp (pt_not ha) fun σ H Q q => ?_
  obtain ⟨τ, F, S, A, q⟩ := q
  exact ⟨τ, F, S, A, rOut.bind q fun k S1 F1 H1 s1 q1 A1 => q1 H1 F1 (Same.refl F1) A1⟩
theorem de_one {op : BoolOp} {fa : EF} (ha : PE X a (rdE c fa)) : PE X (.BoolOp op [a] pos) (rdE c fa) := pe_one ha
theorem de_and {fa fb : EF} (ha : PE X a (rdE c fa)) (hb : PE X (.BoolOp .And (b :: rest) pos) (rdE c fb)) : PE X (.BoolOp .And (a :: b :: rest) pos) (rdE c (andE fa fb)) := by
  refine PE.imp (pe_and ha hb) fun σ H Q q => ?_
  obtain ⟨τ, F, S, A, q⟩ := q
  refine ⟨τ, F, S, A, rOut.bind q fun x S1 F1 H1 s1 q1 v A1 => ?_⟩
  split at q1
  · have r := A1.topSh
    cases r
    exact ⟨true, rfl, by rw [if_pos rfl]; exact ⟨τ, F1, S1, A1.pop, q1⟩⟩
  · have r := A1.topSh
    cases r
    exact ⟨false, rfl, by rw [if_neg Bool.false_ne_true]; exact q1 H1 F1 (Same.refl F1) _ A1⟩
  · exact q1.elim
theorem de_or {fa fb : EF} (ha : PE X a (rdE c fa)) (hb : PE X (.BoolOp .Or (b :: rest) pos) (rdE c fb)) : PE X (.BoolOp .Or (a :: b :: rest) pos) (rdE c (orE fa fb)) := by
  refine PE.imp (pe_or ha hb) fun σ H Q q => ?_
  obtain ⟨τ, F, S, A, q⟩ := q
  refine ⟨τ, F, S, A, rOut.bind q fun x S1 F1 H1 s1 q1 v A1 => ?_⟩
  split at q1
  · have r := A1.topSh
    cases r
    exact ⟨false, rfl, by rw [if_neg Bool.false_ne_true]; exact ⟨τ, F1, S1, A1.pop, q1⟩⟩
  · have r := A1.topSh
    cases r
    exact ⟨true, rfl, by rw [if_pos rfl]; exact q1 H1 F1 (Same.refl F1) _ A1⟩
  · exact q1.elim
theorem de_not {fa : EF} (ha : PE X a (rdE c fa)) : PE X (.UnaryOp .Not a pos) (rdE c (notE fa)) := by
  refine PE.imp (pe_not ha) fun σ H Q q => ?_
  obtain ⟨τ, F, S, A, q⟩ := q
  refine ⟨τ, F, S, A, rOut.bind q fun x S1 F1 H1 s1 q1 v A1 => ?_⟩
  split at q1
  · have r := A1.topSh
    cases r
    exact ⟨_, rfl, q1 H1 F1 (Same.refl F1) _ (A1.pop.pushSh (.bl _))⟩
  · exact q1.elim
theorem de_if {d : Expr} {ft : TF} {fa fb : EF} (hc : PT X d (rdT c ft)) (ha : PE X a (rdE c fa)) (hb : PE X b (rdE c fb)) : PE X (.IfExp d a b pos) (rdE c (ite3 ft fa fb)) := by
  refine PE.imp (pe_ifExp hc ha hb) fun σ H Q q => ?_
  obtain ⟨τ, F, S, A, q⟩ := q
  refine ⟨τ, F, S, A, rOut.bind q fun k S1 F1 H1 s1 q1 A1 => ?_⟩
  cases k with
  | true => exact ⟨τ, F1, S1, A1, q1⟩
  | false => exact ⟨τ, F1, S1, A1, q1⟩

/-! ### displays -/
def vals : List Opd → Option (List T)
  | [] => some []
  | .val t :: os => (vals os).map (t :: ·)
  | .pl _ :: _ => none
theorem OpdAll.vals {F : Hp} {σ : List (Option V)} : ∀ {os : List Opd} {vs : List V} {ts : List T}, OpdAll c.g F σ os vs → TL.vals os = some ts → RepAll c.g F vs ts
  | _, _, _, .nil, e => by cases e; exact .nil
  | .val t :: os, _, _, .cons a b, e => by
    cases q : TL.vals os with
    | none => simp [TL.vals, q] at e
    | some us =>
      simp [TL.vals, q] at e
      subst e
      exact .cons a (OpdAll.vals b q)
  | .pl _ :: _, _, _, .cons a b, e => by cases e
def lstF (a : AF) : EF := fun S => (a S).bind fun os S1 => match vals os with
  | some ts => if ts.length ≤ sz then .ok (.ow (.lst ts)) S1 else .stuck
  | none => .stuck
def tupF (a : AF) : EF := fun S => (a S).bind fun os S1 => match vals os with
  | some ts => if ts.length ≤ sz then .ok (.sh (.tup ts)) S1 else .stuck
  | none => .stuck
theorem de_lst {f : AF} (h : PA X es (rdA c f)) : PE X (.List es pos) (rdE c (lstF f)) := by
  refine PE.imp (pe_lst h) fun σ H Q q => ?_
  obtain ⟨τ, F, S, A, q⟩ := q
  refine ⟨τ, F, S, A, rOut.bind q fun os S1 F1 H1 s1 q1 vs A1 r1 => ?_⟩
  split at q1
  · rename_i ts e
    split at q1
    · rename_i hl
      have r := r1.vals e
      refine ⟨by rw [r.length, ← sz_eq]; exact hl, fun p np => q1 _ F1 (Same.refl F1) _ (A1.newOw (.lst r) np)⟩
    · exact q1.elim
  · exact q1.elim
theorem de_tup {x1 : Nat} {f : AF} (h : PA X es (rdA c f)) : PE X (.Tuple es x1 pos) (rdE c (tupF f)) := by
  refine PE.imp (pe_tupF h) fun σ H Q q => ?_
  obtain ⟨τ, F, S, A, q⟩ := q
  refine ⟨τ, F, S, A, rOut.bind q fun os S1 F1 H1 s1 q1 vs A1 r1 => ?_⟩
  split at q1
  · rename_i ts e
    split at q1
    · rename_i hl
      have r := r1.vals e
      refine ⟨by rw [r.length, ← sz_eq]; exact hl, fun p o np hd => ?_⟩
      obtain ⟨F2, s2, A2⟩ := A1.newTup r np hd
      exact q1 _ F2 s2 _ A2
    · exact q1.elim
  · exact q1.elim

/-! ### subscripts, slices -/
theorem de_ix {r : R2} {p : T → T → Option Slot} {fa fb : OF} (hr : IxR X r) (hp : Op2 c r p) (ha : PE X a (rdO c fa)) (hb : PE X b (rdO c fb)) (hs : PlainIx b) : PE X (.Subscript a b pos) (rdE c (op2 p fa fb)) :=
  PE.imp (pe_ix hr ha hb hs) fun _ _ _ q => op2_out hp q
abbrev BF := Sta → R (Option Int)
def noB : BF := fun S => .ok none S
def someB (f : OF) : BF := fun S => (f S).bind fun o S1 => match o with
  | .val (.int i) => .ok (some i) S1
  | _ => .stuck
def bP (c : Cfg) (σ τ : List (Option V)) (Q : Option Int → Hp → Prop) : Option Int → Sta → Hp → Hp → Prop := fun b S F' H' => AbsX c F' S σ τ H' → Q b H'
def rdB (c : Cfg) (f : BF) : TO := fun σ H Q => ∃ τ F S, AbsX c F S σ τ H ∧ rOut c F σ τ (bP c σ τ Q) (f S)
theorem PO.imp {X : Cx} {e : Option Expr} {t t' : TO} (h : PO X e t) (w : ∀ σ H Q, t' σ H Q → t σ H Q) : PO X e t' := ⟨fun pins s σ H Q I q => h.run pins s σ H Q I (w σ H Q q)⟩
theorem db_none : PO X none (rdB c noB) := by
  refine PO.imp po_none fun σ H Q q => ?_
  obtain ⟨τ, F, S, A, q⟩ := q
  exact q H F (Same.refl F) A
theorem db_some {f : OF} (h : PE X e (rdO c f)) : PO X (some e) (rdB c (someB f)) := by
  refine PO.imp (po_some h) fun σ H Q q => ?_
  obtain ⟨τ, F, S, A, q⟩ := q
  refine ⟨τ, F, S, A, rOut.bind q fun o S1 F1 H1 s1 q1 v A1 r1 => ?_⟩
  split at q1
  · cases r1
    exact ⟨_, rfl, q1 H1 F1 (Same.refl F1) A1⟩
  · exact q1.elim
def slF (p : T → Option Int → Option Int → Option Slot) (fa : OF) (lo hi : BF) : EF := fun S => (fa S).bind fun o S1 => (lo S1).bind fun l S2 => (hi S2).bind fun u S3 => match o.get S3 with
  | some t => res (p t l u) S3
  | none => .stuck
def OpS (c : Cfg) (r : V → Option Int → Option Int → Hp → VK → Prop) (p : T → Option Int → Option Int → Option Slot) : Prop := ∀ (F : Hp) (S : Sta) (σ τ : List (Option V)) (H : Hp) (x : V) (l u : Option Int) (t : T) (z : Slot) (Q : VK), AbsX c F S σ τ H → PRep c.g F H x t → p t l u = some z →
  (∀ v H' F', Same F F' → AbsX c F' (S.push z) σ (τ ++ [some v]) H' → Q v H') → r x l u H Q
theorem de_sl {r : V → Option Int → Option Int → Hp → VK → Prop} {p : T → Option Int → Option Int → Option Slot} {fa : OF} {fl fh : BF} {lo hi : Option Expr} {p2 : Pos} (hr : SlR X r) (hp : OpS c r p) (ha : PE X a (rdO c fa)) (hl : PO X lo (rdB c fl)) (hh : PO X hi (rdB c fh)) :
    PE X (.Subscript a (.Slice lo hi none p2) pos) (rdE c (slF p fa fl fh)) := by
  refine PE.imp (pe_slice hr ha hl hh) fun σ H Q q => ?_
  obtain ⟨τ, F, S, A, q⟩ := q
  refine ⟨τ, F, S, A, rOut.bind q fun o S1 F1 H1 s1 q1 v A1 r1 => ⟨τ, F1, S1, A1, rOut.bind q1 fun l S2 F2 H2 s2 q2 A2 => ⟨τ, F2, S2, A2, rOut.bind q2 fun u S3 F3 H3 s3 q3 A3 => ?_⟩⟩⟩
  split at q3
  · rename_i t e
    unfold res at q3
    split at q3
    · rename_i z hz
      exact hp F3 S3 σ τ H3 v l u t z Q A3 (A3.opd ((r1.mono s2).mono s3) e) hz fun v' H' F' s' A' => q3 H' F' s' v' A'
    · exact q3.elim
  · exact q3.elim
end
end TL

end
section
set_option Elab.async false
set_option linter.all false
set_option maxRecDepth 100000
set_option autoImplicit false
/-! TL4: what the operators and the built-in functions answer -/
open PySem PySem.Spec PyProof.Rows L2
namespace TL
section
variable {g : Ga} {F H : Hp} {v : V}
theorem PRep.int {i : Int} (h : PRep g F H v (.int i)) : v = .int i := by
  rcases h with h | ⟨a, u, _, _, h⟩
  · cases h; rfl
  · cases h
theorem PRep.bl {i : Bool} (h : PRep g F H v (.bl i)) : v = .bl i := by
  rcases h with h | ⟨a, u, _, _, h⟩
  · cases h; rfl
  · cases h
theorem PRep.str {i : Str} (h : PRep g F H v (.str i)) : v = .str i := by
  rcases h with h | ⟨a, u, _, _, h⟩
  · cases h; rfl
  · cases h
theorem PRep.non (h : PRep g F H v .non) : v = .non := by
  rcases h with h | ⟨a, u, _, _, h⟩
  · cases h; rfl
  · cases h
theorem PRep.lst {ts : List T} (s : Same F H) (h : PRep g F H v (.lst ts)) : ∃ a vs, v = .ref a ∧ H a = some (.lst vs) ∧ RepAll g F vs ts := by
  rcases h with h | ⟨a, u, e, hu, h⟩
  · cases h with
    | lst e r => exact ⟨_, _, rfl, s _ _ e, r⟩
  · cases h with
    | lst r => exact ⟨a, _, e, hu, r⟩
theorem PRep.tup {ts : List T} (s : Same F H) (h : PRep g F H v (.tup ts)) : ∃ a vs, v = .ref a ∧ SqT g.K H a vs ∧ RepAll g F vs ts := by
  rcases h with h | ⟨a, u, e, hu, h⟩
  · cases h with
    | tup e r => exact ⟨_, _, rfl, sameSqT s e.sq, r⟩
  · cases h
theorem PRep.dic {ts : List (T × T)} (s : Same F H) (h : PRep g F H v (.dic ts)) : ∃ a vs, v = .ref a ∧ H a = some (.dK vs) ∧ RepKV g F vs ts := by
  rcases h with h | ⟨a, u, e, hu, h⟩
  · cases h with
    | dic e r => exact ⟨_, _, rfl, s _ _ e, r⟩
  · cases h with
    | dic r => exact ⟨a, _, e, hu, r⟩
end

/-! ### arithmetic -/
def addT : T → T → Option Slot
  | .int i, .int j => some (.sh (.int (i + j)))
  | .str a, .str b => if a.length + b.length ≤ sz then some (.sh (.str (a ++ b))) else none
  | .lst a, .lst b => if a.length + b.length ≤ sz then some (.ow (.lst (a ++ b))) else none
  | .tup a, .tup b => if a.length + b.length ≤ sz then some (.sh (.tup (a ++ b))) else none
  | _, _ => none
def subT : T → T → Option Slot
  | .int i, .int j => some (.sh (.int (i - j)))
  | _, _ => none
def mulT : T → T → Option Slot
  | .int i, .int j => if i.natAbs.log2 + j.natAbs.log2 < 134000000 then some (.sh (.int (i * j))) else none
  | .lst a, .int k => if -(2 ^ 63) ≤ k ∧ k < 2 ^ 63 ∧ a.length * k.toNat ≤ sz then some (.ow (.lst (List.replicate k.toNat a).flatten)) else none
  | _, _ => none
def fdivT : T → T → Option Slot
  | .int i, .int j => if 0 < j ∧ j.natAbs.log2 < 9000 then some (.sh (.int (i / j))) else none
  | _, _ => none
def modT : T → T → Option Slot
  | .int i, .int j => if 0 < j then some (.sh (.int (i % j))) else none
  | _, _ => none
def powT : T → T → Option Slot
  | .int i, .int j => if 0 ≤ j ∧ j ≤ 1000000 ∧ i.natAbs < 2 ^ 64 then some (.sh (.int (i ^ j.toNat))) else none
  | _, _ => none
def negT : T → Option Slot
  | .int i => some (.sh (.int (-i)))
  | _ => none
section
variable {X : Cx} {c : Cfg}
theorem fin_sh {F : Hp} {S : Sta} {σ τ : List (Option V)} {H : Hp} {t : T} {v : V} {Q : VK} (A : AbsX c F S σ τ H) (k : ∀ v H' F', Same F F' → AbsX c F' (S.push (.sh t)) σ (τ ++ [some v]) H' → Q v H') (r : Rep c.g F v t) : Q v H :=
  k v H F (Same.refl F) (A.pushSh r)
theorem fin_ow {F : Hp} {S : Sta} {σ τ : List (Option V)} {H : Hp} {t : T} {Q : VK} {u : HO} {p : Addr} (A : AbsX c F S σ τ H) (k : ∀ v H' F', Same F F' → AbsX c F' (S.push (.ow t)) σ (τ ++ [some v]) H' → Q v H') (m : Mk c.g F u t) (np : H p = none) : Q (.ref p) (upd H p u) :=
  k _ _ F (Same.refl F) (A.newOw m np)
theorem fin_tup {F : Hp} {S : Sta} {σ τ : List (Option V)} {H : Hp} {ts : List T} {vs : List V} {Q : VK} {p : Addr} (A : AbsX c F S σ τ H) (k : ∀ v H' F', Same F F' → AbsX c F' (S.push (.sh (.tup ts))) σ (τ ++ [some v]) H' → Q v H') {o : Obj} (m : RepAll c.g F vs ts) (np : H p = none) (hd : o.dict = none) : Q (.ref p) (upd H p (.frz o (.tup vs))) := by
  obtain ⟨F', s, A'⟩ := A.newTup m np hd
  exact k _ _ F' s A'
/-- the same tuple, asked for anew -/
theorem fin_tupE {F : Hp} {S : Sta} {σ τ : List (Option V)} {H : Hp} {ts : List T} {v : V} {Q : VK} (A : AbsX c F S σ τ H) (k : ∀ v H' F', Same F F' → AbsX c F' (S.push (.sh (.tup ts))) σ (τ ++ [some v]) H' → Q v H') (m : PRep c.g F H v (.tup ts)) : Q v H := by
  rcases m with m | ⟨a, u, _, _, m⟩
  · exact fin_sh A k m
  · cases m

/-- () + t -/
theorem op_catT0 : OpR X (binaryOp .Add) (fun x y H Q => ∃ a b ys, x = .ref a ∧ y = .ref b ∧ SqT X.K H a [] ∧ SqT X.K H b ys ∧ Q (.ref b) H) := by
  intro pins s σ H x y v u Q I rx ry h
  obtain ⟨a, b, ys, rfl, rfl, ha, hb, q⟩ := h
  cases rx
  cases ry
  obtain ⟨its, r1, p1, _⟩ := I.tuple ha
  obtain ⟨its2, r2, p2, _⟩ := I.tuple hb
  cases r1
  obtain ⟨⟨cls, dd, data, sl⟩, ho, hc, n, hd⟩ := id p1
  obtain ⟨⟨cls2, dd2, data2, sl2⟩, ho2, hc2, n2, hd2⟩ := id p2
  simp only at hc hd hc2 hd2
  subst hc hd hc2 hd2
  exact concat_meets ⟨_, ho, rfl⟩ ⟨_, ho2, rfl⟩ noFill_tuple_add seq_tuple_add PySem.F.slot_tuple_add PySem.F.entry_tuple_add (PySem.F.args_tuple_add_2 _ _)
    (tuple_addW0 a b _ its2.toArray n n2 dd dd2 sl sl2 (by simp)) ⟨ho, ho2, .ref b, H, I, rfl, q⟩
def rAddA (K : PySem.W.Frag) : R2 := fun x y H Q => (rI0 fun i j => .int (i + j)) x y H Q ∨ (∃ i j, x = .str i ∧ y = .str j ∧ i.length + j.length ≤ sizeLine ∧ Q (.str (i ++ j)) H) ∨ rCat x y H Q ∨ rCatTF K x y H Q ∨ ∃ a b ys, x = .ref a ∧ y = .ref b ∧ SqT K H a [] ∧ SqT K H b ys ∧ Q (.ref b) H
theorem op_addA : OpR X (binaryOp .Add) (rAddA X.K) := .or op_add (.or op_add_str (.or op_cat (.or op_catTF op_catT0)))
theorem p_add (hK : c.g.K = X.K) : Op2 c (rAddA X.K) addT := by
  intro F S σ τ H x y t u z Q A hx hy hz k
  unfold addT at hz
  split at hz
  · cases hz
    rw [hx.int, hy.int]
    exact .inl ⟨_, _, rfl, rfl, fin_sh A k (.int _)⟩
  · split at hz
    · cases hz
      rename_i hl
      rw [hx.str, hy.str]
      exact .inr (.inl ⟨_, _, rfl, rfl, by rw [← sz_eq]; exact hl, fin_sh A k (.str _)⟩)
    · cases hz
  · split at hz
    · cases hz
      rename_i hl
      obtain ⟨a, vs, rfl, h1, r1⟩ := hx.lst A.a.fh
      obtain ⟨b, ws, rfl, h2, r2⟩ := hy.lst A.a.fh
      exact .inr (.inr (.inl ⟨a, b, vs, ws, rfl, rfl, h1, h2, by rw [r1.length, r2.length, ← sz_eq]; exact hl, fun p np => fin_ow A k (.lst (r1.append r2)) np⟩))
    · cases hz
  · rename_i a' b'
    split at hz
    · cases hz
      rename_i hl
      obtain ⟨a, vs, rfl, h1, r1⟩ := hx.tup A.a.fh
      have hy' := hy
      obtain ⟨b, ws, rfl, h2, r2⟩ := hy.tup A.a.fh
      rw [hK] at h1 h2
      by_cases hv : vs = []
      · subst hv
        cases r1
        exact .inr (.inr (.inr (.inr ⟨a, b, ws, rfl, rfl, h1, h2, fin_tupE A k (by simpa using hy')⟩)))
      · refine .inr (.inr (.inr (.inl ⟨a, b, vs, ws, rfl, rfl, h1, h2, hv, by rw [r1.length, r2.length, ← sz_eq]; exact hl, fun e => ?_, fun _ p o np hd => fin_tup A k (r1.append r2) np hd⟩)))
        subst e
        cases r2
        exact fin_tupE A k (by simpa using hx)
    · cases hz
  · cases hz
theorem p_sub : Op2 c (rI0 fun i j => .int (i - j)) subT := by
  intro F S σ τ H x y t u z Q A hx hy hz k
  unfold subT at hz
  split at hz
  · cases hz
    rw [hx.int, hy.int]
    exact ⟨_, _, rfl, rfl, fin_sh A k (.int _)⟩
  · cases hz
def CMulB (i j : Int) : Prop := i.natAbs.log2 + j.natAbs.log2 < 134000000
theorem CMulB.ok {i j : Int} (h : CMulB i j) : IntMulOk i j := by
  unfold CMulB at h
  refine IntMulOk.of_le (m := i.natAbs.log2 + 1) (n := j.natAbs.log2 + 1) ?_ ?_ (by omega)
  · unfold Builtin.Int.intBits; split <;> omega
  · unfold Builtin.Int.intBits; split <;> omega
theorem op_mulB : OpR X (binaryOp .Mult) (rI CMulB fun i j => .int (i * j)) := opI fun _ _ _ _ _ _ _ hc q => mul_int q hc.ok
def rMulA : R2 := fun x y H Q => (rI CMulB fun i j => .int (i * j)) x y H Q ∨ rRep x y H Q
theorem op_mulA : OpR X (binaryOp .Mult) rMulA := .or op_mulB op_rep
theorem RepAll.rep {g : Ga} {F : Hp} {vs : List V} {ts : List T} (r : RepAll g F vs ts) : ∀ n : Nat, RepAll g F (List.replicate n vs).flatten (List.replicate n ts).flatten
  | 0 => .nil
  | n + 1 => by
    rw [List.replicate_succ, List.replicate_succ, List.flatten_cons, List.flatten_cons]
    exact r.append (RepAll.rep r n)
theorem p_mul : Op2 c rMulA mulT := by
  intro F S σ τ H x y t u z Q A hx hy hz k
  unfold mulT at hz
  split at hz
  · split at hz
    · cases hz
      rename_i hl
      rw [hx.int, hy.int]
      exact .inl ⟨_, _, rfl, rfl, hl, fin_sh A k (.int _)⟩
    · cases hz
  · split at hz
    · cases hz
      rename_i hl
      obtain ⟨a, vs, rfl, h1, r1⟩ := hx.lst A.a.fh
      rw [hy.int]
      exact .inr ⟨a, _, vs, rfl, rfl, h1, hl.1, hl.2.1, by rw [r1.length, ← sz_eq]; exact hl.2.2, fun p np => fin_ow A k (.lst (r1.rep _)) np⟩
    · cases hz
  · cases hz
theorem p_fdiv : Op2 c (rI CDivW fun i j => .int (i / j)) fdivT := by
  intro F S σ τ H x y t u z Q A hx hy hz k
  unfold fdivT at hz
  split at hz
  · split at hz
    · cases hz
      rename_i hl
      rw [hx.int, hy.int]
      exact ⟨_, _, rfl, rfl, hl, fin_sh A k (.int _)⟩
    · cases hz
  · cases hz
theorem p_mod : Op2 c (rI (fun _ j => 0 < j) fun i j => .int (i % j)) modT := by
  intro F S σ τ H x y t u z Q A hx hy hz k
  unfold modT at hz
  split at hz
  · split at hz
    · cases hz
      rename_i hl
      rw [hx.int, hy.int]
      exact ⟨_, _, rfl, rfl, hl, fin_sh A k (.int _)⟩
    · cases hz
  · cases hz
theorem p_pow : Op2 c (rI CPow fun i j => .int (i ^ j.toNat)) powT := by
  intro F S σ τ H x y t u z Q A hx hy hz k
  unfold powT at hz
  split at hz
  · split at hz
    · cases hz
      rename_i hl
      rw [hx.int, hy.int]
      exact ⟨_, _, rfl, rfl, hl, fin_sh A k (.int _)⟩
    · cases hz
  · cases hz
theorem p_neg : Op1 c (rU fun i => .int (-i)) negT := by
  intro F S σ τ H x t z Q A hx hz k
  unfold negT at hz
  split at hz
  · cases hz
    rw [hx.int]
    exact ⟨_, rfl, fin_sh A k (.int _)⟩
  · cases hz

/-! ### comparisons of ints -/
def cmpT (f : Int → Int → Bool) : T → T → Option Slot
  | .int i, .int j => some (.sh (.bl (f i j)))
  | _, _ => none
abbrev ltT : T → T → Option Slot := cmpT fun i j => decide (i < j)
abbrev leT : T → T → Option Slot := cmpT fun i j => decide (i ≤ j)
abbrev gtT : T → T → Option Slot := cmpT fun i j => decide (j < i)
abbrev geT : T → T → Option Slot := cmpT fun i j => decide (j ≤ i)
theorem p_cmp (f : Int → Int → Bool) : Op2 c (rI0 fun i j => .bl (f i j)) (cmpT f) := by
  intro F S σ τ H x y t u z Q A hx hy hz k
  unfold cmpT at hz
  split at hz
  · cases hz
    rw [hx.int, hy.int]
    exact ⟨_, _, rfl, rfl, fin_sh A k (.bl _)⟩
  · cases hz

/-! ### equality of data -/
mutual
def T.d : T → PyData
  | .non => .none
  | .bl b => .bool b
  | .int i => .int i
  | .str x => .str x
  | .lst xs => .list (T.dAll xs)
  | .tup xs => .tuple (T.dAll xs)
  | .wtp _ => .none
  | .dic _ => .none
  | .obj _ _ => .none
  | .exo _ _ => .none
  | .fn _ => .none
  | .nib => .none
def T.dAll : List T → List PyData
  | [] => []
  | x :: xs => T.d x :: T.dAll xs
end
mutual
/-- plain data of at most this depth -/
def T.okT : T → Nat → Bool
  | .non, _ => true
  | .bl _, _ => true
  | .int _, _ => true
  | .str x, _ => PyData.strOk x
  | .lst xs, n => match n with
    | 0 => false
    | n + 1 => T.okTs xs n
  | .tup xs, n => match n with
    | 0 => false
    | n + 1 => T.okTs xs n
  | .wtp _, _ => false
  | .dic _, _ => false
  | .obj _ _, _ => false
  | .exo _ _, _ => false
  | .fn _, _ => false
  | .nib, _ => false
def T.okTs : List T → Nat → Bool
  | [], _ => true
  | x :: xs, n => T.okT x n && T.okTs xs n
end
def T.okD (n : Nat) (t : T) : Bool := T.okT t n
def T.okAll (n : Nat) (ts : List T) : Bool := T.okTs ts n
mutual
theorem okD_dp {K : PySem.W.Frag} {nb : Addr} {ca : Nat → Addr} {tb : List (Addr × Str)} {F : Hp} : ∀ (t : T) (n : Nat) (v : V), T.okT t n = true → Rep ⟨K, nb, ca, tb⟩ F v t → Dp K F v t.d
  | .non, _, _, _, r => by cases r; rw [T.d]; exact .non
  | .bl b, _, _, _, r => by cases r; rw [T.d]; exact .bl b
  | .int i, _, _, _, r => by cases r; rw [T.d]; exact .int i
  | .str x, _, _, _, r => by cases r; rw [T.d]; exact .str x
  | .lst xs, 0, _, e, r => by simp [T.okT] at e
  | .lst xs, n + 1, _, e, r => by
    simp only [T.okT] at e
    cases r with
    | lst h a => rw [T.d]; exact .lst (.inl (.inl h)) (okAll_dp xs n _ e a)
  | .tup xs, 0, _, e, r => by simp [T.okT] at e
  | .tup xs, n + 1, _, e, r => by
    simp only [T.okT] at e
    cases r with
    | tup h a => rw [T.d]; exact .tup h.sq (okAll_dp xs n _ e a)
  | .dic _, _, _, e, _ => by simp [T.okT] at e
  | .obj _ _, _, _, e, _ => by simp [T.okT] at e
  | .exo _ _, _, _, e, _ => by simp [T.okT] at e
  | .fn _, _, _, e, _ => by simp [T.okT] at e
  | .nib, _, _, e, _ => by simp [T.okT] at e
theorem okAll_dp {K : PySem.W.Frag} {nb : Addr} {ca : Nat → Addr} {tb : List (Addr × Str)} {F : Hp} : ∀ (ts : List T) (n : Nat) (vs : List V), T.okTs ts n = true → RepAll ⟨K, nb, ca, tb⟩ F vs ts → DpAll K F vs (T.dAll ts)
  | [], _, _, _, r => by cases r; rw [T.dAll]; exact .nil
  | t :: ts, n, _, e, r => by
    rw [T.okTs, Bool.and_eq_true] at e
    cases r with
    | cons a b => rw [T.dAll]; exact .cons (okD_dp t n _ e.1 a) (okAll_dp ts n _ e.2 b)
end
mutual
theorem okD_lay : ∀ (t : T) (n : Nat), T.okT t n = true → t.d.canLay0 = true ∧ t.d.depth ≤ n
  | .non, _, _ => by rw [T.d]; simp [PyData.canLay0, PyData.depth]
  | .bl b, _, _ => by rw [T.d]; simp [PyData.canLay0, PyData.depth]
  | .int i, _, _ => by rw [T.d]; simp [PyData.canLay0, PyData.depth]
  | .str x, _, e => by rw [T.okT] at e; rw [T.d]; simp [PyData.canLay0, PyData.depth, e]
  | .lst xs, 0, e => by simp [T.okT] at e
  | .lst xs, n + 1, e => by
    simp only [T.okT] at e
    obtain ⟨h1, h2⟩ := okAll_lay xs n e
    rw [T.d]; simp only [PyData.canLay0, PyData.depth]; exact ⟨h1, by omega⟩
  | .tup xs, 0, e => by simp [T.okT] at e
  | .tup xs, n + 1, e => by
    simp only [T.okT] at e
    obtain ⟨h1, h2⟩ := okAll_lay xs n e
    rw [T.d]; simp only [PyData.canLay0, PyData.depth]; exact ⟨h1, by omega⟩
  | .dic _, _, e => by simp [T.okT] at e
  | .obj _ _, _, e => by simp [T.okT] at e
  | .exo _ _, _, e => by simp [T.okT] at e
  | .fn _, _, e => by simp [T.okT] at e
  | .nib, _, e => by simp [T.okT] at e
theorem okAll_lay : ∀ (ts : List T) (n : Nat), T.okTs ts n = true → PyData.canLayAll0 (T.dAll ts) = true ∧ PyData.depthAll (T.dAll ts) ≤ n
  | [], _, _ => by rw [T.dAll]; simp [PyData.canLayAll0, PyData.depthAll]
  | t :: ts, n, e => by
    rw [T.okTs, Bool.and_eq_true] at e
    obtain ⟨h1, h2⟩ := okD_lay t n e.1
    obtain ⟨h3, h4⟩ := okAll_lay ts n e.2
    rw [T.dAll]; simp only [PyData.canLayAll0, PyData.depthAll, h1, h3]
    exact ⟨rfl, by omega⟩
end
theorem Dp.same {K : PySem.W.Frag} {F H : Hp} (s : Same F H) {v : V} {d : PyData} (h : Dp K F v d) : Dp K H v d :=
  Dp.rec (motive_1 := fun v d _ => Dp K H v d) (motive_2 := fun vs ds _ => DpAll K H vs ds) .non .bl .int .str (fun e _ r => .lst (s.seq e) r) (fun e _ r => .tup (sameSqT s e) r) .nil (fun _ _ a b => .cons a b) h
theorem DpAll.same {K : PySem.W.Frag} {F H : Hp} (s : Same F H) : ∀ {v : List V} {d : List PyData}, DpAll K F v d → DpAll K H v d
  | _, _, .nil => .nil
  | _, _, .cons a b => .cons (Dp.same s a) (DpAll.same s b)
theorem PRep.dp {g : Ga} {F H : Hp} {v : V} {t : T} {n : Nat} (s : Same F H) (h : PRep g F H v t) (e : T.okD n t = true) : Dp g.K H v t.d := by
  rcases h with h | ⟨a, u, ev, hu, m⟩
  · exact Dp.same s (okD_dp (nb := g.nb) (ca := g.ca) (tb := g.tb) t n v e h)
  · subst ev
    unfold T.okD at e
    cases m with
    | lst r =>
      cases n with
      | zero => simp [T.okT] at e
      | succ n =>
        simp only [T.okT] at e
        rw [T.d]
        exact .lst (.inl (.inl hu)) (DpAll.same s (okAll_dp (nb := g.nb) (ca := g.ca) (tb := g.tb) _ n _ e r))
    | dic r => simp [T.okT] at e
    | obj r => simp [T.okT] at e
theorem okD_shaped {n : Nat} {t : T} (h : T.okD n t = true) (hn : n ≤ 64) : SeqAt.shaped t.d = true := by
  obtain ⟨h1, h2⟩ := okD_lay t n h
  show (t.d.canLay0 && decide (t.d.depth ≤ 64)) = true
  rw [h1, Bool.true_and]
  exact decide_eq_true (by omega)
def eqD (t u : T) : Bool := PyData.eqv t.d u.d
def eqT (t u : T) : Option Slot := if T.okD 60 t = true ∧ T.okD 60 u = true then some (.sh (.bl (eqD t u))) else none
def neT (t u : T) : Option Slot := if T.okD 60 t = true ∧ T.okD 60 u = true then some (.sh (.bl (!eqD t u))) else none
theorem p_eq (hK : c.g.K = X.K) : Op2 c (rEqD X.K) eqT := by
  intro F S σ τ H x y t u z Q A hx hy hz k
  unfold eqT at hz
  split at hz
  · rename_i h
    cases hz
    exact ⟨t.d, u.d, hK ▸ hx.dp A.a.fh h.1, hK ▸ hy.dp A.a.fh h.2, okD_shaped h.1 (by omega), okD_shaped h.2 (by omega), fin_sh A k (.bl _)⟩
  · cases hz
theorem p_ne (hK : c.g.K = X.K) : Op2 c (rNeD X.K) neT := by
  intro F S σ τ H x y t u z Q A hx hy hz k
  unfold neT at hz
  split at hz
  · rename_i h
    cases hz
    exact ⟨t.d, u.d, hK ▸ hx.dp A.a.fh h.1, hK ▸ hy.dp A.a.fh h.2, okD_shaped h.1 (by omega), okD_shaped h.2 (by omega), fin_sh A k (.bl _)⟩
  · cases hz

/-! ### in -/
def inT (neg : Bool) (t u : T) : Option Slot := match u with
  | .lst us => if T.okD 60 t = true ∧ T.okD 60 (.lst us) = true then some (.sh (.bl (neg != us.any fun y => eqD y t))) else none
  | .tup us => if T.okD 0 t = true ∧ T.okAll 0 us = true then some (.sh (.bl (neg != us.any fun y => eqD y t))) else none
  | _ => none
theorem any_dAll (d : PyData) : ∀ us : List T, ((T.dAll us).any fun z => PyData.eqv z d) = us.any fun y => PyData.eqv y.d d
  | [] => by rw [T.dAll]; rfl
  | u :: us => by rw [T.dAll, List.any_cons, List.any_cons, any_dAll d us]
theorem flat_of {g : Ga} {F : Hp} {v : V} {t : T} (h : T.okD 0 t = true) (r : Rep g F v t) : flatV v = true := by
  cases r <;> first | rfl | (simp [T.okD, T.okT] at h)
theorem flats_of {g : Ga} {F : Hp} : ∀ {vs : List V} {ts : List T}, T.okAll 0 ts = true → RepAll g F vs ts → vs.all flatV = true
  | _, _, _, .nil => rfl
  | _, _, h, .cons a b => by
    rw [T.okAll, T.okTs, Bool.and_eq_true] at h
    rw [List.all_cons, flat_of h.1 a, flats_of h.2 b]; rfl
theorem eqV_d {g : Ga} {F : Hp} {v w : V} {t u : T} (h1 : T.okD 0 t = true) (h2 : T.okD 0 u = true) (r : Rep g F v t) (q : Rep g F w u) : eqV v w = eqD t u := by
  unfold eqD
  cases r <;> cases q <;> first
    | (exfalso; simp [T.okD, T.okT] at h1; done)
    | (exfalso; simp [T.okD, T.okT] at h2; done)
    | (simp only [T.d, PyData.eqv]; rfl)
theorem inV_d {g : Ga} {F : Hp} {w : V} {u : T} (h2 : T.okD 0 u = true) (q : Rep g F w u) : ∀ {vs : List V} {ts : List T}, T.okAll 0 ts = true → RepAll g F vs ts → inV w vs = ts.any fun y => eqD y u
  | _, _, _, .nil => rfl
  | _, _, h, .cons a b => by
    rw [T.okAll, T.okTs, Bool.and_eq_true] at h
    have ih := inV_d h2 q h.2 b
    unfold inV at ih ⊢
    rw [List.any_cons, List.any_cons, ih, eqV_d h.1 h2 a q]
theorem PRep.rep0 {g : Ga} {F H : Hp} {v : V} {t : T} (h : PRep g F H v t) (e : T.okD 0 t = true) : Rep g F v t := by
  rcases h with h | ⟨a, u, ev, hu, m⟩
  · exact h
  · cases m <;> (simp [T.okD, T.okT] at e)
def rInA (K : PySem.W.Frag) : R2 := fun x y H Q => rIn K false x y H Q ∨ rInD K x y H Q
def rNotInA (K : PySem.W.Frag) : R2 := fun x y H Q => rIn K true x y H Q ∨ rNotInD K x y H Q
theorem p_in (hK : c.g.K = X.K) : Op2 c (rInA X.K) (inT false) := by
  intro F S σ τ H x y t u z Q A hx hy hz k
  unfold inT at hz
  split at hz
  · rename_i us
    split at hz
    · rename_i h
      cases hz
      refine .inr ⟨t.d, T.dAll us, hK ▸ hx.dp A.a.fh h.1, ?_, okD_shaped h.1 (by omega), ?_, ?_⟩
      · have := hy.dp A.a.fh h.2; rw [T.d] at this; exact hK ▸ this
      · have := okD_shaped h.2 (by omega); rw [T.d] at this; exact this
      · rw [any_dAll]; exact fin_sh A (by simpa [eqD] using k) (.bl _)
    · cases hz
  · rename_i us
    split at hz
    · rename_i h
      cases hz
      obtain ⟨p, vs, rfl, h1, r1⟩ := hy.tup A.a.fh
      refine .inl ⟨p, vs, rfl, .inr (hK ▸ h1), flat_of h.1 (hx.rep0 h.1), flats_of h.2 r1, ?_⟩
      rw [if_neg Bool.false_ne_true, inV_d h.1 (hx.rep0 h.1) h.2 r1]
      exact fin_sh A (by simpa using k) (.bl _)
    · cases hz
  · cases hz
theorem p_notin (hK : c.g.K = X.K) : Op2 c (rNotInA X.K) (inT true) := by
  intro F S σ τ H x y t u z Q A hx hy hz k
  unfold inT at hz
  split at hz
  · rename_i us
    split at hz
    · rename_i h
      cases hz
      refine .inr ⟨t.d, T.dAll us, hK ▸ hx.dp A.a.fh h.1, ?_, okD_shaped h.1 (by omega), ?_, ?_⟩
      · have := hy.dp A.a.fh h.2; rw [T.d] at this; exact hK ▸ this
      · have := okD_shaped h.2 (by omega); rw [T.d] at this; exact this
      · rw [any_dAll]; exact fin_sh A (by simpa [eqD] using k) (.bl _)
    · cases hz
  · rename_i us
    split at hz
    · rename_i h
      cases hz
      obtain ⟨p, vs, rfl, h1, r1⟩ := hy.tup A.a.fh
      refine .inl ⟨p, vs, rfl, .inr (hK ▸ h1), flat_of h.1 (hx.rep0 h.1), flats_of h.2 r1, ?_⟩
      rw [if_pos rfl, inV_d h.1 (hx.rep0 h.1) h.2 r1]
      exact fin_sh A (by simpa using k) (.bl _)
    · cases hz
  · cases hz
theorem op_inA (hu : X.A.units + 65 < cLine) : OpR X (compareOp .In) (rInA X.K) := .or op_in_seq (op_inD hu)
theorem op_notinA (hu : X.A.units + 65 < cLine) : OpR X (compareOp .NotIn) (rNotInA X.K) := .or op_notIn_seq (op_notInD hu)

/-! ### is -/
def isT (neg : Bool) : T → T → Option Slot
  | .bl a, .bl b => some (.sh (.bl (neg != decide (a = b))))
  | .non, .non => some (.sh (.bl (neg != true)))
  | .bl _, .non => some (.sh (.bl (neg != false)))
  | .int _, .non => some (.sh (.bl (neg != false)))
  | .str _, .non => some (.sh (.bl (neg != false)))
  | .lst _, .non => some (.sh (.bl (neg != false)))
  | .tup _, .non => some (.sh (.bl (neg != false)))
  | .dic _, .non => some (.sh (.bl (neg != false)))
  | .obj _ _, .non => some (.sh (.bl (neg != false)))
  | .exo _ _, .non => some (.sh (.bl (neg != false)))
  | _, _ => none
def rIsA : R2 := fun x y H Q => (y = .non ∧ Q (.bl (decide (x = .non))) H) ∨ rIsB x y H Q
def rNotA : R2 := fun x y H Q => (y = .non ∧ Q (.bl (!decide (x = .non))) H) ∨ rNotB x y H Q
theorem op_isA : OpR X (compareOp .Is) rIsA := .or op_isN op_isBl
theorem op_isnotA : OpR X (compareOp .IsNot) rNotA := .or op_notN op_notBl
theorem PRep.nonI {g : Ga} {F H : Hp} {v : V} {t : T} (h : PRep g F H v t) (n : t ≠ .non) : v ≠ .non := by
  rcases h with h | ⟨a, u, ev, hu, m⟩
  · cases h <;> first | exact absurd rfl n | (intro z; cases z)
  · subst ev; intro z; cases z
theorem p_is : Op2 c rIsA (isT false) := by
  intro F S σ τ H x y t u z Q A hx hy hz k
  unfold isT at hz
  split at hz
  · cases hz
    rw [hx.bl, hy.bl]
    exact .inr ⟨_, _, rfl, rfl, fin_sh A (by simpa using k) (.bl _)⟩
  · cases hz
    rw [hx.non, hy.non]
    exact .inl ⟨rfl, fin_sh A (by simpa using k) (.bl _)⟩
  all_goals first
    | (cases hz; rw [hy.non]; exact .inl ⟨rfl, by rw [decide_eq_false (hx.nonI (fun z => nomatch z))]; exact fin_sh A (by simpa using k) (.bl _)⟩)
    | cases hz
theorem p_isnot : Op2 c rNotA (isT true) := by
  intro F S σ τ H x y t u z Q A hx hy hz k
  unfold isT at hz
  split at hz
  · cases hz
    rw [hx.bl, hy.bl]
    exact .inr ⟨_, _, rfl, rfl, fin_sh A (by simpa using k) (.bl _)⟩
  · cases hz
    rw [hx.non, hy.non]
    exact .inl ⟨rfl, fin_sh A (by simpa using k) (.bl _)⟩
  all_goals first
    | (cases hz; rw [hy.non]; exact .inl ⟨rfl, by rw [decide_eq_false (hx.nonI (fun z => nomatch z))]; exact fin_sh A (by simpa using k) (.bl _)⟩)
    | cases hz

/-! ### subscripts and slices -/
def ixT (t u : T) : Option Slot := match t, u with
  | .lst ts, .int i => (atI ts i).map .sh
  | .tup ts, .int i => (atI ts i).map .sh
  | .str x, .int i => if x.length ≤ sz then (atI x.cps.toList i).map fun k => .sh (.str ⟨#[k]⟩) else none
  | _, _ => none
theorem atI_rep {g : Ga} {F : Hp} {vs : List V} {ts : List T} {i : Int} {t : T} (r : RepAll g F vs ts) (h : atI ts i = some t) : ∃ v, atI vs i = some v ∧ Rep g F v t := by
  unfold atI at h ⊢
  rw [r.length]
  cases e : ixN ts.length i with
  | none => rw [e] at h; cases h
  | some j =>
    rw [e] at h
    exact r.get h
theorem p_ix (hK : c.g.K = X.K) : Op2 c (rIx X.K) ixT := by
  intro F S σ τ H x y t u z Q A hx hy hz k
  unfold ixT at hz
  split at hz
  · obtain ⟨t', h1, h2⟩ := Option.map_eq_some_iff.mp hz
    subst h2
    obtain ⟨p, vs, rfl, h3, r⟩ := hx.lst A.a.fh
    obtain ⟨w, h4, r4⟩ := atI_rep r h1
    rw [hy.int]
    exact .inl ⟨p, vs, _, w, rfl, rfl, .inl (.inl h3), h4, fin_sh A k r4⟩
  · obtain ⟨t', h1, h2⟩ := Option.map_eq_some_iff.mp hz
    subst h2
    obtain ⟨p, vs, rfl, h3, r⟩ := hx.tup A.a.fh
    obtain ⟨w, h4, r4⟩ := atI_rep r h1
    rw [hy.int]
    exact .inr (.inl ⟨p, vs, _, w, rfl, rfl, hK ▸ h3, h4, fin_sh A k r4⟩)
  · split at hz
    · rename_i hl
      obtain ⟨t', h1, h2⟩ := Option.map_eq_some_iff.mp hz
      subst h2
      rw [hx.str, hy.int]
      exact .inr (.inr ⟨_, _, t', rfl, rfl, by rw [← sz_eq]; exact hl, h1, fin_sh A k (.str _)⟩)
    · cases hz
  · cases hz
def cutT (xs : List T) (lo hi : Option Int) : List T := (xs.drop (HT.sIx xs.length 0 lo)).take (HT.sIx xs.length xs.length hi - HT.sIx xs.length 0 lo)
theorem RepAll.cut {g : Ga} {F : Hp} {vs : List V} {ts : List T} (r : RepAll g F vs ts) (lo hi : Option Int) : RepAll g F (cutV vs lo hi) (cutT ts lo hi) := by
  unfold cutV cutT
  rw [r.length]
  exact (r.drop _).take _
def slT (t : T) (lo hi : Option Int) : Option Slot := match t with
  | .lst ts => some (.ow (.lst (cutT ts lo hi)))
  | .tup ts => some (.sh (.tup (cutT ts lo hi)))
  | _ => none
end
end TL

end
section
set_option Elab.async false
set_option linter.all false
set_option maxRecDepth 100000
set_option autoImplicit false
/-! TL5: rules that the layer lacked: enumerate of a tuple, sorted of a tuple, max of a list with default -/
open PySem PySem.Spec PyProof.Rows L2
namespace TL
set_option maxHeartbeats 1000000 in
theorem meets_enum1 {v : Value} {o : Obj} {H : Heap → Prop} (B : Begins v o H) :
    Meets (Builtin.«enumerate.__new__» ⟨[.type "enumerate", v], []⟩) (fun _ R s => H s.heap ∧
      R (.ok (.ret (.ref (s.heap.push o).objs.size))) { s with heap := (s.heap.push o).push { cls := .type "enumerate", data := .fields #[.none, .bool false, .ref s.heap.objs.size, rawInt 0, .none, .none] } }) :=
  .of_wp fun prog w A R s h => by
    obtain ⟨hp, g, d, tk, os⟩ := s; obtain ⟨h1, h⟩ := h
    have hsub := sub_enumerate
    have q1 : ∀ {A' : Around} {E : Value → Shared → Prop} {Q : Value → Shared → Prop}, Q (.ref hp.objs.size) ⟨hp.push o, g, d, tk, os⟩ → wpAny (model prog w) A' (pyIter v) Q E ⟨hp, g, d, tk, os⟩ :=
      fun q => B.iter prog w _ _ ⟨hp, g, d, tk, os⟩ _ h1 q
    wp_walk using q1
    refine wpAny_stack_any fun st => wpAny_pure ?_
    split
    · rename_i c _ _ _ _ _
      cases (c == Value.type "enumerate")
      · wp_walk using q1
        exact ⟨_, rfl, h⟩
      · wp_walk using q1
        exact ⟨_, rfl, h⟩
    · wp_walk using q1
      exact ⟨_, rfl, h⟩
section
variable {prog : Program} {w : World} {A : Around} {E : Value → Shared → Prop} {s : Shared}
theorem call_enum1 {v : Value} {o : Obj} {H : Heap → Prop} {Q : Value → Shared → Prop} (B : Begins v o H) (h1 : H s.heap)
    (h : ∀ h', IsEnum h' (s.heap.objs.size + 1) s.heap.objs.size 0 .none → h'.get? s.heap.objs.size = some o → h'.objs.size = s.heap.objs.size + 2 →
      (∀ b o, s.heap.get? b = some o → h'.get? b = some o) → Q (.ref (s.heap.objs.size + 1)) { s with heap := h' }) :
    wpAny (model prog w) A (call (.type "enumerate") [v]) Q E s := by
  refine callType_new F.called_enumerate (by decide) (F.typeCall_enumerate_1 _) (F.newCall_enumerate_1 _) (fun obj => F.args_object_init_2 obj _) F.entry_enumerate_new
    (meets_enum1 B) ⟨h1, ?_⟩
  have hz : (s.heap.push o).objs.size = s.heap.objs.size + 1 := Heap.size_push ..
  show _ ∧ _
  rw [hz]
  have he : IsEnum ((s.heap.push o).push { cls := .type "enumerate", data := .fields #[.none, .bool false, .ref s.heap.objs.size, rawInt 0, .none, .none] }) (s.heap.objs.size + 1) s.heap.objs.size 0 .none := by
    have := Heap.get?_push_size (s.heap.push o) (o := { cls := .type "enumerate", data := .fields #[.none, .bool false, .ref s.heap.objs.size, rawInt 0, .none, .none] }) rfl
    rw [hz] at this; exact this
  refine ⟨⟨_, he, rfl⟩, h _ he (Heap.get?_push_of_some _ (Heap.get?_push_size _ B.free)) (by rw [Heap.size_push, hz]) fun b o x => Heap.get?_push_of_some _ (Heap.get?_push_of_some _ x)⟩
end
/-- enumerate(tuple): the tuple at a as it stands, each item in a new pair -/
def IteT (K : PySem.W.Frag) (a : Addr) : It :=
  ⟨fun i H => ∃ (xs : List V) (x : V), SqT K H a xs ∧ xs[i]? = some x, fun i H v H' => ∃ T x, v = .ref T ∧ H T = none ∧ H' = upd H T (.tup [.int (i : Nat), x]) ∧ ∀ xs, SqT K H a xs → xs[i]? = some x, fun i H => ∃ xs : List V, SqT K H a xs ∧ xs.length = i⟩
theorem turn_enumT {P : Program} {w : World} {K : PySem.W.Frag} {elts : List Expr} {kk : Nat} {tpos : Pos} (a e it : Addr) :
    Turn P w K (.Tuple elts kk tpos) (IteT K a) [e, it] e (fun i h => (∃ old, IsEnum h e it ((i : Nat) : Int) old) ∧ h.IsTupleIter it a i ∧ e ≠ it ∧ a ≠ it ∧ a ≠ e) where
  mem := by simp
  obj := fun i h st b hb => by
    obtain ⟨⟨old, he⟩, ⟨o, ho, hc, hd⟩, _⟩ := st
    have e' : b = e ∨ b = it := by simpa using hb
    rcases e' with z | z
    · rw [z]; exact ⟨_, he, fun v q => nomatch q⟩
    · rw [z]; exact ⟨o, ho, fun v q => by rw [hd] at q; cases q⟩
  keep := fun i h h' st k => let ⟨⟨old, he⟩, hi, hne⟩ := st; ⟨⟨old, k e (by simp) _ he⟩, hi.at fun o q => k it (by simp) o q, hne⟩
  item := by
    intro X hP hw hK hc i pins s σ H E I hf st hg
    subst hP hw hK
    obtain ⟨⟨old, he⟩, hit, hne, hai, hae⟩ := st
    obtain ⟨xs, x, hq, hx⟩ := hg
    obtain ⟨its, rv, p, hz⟩ := I.tuple hq
    obtain ⟨u, hu, ru⟩ := rv.get hx
    have hel : e < s.heap.objs.size := Heap.lt_size he
    have hil : it < s.heap.objs.size := by obtain ⟨_, q, _⟩ := hit; exact Heap.lt_size q
    have hin : i < its.toArray.size := by
      have := (List.getElem?_eq_some_iff.mp hu).1
      simpa using this
    have D := Draws.tuple (prog := X.prog) (w := X.w) (A := X.A.in1) (I.ok.hd hc) it a hai its.toArray
    refine wpAny_pyNext_enum_itemD D he ⟨hit, p⟩ hin hne (by simp [hne, Ne.symm hae]) fun y h' tk hy ho hst' hT hsz hk => ?_
    have hyu : u = y := by
      rw [List.getElem?_toArray, hu] at hy
      exact Option.some.inj hy
    subst hyu
    refine ⟨_, rfl, wpAny_letOwnedTupleGo_enum (s := { s with heap := h', toks := tk + 1 }) ho fun h'' he' sb => ?_⟩
    have hT2 : h''.get? s.heap.objs.size = some { cls := .type "tuple", data := .seq #[.int i tk, u] } := (sb.2 _ (Nat.ne_of_gt hel)).trans hT
    have new : ObjOk X.prog X.w (upd H s.heap.objs.size (.tup [.int (i : Nat), x])) h'' s.heap.objs.size (.tup [.int (i : Nat), x]) :=
      ⟨by show 2 ≤ sizeLine; decide, [.int i tk, u], .cons ⟨_, rfl⟩ (.cons ru .nil), ⟨_, hT2, rfl, _, rfl⟩⟩
    have I1 : Inv X pins σ (upd H s.heap.objs.size (.tup [.int (i : Nat), x])) { s with heap := h'', toks := tk + 1 } :=
      I.turnedNew (ch := [e, it]) (fun b ob hb q => (sb.2 b (fun z => hb (by simp [z]))).trans (hk b ob (fun z => hb (by simp [z])) (fun z => hb (by simp [z])) q)) hf (Nat.le_refl _) new
    refine ⟨.ref s.heap.objs.size, _, I1, rfl, ⟨_, x, rfl, I.hok.fresh (Nat.le_refl _), rfl, fun ys hy => by rw [I.tuple_inj hy hq]; exact hx⟩, ⟨⟨u, ?_⟩, hst'.1.at fun o q => (sb.2 it (Ne.symm hne)).trans q, hne, hai, hae⟩, fun b hb => ?_⟩
    · have e1 : ((i + 1 : Nat) : Int) = (i : Int) + 1 := by omega
      rw [e1]; exact he'
    · have hb' : b < s.heap.objs.size := by
        have e' : b = e ∨ b = it := by simpa using hb
        rcases e' with z | z
        · rw [z]; exact hel
        · rw [z]; exact hil
      rw [upd_ne (Nat.ne_of_lt hb')]
      exact (hf b hb).1
  done := by
    intro X hP hw hK hc i pins s σ H E I hf st hg
    subst hP hw hK
    obtain ⟨⟨old, he⟩, hit, hne, hai, hae⟩ := st
    obtain ⟨xs, hq, hx⟩ := hg
    obtain ⟨its, rv, p, hz⟩ := I.tuple hq
    obtain ⟨f0, f1, f2, f3, f4, f5⟩ := hf it (by simp)
    have hl := rv.length
    have D := Draws.tuple (prog := X.prog) (w := X.w) (A := X.A.in1) (I.ok.hd hc) it a hai its.toArray
    have hn : its.toArray.size = i := by simp; omega
    refine wpAny_pyNext_enum_endD D he (hn ▸ ⟨hit, p⟩) fun h' eb => ⟨rfl, I.turned (t' := s.toks) (fun b o hb q => eb b o hb q) f0 f1 f3 f4 f5⟩
  self := fun A i s Q E st h => let ⟨⟨_, he⟩, _⟩ := st; wpAny_pyIter_enum he h
def iEnumT (K : PySem.W.Frag) (ta : TA) : TI := fun σ H R => ta σ H fun vs H1 => ∃ a xs, vs = [.ref a] ∧ ((SqL K H1 a xs ∧ R (Ite K a) H1) ∨ (SqT K H1 a xs ∧ R (IteT K a) H1))
theorem pi_enumA {X : Cx} {e : Expr} {ta : TA} {p pos tpos : Pos} {elts : List Expr} {kk : Nat} (hg : Gl X "enumerate") (hm : X.mg "enumerate" = none) (ha : PA X [e] ta) (hs : starEach [e] X.env = [(false, eval e X.env)] := by rfl) :
    PI X (.Tuple elts kk tpos) (.Call (.Name "enumerate" p) [e] [] pos) (iEnumT X.K ta) := by
  refine ⟨fun pins s σ H R I h => ?_⟩
  refine Call_ (ld_blt I hg hm boot_enumerate (PyProof.Rows.callWith_type1 (thn (ha.run pos pins s σ H _ I h) fun us s1 ⟨vs, H1, I1, r1, q1⟩ => ?_) hs rfl))
  obtain ⟨a, xs, ex, q⟩ := q1
  subst ex
  cases r1 with
  | cons r rr =>
    cases rr
    cases r
    have new : ∀ (h' : Heap) (hk : ∀ b o, s1.heap.get? b = some o → h'.get? b = some o), Inv X pins σ H1 { s1 with heap := h' } → ∀ b ∈ [s1.heap.objs.size + 1, s1.heap.objs.size], FpOk X pins H1 b := fun h' hk I2 b hb => by
      have e' : b = s1.heap.objs.size + 1 ∨ b = s1.heap.objs.size := by simpa using hb
      have hle : s1.heap.objs.size ≤ b := by
        rcases e' with z | z
        · rw [z]; exact Nat.le_add_right _ _
        · rw [z]; exact Nat.le_refl _
      exact I1.fpOk hle (I1.hok.fresh hle)
    rcases q with ⟨hq, q⟩ | ⟨hq, q⟩
    · obtain ⟨its, rv, p', hz⟩ := I1.list hq
      refine call_enumerate_list p'.isList fun h' he hit hsz hk => wpAny_pyIter_enum he ?_
      have I2 : Inv X pins σ H1 { s1 with heap := h' } := I1.kept (t' := s1.toks) hk
      exact ⟨s1.heap.objs.size + 1, [s1.heap.objs.size + 1, s1.heap.objs.size], _, _, H1, rfl, I2, turn_enum a (s1.heap.objs.size + 1) s1.heap.objs.size, ⟨⟨.none, he⟩, hit, Nat.succ_ne_self _⟩, new h' hk I2, q⟩
    · obtain ⟨its, rv, p', hz⟩ := I1.tuple hq
      have pT : s1.heap.IsTuple a its.toArray := p'
      have hal : a < s1.heap.objs.size := by obtain ⟨o, ho, _⟩ := pT; exact Heap.lt_size ho
      refine call_enum1 (begins_tuple a its.toArray) pT fun h' he hit hsz hk => wpAny_pyIter_enum he ?_
      have I2 : Inv X pins σ H1 { s1 with heap := h' } := I1.kept (t' := s1.toks) hk
      exact ⟨s1.heap.objs.size + 1, [s1.heap.objs.size + 1, s1.heap.objs.size], _, _, H1, rfl, I2, turn_enumT a (s1.heap.objs.size + 1) s1.heap.objs.size,
        ⟨⟨.none, he⟩, ⟨_, hit, rfl, rfl⟩, Nat.succ_ne_self _, Nat.ne_of_lt hal, Nat.ne_of_lt (Nat.lt_succ_of_lt hal)⟩, new h' hk I2, q⟩

/-! ### sorted(tuple of ints) -/
section
variable {prog : Program} {w : World} {A : Around} {E : Value → Shared → Prop} {s : Shared}
theorem collect_tup {l : Addr} {vs : List Value} {Q : List Value → Shared → Prop} (hl : IsTup s.heap l vs.toArray)
    (h : Q vs { s with heap := (s.heap.push (seqObj "list" #[] 0)).update s.heap.objs.size (Obj.mapSeq (· ++ vs.toArray)) }) (hsz : vs.length ≤ sizeLine) :
    wpAny (model prog w) A (collect (.ref l)) Q E s := by
  obtain ⟨o, ho, hc, n, hd⟩ := id hl
  unfold collect
  refine wpAny_bind (wpAny_runValue (codeAny_builtin entry_proto_collect' ?_))
  show wpAny _ _ (do again (.builtin "list.__iadd__" ⟨[← newList [], .ref l], []⟩)) _ _ s
  refine wpAny_bind (wpAny_newList (wpAny_pure ⟨Code.quiet_builtin _ (by decide +kernel), codeAny_builtin entry_list_iadd' ?_⟩))
  show wpAny _ _ (Builtin.List.listExtendWith (.ref s.heap.objs.size) (.ref l) (.ref s.heap.objs.size)) _ _ { s with heap := s.heap.push (seqObj "list" #[] 0) }
  unfold Builtin.List.listExtendWith
  have ho' : (s.heap.push (seqObj "list" #[] 0)).get? l = some o := Heap.get?_push_of_some _ ho
  refine wpAny_bind (wpAny_typeOf (T := "tuple") ⟨o, ho', hc⟩ ?_)
  have ht : (Value.type "tuple" == Value.type "tuple") = true := by rfl
  rw [if_pos (by rw [ht]; simp)]
  refine wpAny_bind (listItems_at ho' hd ?_)
  refine wpAny_bind (listItems_at (xs := #[]) (n := 0) (Heap.get?_push_size _ rfl) rfl ?_)
  rw [if_neg (by simp)]
  refine wpAny_bind (listUpdate_at (xs := #[]) (n := 0) (Heap.get?_push_size _ rfl) rfl ?_ (Nat.zero_le _) (by show (#[] ++ vs.toArray).size ≤ sizeLine + 1; simp only [Array.size_append, List.size_toArray, List.length_nil]; omega))
  refine wpAny_pure ?_
  show wpAny (model prog w) A (do
      let o ← load s.heap.objs.size
      match o.data with
      | .seq xs _ => pure xs.toList
      | _ => unsupported "internal:collect") Q E { s with heap := (s.heap.push (seqObj "list" #[] 0)).update s.heap.objs.size (Obj.mapSeq (· ++ vs.toArray)) }
  refine wpAny_bind (wpAny_load (get?_update_seq (Heap.get?_push_size _ rfl) _) ?_)
  show wpAny _ _ (pure ((#[] : Array Value) ++ vs.toArray).toList) Q E _
  rw [show ((#[] : Array Value) ++ vs.toArray).toList = vs by simp]
  exact wpAny_pure h
theorem sortedKAnyT {κ : KeyKind} (hO : κ.OneLt) {l : Addr} {vs : List Value} {Q : Value → Shared → Prop} (hl : IsTup s.heap l vs.toArray) (h0 : KeysOf κ (pairsOf vs)) (hkk : ∀ v₁ v₂ rest, vs = v₁ :: v₂ :: rest → keyKind' (v₁ :: v₂ :: rest).toArray = pure oneType') (hL : vs.length ≤ sizeLine)
    (h : ∀ st' : SortSt, (arrOf st').Perm (pairsOf vs) → SortedToK κ (arrOf st') (pairsOf vs).size → Q (.ref (s.heap.objs.size + 1)) { s with heap := sortedAll s.heap vs ((arrOf st').map (·.2)) }) :
    wpAny (model prog w) A (call (.builtin "sorted") [.ref l]) Q E s := by
  refine Calls.call_function_entry kind_sorted plain_sorted entry_sorted (args_sorted1 _) ?_
  unfold Builtin.«sorted»
  refine wpAny_bind (m := checkCount "sorted" 1 1 _) (wpAny_pure ?_)
  refine wpAny_bind (collect_tup hl ?_ hL)
  refine wpAny_bind (wpAny_newList ?_ hL)
  have hsz : ((s.heap.push (seqObj "list" #[] 0)).update s.heap.objs.size (Obj.mapSeq (· ++ vs.toArray))).objs.size = s.heap.objs.size + 1 := by
    rw [Heap.size_update, size_push']
  have hoL : (((s.heap.push (seqObj "list" #[] 0)).update s.heap.objs.size (Obj.mapSeq (· ++ vs.toArray))).push (seqObj "list" vs.toArray 0)).get? (s.heap.objs.size + 1) = some (seqObj "list" vs.toArray 0) := by
    rw [← hsz]; exact Heap.get?_push_size _ rfl
  show wpAny _ _ _ _ _ { s with heap := ((s.heap.push (seqObj "list" #[] 0)).update s.heap.objs.size (Obj.mapSeq (· ++ vs.toArray))).push (seqObj "list" vs.toArray 0) }
  rw [hsz]
  refine wpAny_bind (wpAny_holding (wpAny_call_entry slot_list_sort ⟨_, hoL, rfl⟩ entry_list_sort (list_sort_treeKAny hO hoL h0 hkk hL fun st' a1 a2 => ⟨_, rfl, ?_⟩) (args_list_sort _)))
  exact wpAny_pure ⟨_, rfl, h st' a1 a2⟩
theorem sorted_intsAnyT {l : Addr} {vs : List Value} {ns : List Int} {Q : Value → Shared → Prop} (hl : IsTup s.heap l vs.toArray) (hI : IntsAre vs ns) (hL : vs.length ≤ sizeLine)
    (h : ∀ (out : Array Value) (ns' : List Int), IntsAre out.toList ns' → ns'.Perm ns → ns'.Pairwise (· ≤ ·) → Q (.ref (s.heap.objs.size + 1)) { s with heap := sortedAll s.heap vs out }) :
    wpAny (model prog w) A (call (.builtin "sorted") [.ref l]) Q E s := by
  refine sortedKAnyT intKind_oneLt hl hI.keysOfInt (fun v₁ v₂ rest e => keyKind_ints (by rw [← e]; exact hI)) hL fun st' hp hs => ?_
  obtain ⟨ns', h1, h2, h3⟩ := sorted_out hI hp (sortedTo_of_int hs)
  exact h _ ns' h1 h2 h3
end
/-- sorted of ints, a list or a tuple of any length -/
def rSortedA (K : PySem.W.Frag) : List V → Hp → VK → Prop := fun vs H Q => ∃ (a : Addr) (ns : List Int), vs = [V.ref a] ∧ (SqL K H a (ns.map V.int) ∨ SqT K H a (ns.map V.int)) ∧ ∀ (ns' : List Int) (p : Addr), ns'.Perm ns → ns'.Pairwise (· ≤ ·) → H p = none → Q (.ref p) (upd H p (.lst (ns'.map V.int)))
theorem cr_sortedA {X : Cx} : CallR X (.builtin "sorted") (rSortedA X.K) := by
  intro pins s σ H vs us Q I r h
  obtain ⟨a, ns, rfl, hs, q⟩ := h
  rw [Vals.ref1 r]
  rcases hs with hs | hs
  · obtain ⟨its, rv, hl, hz⟩ := I.list hs
    have hi := rv.ints
    rw [List.length_map] at hz
    refine PyProof.Rows.sorted_intsAny hl.isList hi (by rw [hi.length]; exact hz) fun out ns' h1 h2 h3 => ?_
    obtain ⟨ep, he'⟩ := PyProof.Rows.sortedAll_at s.heap its out
    have hlen : (ns'.map V.int).length ≤ sizeLine := by rw [List.length_map, h2.length_eq]; exact hz
    exact ⟨.ref _, upd H (s.heap.objs.size + 1) (.lst (ns'.map V.int)), I.laid (t' := s.toks) (fun _ _ => PyProof.Rows.sortedAll_old) (Nat.le_succ _) ⟨hlen, out.toList, ep, vals_of_ints h1, he'⟩, rfl, q ns' _ h2 h3 (I.hok.fresh (Nat.le_succ _))⟩
  · obtain ⟨its, rv, hl, hz⟩ := I.tuple hs
    have hi := rv.ints
    rw [List.length_map] at hz
    refine sorted_intsAnyT hl hi (by rw [hi.length]; exact hz) fun out ns' h1 h2 h3 => ?_
    obtain ⟨ep, he'⟩ := PyProof.Rows.sortedAll_at s.heap its out
    have hlen : (ns'.map V.int).length ≤ sizeLine := by rw [List.length_map, h2.length_eq]; exact hz
    exact ⟨.ref _, upd H (s.heap.objs.size + 1) (.lst (ns'.map V.int)), I.laid (t' := s.toks) (fun _ _ => PyProof.Rows.sortedAll_old) (Nat.le_succ _) ⟨hlen, out.toList, ep, vals_of_ints h1, he'⟩, rfl, q ns' _ h2 h3 (I.hok.fresh (Nat.le_succ _))⟩
/-- max(list of ints, default=d) -/
def rMaxDf (K : PySem.W.Frag) : List V → List V → Hp → VK → Prop := fun vs ws H Q => ∃ (a : Addr) (ns : List Int) (d : V), vs = [V.ref a] ∧ ws = [d] ∧ SqL K H a (ns.map V.int) ∧ (ns = [] → Q d H) ∧ ∀ y ys, ns = y :: ys → Q (.int (PySem.W.maxOf y ys)) H
theorem run_maxDf {X : Cx} (hc : X.calm = true) (hu : X.A.units + 10 < cLine) {pins : List (Addr × Obj)} {s : Shared} {σ : L2.St} {H : Hp} {vs ws : List V} {us zs : List Value} {Q : VK} (I : Inv X pins σ H s) (r : Vals vs us) (rz : Vals ws zs) (h : rMaxDf X.K vs ws H Q) :
    wpAny (model X.prog X.w) X.A (call (.builtin "max") us [("default", zs.headD .none)]) (EP X pins σ Q) X.xe s := by
  obtain ⟨a, ns, d, rfl, rfl, hs, h0, h1⟩ := h
  obtain ⟨its, rv, hl, hz⟩ := I.list hs
  rw [Vals.ref1 r]
  cases rz with
  | cons rd rt =>
    cases rt
    rename_i dv
    have hi := rv.ints
    refine PySem.W.max_list_datum_default (α := Int) (I.ok.hd hc) hl.isList (xs := ns) ?_ ?_ (fun e h' tk k => ?_) (fun y ys i v h' tk e hv hh k => ?_)
    · rw [show its.toArray.toList = its by simp]; exact PySem.W.HoldAll.of_ints hi
    · show X.A.units + 1 + 0 < cLine; omega
    · exact ⟨d, H, I.kept (t' := tk) k, rd, h0 e⟩
    · refine ⟨_, H, I.kept (t' := tk) k, ?_, h1 y ys e⟩
      obtain ⟨as, hr⟩ := hh
      have hr : Reads h' v (.int (PySem.W.maxOf y ys)) as := hr
      cases hr
      exact ⟨_, rfl⟩
/-- max(e, default=d) -/
theorem pe_maxDf {X : Cx} {e d : Expr} {es : List Expr} {x : Str} {p pos kp : Pos} {ta td : TE} (hc : X.calm = true) (hu : X.A.units + 10 < cLine) (hg : Gl X "max") (hm : X.mg "max" = none) (ha : PE X e ta) (hd : PE X d td)
    (he : starEach [e] X.env = (false, eval e X.env) :: starEach [] X.env := by rfl) :
    PE X (.Call (.Name "max" p) [e] [⟨some "default", d, kp⟩] pos) (fun σ H Q => ta σ H fun v H1 => td σ H1 fun w H2 => rMaxDf X.K [v] [w] H2 Q) := by
  refine ⟨fun pins s σ H Q I h => ?_⟩
  refine wpAny_Call_Name_kw (ld_blt (u := .builtin "max") I hg hm (by decide +kernel) ?_ (by decide))
  have hs : starEach [e] X.env = (false, eval e X.env) :: starEach [] X.env := he
  refine callWith_kw (id := "max") (kws := [⟨some "default", d, kp⟩]) (thn ((pa_cons ha pa_nil hs).run pos pins s σ H (fun vs H1 => tCons td tNil σ H1 fun ws H2 => rMaxDf X.K vs ws H2 Q) I h) fun us s1 ⟨vs, H1, I1, r, q⟩ => ?_) (by rw [hs]; rfl) (by rw [hs]; rfl) (by rfl) (by rfl)
  refine thn ((pk_cons (nm := some "default") (kpos := kp) hd pk_nil).run pos pins s1 σ H1 (fun ws H2 => rMaxDf X.K vs ws H2 Q) I1 q) fun zs s2 ⟨ws, H2, I2, rz, q2⟩ => ?_
  have q3 := run_maxDf hc hu I2 r rz q2
  obtain ⟨_, _, _, _, e2, _⟩ := q2
  subst e2
  cases rz with
  | cons rd rt =>
    cases rt
    exact q3
end TL

end
section
set_option Elab.async false
set_option linter.all false
set_option maxRecDepth 100000
set_option autoImplicit false
/-! TL6: slices, built-in functions -/
open PySem PySem.Spec PyProof.Rows L2
namespace TL
section
variable {X : Cx} {c : Cfg} {e a b : Expr} {es : List Expr} {pos : Pos}
/-! ### slices -/
def rSlAll (K : PySem.W.Frag) : V → Option Int → Option Int → Hp → VK → Prop := fun x lo hi H Q => rSlL K x lo hi H Q ∨ rSlF K x lo hi H Q ∨ rSlS x lo hi H Q
theorem sl_all : SlR X (rSlAll X.K) := .or sl_list (.or sl_tupF sl_str)
def slT' (t : T) (lo hi : Option Int) : Option Slot := match t with
  | .lst ts => some (.ow (.lst (cutT ts lo hi)))
  | .tup ts => some (.sh (.tup (cutT ts lo hi)))
  | .str x => if x.length ≤ sz then some (.sh (.str (cutS x lo hi))) else none
  | _ => none
theorem cut_whole {ts : List T} {lo hi : Option Int} (h : HT.sIx ts.length 0 lo = 0 ∧ HT.sIx ts.length ts.length hi = ts.length) : cutT ts lo hi = ts := by
  unfold cutT
  rw [h.1, h.2]
  simp
theorem p_sl (hK : c.g.K = X.K) : OpS c (rSlAll X.K) slT' := by
  intro F S σ τ H x l u t z Q A hx hz k
  unfold slT' at hz
  split at hz
  · cases hz
    obtain ⟨p, vs, rfl, h3, r⟩ := hx.lst A.a.fh
    exact .inl ⟨p, vs, rfl, .inl (.inl h3), fun q np => fin_ow A k (.lst (r.cut l u)) np⟩
  · cases hz
    obtain ⟨p, vs, rfl, h3, r⟩ := hx.tup A.a.fh
    refine .inr (.inl ⟨p, vs, rfl, hK ▸ h3, fun w => ?_, fun _ q o np hd => fin_tup A k (r.cut l u) np hd⟩)
    rw [r.length] at w
    rw [cut_whole w] at k
    exact fin_tupE A k hx
  · split at hz
    · cases hz
      rename_i hl
      rw [hx.str]
      exact .inr (.inr ⟨_, rfl, by rw [← sz_eq]; exact hl, fin_sh A k (.str _)⟩)
    · cases hz
  · cases hz
/-- xs[::-1] of a list -/
def revT : T → Option Slot
  | .lst ts => some (.ow (.lst ts.reverse))
  | _ => none
theorem de_rev {fa : OF} {k : Nat} {p1 p2 p3 : Pos} (ha : PE X a (rdO c fa)) : PE X (.Subscript a (.Slice none none (some (.UnaryOp .USub (.Constant (.int 1) k p1) p2)) p3) pos) (rdE c (op1 revT fa)) := by
  refine PE.imp (pe_revL ha) fun σ H Q q => op1_out (r := fun x H1 Q => ∃ a xs, x = .ref a ∧ SqL X.K H1 a xs ∧ ∀ p, H1 p = none → Q (.ref p) (upd H1 p (.lst xs.reverse))) ?_ q
  intro F S σ τ H x t z Q A hx hz k
  unfold revT at hz
  split at hz
  · cases hz
    obtain ⟨p, vs, rfl, h3, r⟩ := hx.lst A.a.fh
    exact ⟨p, vs, rfl, .inl (.inl h3), fun q np => fin_ow A k (.lst r.reverse) np⟩
  · cases hz

/-! ### calls of built-in functions -/
theorem de_callB {id : String} {r : List V → Hp → VK → Prop} {p : List T → Option Slot} {fa : AF} {x : Str} {p' : Pos} (hc : CallR X (.builtin id) r) (hp : OpN c r p) (hg : Gl X x) (hm : X.mg x = none) (hv : bootBuiltins x = some (.builtin id)) (ha : PA X (e :: es) (rdA c fa)) (hn : x ≠ "__name__" := by decide) (hdb : (x == ("__debug__" : Str)) = false := by decide)
    (he : starEach (e :: es) X.env = (false, eval e X.env) :: starEach es X.env := by rfl) (hpl : (backTo pos (starEach es X.env)).any (·.1) = false := by rfl) : PE X (.Call (.Name x p') (e :: es) [] pos) (rdE c (opN p fa)) :=
  PE.imp (pe_callB hc hg hm hv ha hn hdb he hpl) fun _ _ _ q => opN_out hp q
theorem de_callTy {id : String} {r : List V → Hp → VK → Prop} {p : List T → Option Slot} {fa : AF} {x : Str} {p' : Pos} (hc : CallR X (.type id) r) (hp : OpN c r p) (hg : Gl X x) (hm : X.mg x = none) (hv : bootBuiltins x = some (.type id)) (ha : PA X (e :: es) (rdA c fa)) (hn : x ≠ "__name__" := by decide) (hdb : (x == ("__debug__" : Str)) = false := by decide)
    (he : starEach (e :: es) X.env = (false, eval e X.env) :: starEach es X.env := by rfl) (hpl : (backTo pos (starEach es X.env)).any (·.1) = false := by rfl) : PE X (.Call (.Name x p') (e :: es) [] pos) (rdE c (opN p fa)) :=
  PE.imp (pe_callTy hc hg hm hv ha hn hdb he hpl) fun _ _ _ q => opN_out hp q
theorem PRepAll.one {g : Ga} {F H : Hp} {vs : List V} {t : T} (h : PRepAll g F H vs [t]) : ∃ v, vs = [v] ∧ PRep g F H v t := by
  cases h with
  | cons a b => cases b; exact ⟨_, rfl, a⟩
theorem PRepAll.two {g : Ga} {F H : Hp} {vs : List V} {t u : T} (h : PRepAll g F H vs [t, u]) : ∃ v w, vs = [v, w] ∧ PRep g F H v t ∧ PRep g F H w u := by
  cases h with
  | cons a b =>
    obtain ⟨w, rfl, q⟩ := b.one
    exact ⟨_, w, rfl, a, q⟩
def lenN : List T → Option Slot
  | [.lst ts] => some (.sh (.int ts.length))
  | [.tup ts] => some (.sh (.int ts.length))
  | [.str x] => if x.length ≤ sz then some (.sh (.int x.length)) else none
  | _ => none
theorem p_len (hK : c.g.K = X.K) : OpN c (fun xs H Q => ∃ x n, xs = [x] ∧ LenV X.K x H n ∧ Q (.int n) H) lenN := by
  intro F S σ τ H xs ts z Q A hx hz k
  unfold lenN at hz
  split at hz
  · cases hz
    obtain ⟨v, rfl, h⟩ := hx.one
    obtain ⟨p, vs, rfl, h3, r⟩ := h.lst A.a.fh
    exact ⟨_, vs.length, rfl, .inl ⟨vs, .inl (.inl h3), rfl⟩, fin_sh A k (by rw [r.length]; exact .int _)⟩
  · cases hz
    obtain ⟨v, rfl, h⟩ := hx.one
    obtain ⟨p, vs, rfl, h3, r⟩ := h.tup A.a.fh
    exact ⟨_, vs.length, rfl, .inr ⟨vs, hK ▸ h3, rfl⟩, fin_sh A k (by rw [r.length]; exact .int _)⟩
  · split at hz
    · cases hz
      rename_i hl
      obtain ⟨v, rfl, h⟩ := hx.one
      rw [h.str]
      exact ⟨_, _, rfl, ⟨by rw [← sz_eq]; exact hl, rfl⟩, fin_sh A k (.int _)⟩
    · cases hz
  · cases hz
def absN : List T → Option Slot
  | [.int i] => some (.sh (.int (if i < 0 then -i else i)))
  | _ => none
theorem p_abs : OpN c (fun xs H Q => ∃ i, xs = [.int i] ∧ Q (.int (if i < 0 then -i else i)) H) absN := by
  intro F S σ τ H xs ts z Q A hx hz k
  unfold absN at hz
  split at hz
  · cases hz
    obtain ⟨v, rfl, h⟩ := hx.one
    rw [h.int]
    exact ⟨_, rfl, fin_sh A k (.int _)⟩
  · cases hz
def intN : List T → Option Slot
  | [.int i] => some (.sh (.int i))
  | [.bl k] => some (.sh (.int (if k then 1 else 0)))
  | _ => none
theorem p_int : OpN c (fun xs H Q => (∃ i, xs = [.int i] ∧ Q (.int i) H) ∨ ∃ k, xs = [.bl k] ∧ Q (.int (if k then 1 else 0)) H) intN := by
  intro F S σ τ H xs ts z Q A hx hz k
  unfold intN at hz
  split at hz
  · cases hz
    obtain ⟨v, rfl, h⟩ := hx.one
    rw [h.int]
    exact .inl ⟨_, rfl, fin_sh A k (.int _)⟩
  · cases hz
    obtain ⟨v, rfl, h⟩ := hx.one
    rw [h.bl]
    exact .inr ⟨_, rfl, fin_sh A k (.int _)⟩
  · cases hz
def listN : List T → Option Slot
  | [.lst ts] => some (.ow (.lst ts))
  | [.tup ts] => some (.ow (.lst ts))
  | _ => none
theorem p_list (hK : c.g.K = X.K) : OpN c (fun xs H Q => ∃ p ys, xs = [.ref p] ∧ (SqL X.K H p ys ∨ SqT X.K H p ys) ∧ ∀ l, H l = none → Q (.ref l) (upd H l (.lst ys))) listN := by
  intro F S σ τ H xs ts z Q A hx hz k
  unfold listN at hz
  split at hz
  · cases hz
    obtain ⟨v, rfl, h⟩ := hx.one
    obtain ⟨p, vs, rfl, h3, r⟩ := h.lst A.a.fh
    exact ⟨p, vs, rfl, .inl (.inl (.inl h3)), fun q np => fin_ow A k (.lst r) np⟩
  · cases hz
    obtain ⟨v, rfl, h⟩ := hx.one
    obtain ⟨p, vs, rfl, h3, r⟩ := h.tup A.a.fh
    exact ⟨p, vs, rfl, .inr (hK ▸ h3), fun q np => fin_ow A k (.lst r) np⟩
  · cases hz
def tupleN : List T → Option Slot
  | [.lst ts] => some (.sh (.tup ts))
  | [.tup ts] => some (.sh (.tup ts))
  | _ => none
theorem p_tuple (hK : c.g.K = X.K) : OpN c (fun xs H Q => ∃ p ys, xs = [.ref p] ∧ ((SqL X.K H p ys ∧ ∀ (l : Addr) (o : Obj), H l = none → o.dict = none → Q (.ref l) (upd H l (.frz o (.tup ys)))) ∨ (SqT X.K H p ys ∧ Q (.ref p) H))) tupleN := by
  intro F S σ τ H xs ts z Q A hx hz k
  unfold tupleN at hz
  split at hz
  · cases hz
    obtain ⟨v, rfl, h⟩ := hx.one
    obtain ⟨p, vs, rfl, h3, r⟩ := h.lst A.a.fh
    exact ⟨p, vs, rfl, .inl ⟨.inl (.inl h3), fun q o np hd => fin_tup A k r np hd⟩⟩
  · cases hz
    obtain ⟨v, rfl, h⟩ := hx.one
    obtain ⟨p, vs, rfl, h3, r⟩ := h.tup A.a.fh
    exact ⟨p, vs, rfl, .inr ⟨hK ▸ h3, fin_tupE A k h⟩⟩
  · cases hz
def intsT : List T → Option (List Int)
  | [] => some []
  | .int i :: ts => (intsT ts).map (i :: ·)
  | _ :: _ => none
theorem intsT_map : ∀ ns : List Int, intsT (ns.map T.int) = some ns
  | [] => rfl
  | n :: ns => by rw [List.map_cons, intsT, intsT_map ns]; rfl
theorem intsT_of : ∀ {ts : List T} {ns : List Int}, intsT ts = some ns → ts = ns.map T.int
  | [], _, h => by cases h; rfl
  | t :: ts, ns, h => by
    cases t <;> simp only [intsT] at h <;> first
      | cases h; done
      | (obtain ⟨ms, h1, h2⟩ := Option.map_eq_some_iff.mp h
         subst h2
         rw [List.map_cons, intsT_of h1])
def boolsT : List T → Option (List Bool)
  | [] => some []
  | .bl i :: ts => (boolsT ts).map (i :: ·)
  | _ :: _ => none
theorem boolsT_map : ∀ ns : List Bool, boolsT (ns.map T.bl) = some ns
  | [] => rfl
  | n :: ns => by rw [List.map_cons, boolsT, boolsT_map ns]; rfl
theorem boolsT_of : ∀ {ts : List T} {ns : List Bool}, boolsT ts = some ns → ts = ns.map T.bl
  | [], _, h => by cases h; rfl
  | t :: ts, ns, h => by
    cases t <;> simp only [boolsT] at h <;> first
      | cases h; done
      | (obtain ⟨ms, h1, h2⟩ := Option.map_eq_some_iff.mp h
         subst h2
         rw [List.map_cons, boolsT_of h1])
def onInts (f : List Int → Option Slot) : List T → Option Slot
  | [.lst ts] => (intsT ts).bind f
  | _ => none
def onBools (f : List Bool → Slot) : List T → Option Slot
  | [.lst ts] => (boolsT ts).map f
  | _ => none
abbrev sumN : List T → Option Slot := onInts fun ns => some (.sh (.int ns.sum))
abbrev allN : List T → Option Slot := onBools fun bs => .sh (.bl (bs.all id))
abbrev anyN : List T → Option Slot := onBools fun bs => .sh (.bl (bs.any id))
theorem onInts_of {F H : Hp} {S : Sta} {σ τ : List (Option V)} {xs : List V} {ts : List T} {f : List Int → Option Slot} {z : Slot} (A : AbsX c F S σ τ H) (hx : PRepAll c.g F H xs ts) (hz : onInts f ts = some z) : ∃ (a : Addr) (ns : List Int), xs = [V.ref a] ∧ H a = some (.lst (ns.map V.int)) ∧ f ns = some z := by
  unfold onInts at hz
  split at hz
  · obtain ⟨ns, h1, h2⟩ := Option.bind_eq_some_iff.mp hz
    have e := intsT_of h1
    subst e
    obtain ⟨v, rfl, h⟩ := hx.one
    obtain ⟨p, vs, rfl, h3, r⟩ := h.lst A.a.fh
    rw [r.ints] at h3
    exact ⟨p, ns, rfl, h3, h2⟩
  · cases hz
theorem onBools_of {F H : Hp} {S : Sta} {σ τ : List (Option V)} {xs : List V} {ts : List T} {f : List Bool → Slot} {z : Slot} (A : AbsX c F S σ τ H) (hx : PRepAll c.g F H xs ts) (hz : onBools f ts = some z) : ∃ (a : Addr) (ns : List Bool), xs = [V.ref a] ∧ H a = some (.lst (ns.map V.bl)) ∧ f ns = z := by
  unfold onBools at hz
  split at hz
  · obtain ⟨ns, h1, h2⟩ := Option.map_eq_some_iff.mp hz
    have e := boolsT_of h1
    subst e
    obtain ⟨v, rfl, h⟩ := hx.one
    obtain ⟨p, vs, rfl, h3, r⟩ := h.lst A.a.fh
    rw [r.bools] at h3
    exact ⟨p, ns, rfl, h3, h2⟩
  · cases hz
theorem p_sum {K : PySem.W.Frag} : OpN c (rSum K) sumN := by
  intro F S σ τ H xs ts z Q A hx hz k
  obtain ⟨a, ns, rfl, h, e⟩ := onInts_of A hx hz
  cases e
  exact ⟨a, ns, rfl, .inl (.inl h), fin_sh A k (.int _)⟩
theorem p_all {K : PySem.W.Frag} : OpN c (rAll K) allN := by
  intro F S σ τ H xs ts z Q A hx hz k
  obtain ⟨a, ns, rfl, h, e⟩ := onBools_of A hx hz
  subst e
  exact ⟨a, ns, rfl, .inl (.inl h), fin_sh A k (.bl _)⟩
theorem p_any {K : PySem.W.Frag} : OpN c (rAny K) anyN := by
  intro F S σ τ H xs ts z Q A hx hz k
  obtain ⟨a, ns, rfl, h, e⟩ := onBools_of A hx hz
  subst e
  exact ⟨a, ns, rfl, .inl (.inl h), fin_sh A k (.bl _)⟩
/-! greatest, least -/
def maxI (x : Int) (xs : List Int) : Int := xs.foldl (fun a y => if a < y then y else a) x
def minI (x : Int) (xs : List Int) : Int := xs.foldl (fun a y => if y < a then y else a) x
theorem maxI_spec : ∀ (xs : List Int) (x : Int), (maxI x xs = x ∨ maxI x xs ∈ xs) ∧ x ≤ maxI x xs ∧ ∀ y ∈ xs, y ≤ maxI x xs
  | [], x => ⟨.inl rfl, Int.le_refl _, fun _ h => nomatch h⟩
  | y :: ys, x => by
    obtain ⟨h1, h2, h3⟩ := maxI_spec ys (if x < y then y else x)
    have e : maxI x (y :: ys) = maxI (if x < y then y else x) ys := rfl
    rw [e]
    obtain ⟨w, hw⟩ : ∃ w, w = if x < y then y else x := ⟨_, rfl⟩
    rw [← hw] at h1 h2 h3 ⊢
    have hw2 : x ≤ w ∧ y ≤ w := by rw [hw]; split <;> omega
    refine ⟨?_, ?_, fun z hz => ?_⟩
    · rcases h1 with h1 | h1
      · rw [h1, hw]; split
        · exact .inr List.mem_cons_self
        · exact .inl rfl
      · exact .inr (List.mem_cons_of_mem _ h1)
    · omega
    · rcases List.mem_cons.mp hz with rfl | hz
      · omega
      · exact h3 z hz
theorem minI_spec : ∀ (xs : List Int) (x : Int), (minI x xs = x ∨ minI x xs ∈ xs) ∧ minI x xs ≤ x ∧ ∀ y ∈ xs, minI x xs ≤ y
  | [], x => ⟨.inl rfl, Int.le_refl _, fun _ h => nomatch h⟩
  | y :: ys, x => by
    obtain ⟨h1, h2, h3⟩ := minI_spec ys (if y < x then y else x)
    have e : minI x (y :: ys) = minI (if y < x then y else x) ys := rfl
    rw [e]
    obtain ⟨w, hw⟩ : ∃ w, w = if y < x then y else x := ⟨_, rfl⟩
    rw [← hw] at h1 h2 h3 ⊢
    have hw2 : w ≤ x ∧ w ≤ y := by rw [hw]; split <;> omega
    refine ⟨?_, ?_, fun z hz => ?_⟩
    · rcases h1 with h1 | h1
      · rw [h1, hw]; split
        · exact .inr List.mem_cons_self
        · exact .inl rfl
      · exact .inr (List.mem_cons_of_mem _ h1)
    · omega
    · rcases List.mem_cons.mp hz with rfl | hz
      · omega
      · exact h3 z hz
abbrev maxN : List T → Option Slot := onInts fun ns => match ns with
  | [] => none
  | x :: xs => some (.sh (.int (maxI x xs)))
abbrev minN : List T → Option Slot := onInts fun ns => match ns with
  | [] => none
  | x :: xs => some (.sh (.int (minI x xs)))
theorem p_max {K : PySem.W.Frag} : OpN c (rMax K) maxN := by
  intro F S σ τ H xs ts z Q A hx hz k
  obtain ⟨a, ns, rfl, h, e⟩ := onInts_of A hx hz
  cases ns with
  | nil => cases e
  | cons x xs =>
    cases e
    refine ⟨a, _, rfl, .inl (.inl h), by simp, fun m hm hb => ?_⟩
    obtain ⟨h1, h2, h3⟩ := maxI_spec xs x
    have hle : maxI x xs ≤ m := by
      rcases h1 with h1 | h1
      · rw [h1]; exact hb x List.mem_cons_self
      · exact hb _ (List.mem_cons_of_mem _ h1)
    have hge : m ≤ maxI x xs := by
      rcases List.mem_cons.mp hm with rfl | hm
      · exact h2
      · exact h3 m hm
    rw [show m = maxI x xs by omega]
    exact fin_sh A k (.int _)
theorem p_min {K : PySem.W.Frag} : OpN c (rMin K) minN := by
  intro F S σ τ H xs ts z Q A hx hz k
  obtain ⟨a, ns, rfl, h, e⟩ := onInts_of A hx hz
  cases ns with
  | nil => cases e
  | cons x xs =>
    cases e
    refine ⟨a, _, rfl, .inl (.inl h), by simp, fun m hm hb => ?_⟩
    obtain ⟨h1, h2, h3⟩ := minI_spec xs x
    have hle : m ≤ minI x xs := by
      rcases h1 with h1 | h1
      · rw [h1]; exact hb x List.mem_cons_self
      · exact hb _ (List.mem_cons_of_mem _ h1)
    have hge : minI x xs ≤ m := by
      rcases List.mem_cons.mp hm with rfl | hm
      · exact h2
      · exact h3 m hm
    rw [show m = minI x xs by omega]
    exact fin_sh A k (.int _)
def max2N : List T → Option Slot
  | [.int i, .int j] => some (.sh (.int (if j > i then j else i)))
  | _ => none
theorem p_max2 : OpN c (fun xs H Q => ∃ i j, xs = [.int i, .int j] ∧ Q (.int (if j > i then j else i)) H) max2N := by
  intro F S σ τ H xs ts z Q A hx hz k
  unfold max2N at hz
  split at hz
  · cases hz
    obtain ⟨v, w, rfl, h, h'⟩ := hx.two
    rw [h.int, h'.int]
    exact ⟨_, _, rfl, fin_sh A k (.int _)⟩
  · cases hz
def min2N : List T → Option Slot
  | [.int i, .int j] => some (.sh (.int (if j < i then j else i)))
  | _ => none
theorem p_min2 : OpN c (fun xs H Q => ∃ i j, xs = [.int i, .int j] ∧ Q (.int (if j < i then j else i)) H) min2N := by
  intro F S σ τ H xs ts z Q A hx hz k
  unfold min2N at hz
  split at hz
  · cases hz
    obtain ⟨v, w, rfl, h, h'⟩ := hx.two
    rw [h.int, h'.int]
    exact ⟨_, _, rfl, fin_sh A k (.int _)⟩
  · cases hz
def maxDfT (t u : T) : Option Slot := match t, u with
  | .lst ts, .int d => (intsT ts).map fun ns => match ns with
    | [] => .sh (.int d)
    | x :: xs => .sh (.int (maxI x xs))
  | _, _ => none
theorem maxOf_eq : ∀ (xs : List Int) (x : Int), PySem.W.maxOf x xs = maxI x xs
  | [], _ => rfl
  | y :: ys, x => by
    have h1 : PySem.W.maxOf x (y :: ys) = PySem.W.maxOf (if PySem.W.DatumOrd.lt x y = true then y else x) ys := rfl
    have h2 : maxI x (y :: ys) = maxI (if x < y then y else x) ys := rfl
    have h3 : (if PySem.W.DatumOrd.lt x y = true then y else x) = if x < y then y else x := by
      show (if decide (x < y) = true then y else x) = _
      simp
    rw [h1, h2, h3, maxOf_eq ys]
theorem de_maxDf {d : Expr} {p' kp : Pos} {fa fd : OF} (hc : X.calm = true) (hu : X.A.units + 10 < cLine) (hg : Gl X "max") (hm : X.mg "max" = none) (ha : PE X e (rdO c fa)) (hd : PE X d (rdO c fd))
    (he : starEach [e] X.env = (false, eval e X.env) :: starEach [] X.env := by rfl) : PE X (.Call (.Name "max" p') [e] [⟨some "default", d, kp⟩] pos) (rdE c (op2 maxDfT fa fd)) := by
  refine PE.imp (pe_maxDf (es := []) (x := "max") hc hu hg hm ha hd he) fun σ H Q q => op2_out (r := fun v w H2 Q => rMaxDf X.K [v] [w] H2 Q) ?_ q
  intro F S σ τ H x y t u z Q A hx hy hz k
  unfold maxDfT at hz
  split at hz
  · obtain ⟨ns, h1, h2⟩ := Option.map_eq_some_iff.mp hz
    have e := intsT_of h1
    subst e
    obtain ⟨p, vs, rfl, h3, r⟩ := hx.lst A.a.fh
    rw [r.ints] at h3
    rw [hy.int]
    refine ⟨p, ns, _, rfl, rfl, .inl (.inl h3), fun e => ?_, fun y ys e => ?_⟩
    · subst e; subst h2; exact fin_sh A k (.int _)
    · subst e; subst h2; rw [maxOf_eq]; exact fin_sh A k (.int _)
  · cases hz
/-! sorted -/
def insI (x : Int) : List Int → List Int
  | [] => [x]
  | y :: ys => if x ≤ y then x :: y :: ys else y :: insI x ys
def sortI : List Int → List Int
  | [] => []
  | x :: xs => insI x (sortI xs)
theorem insI_perm (x : Int) : ∀ ys, (insI x ys).Perm (x :: ys)
  | [] => List.Perm.refl _
  | y :: ys => by
    unfold insI
    split
    · exact List.Perm.refl _
    · exact ((insI_perm x ys).cons y).trans (List.Perm.swap x y ys)
theorem sortI_perm : ∀ xs, (sortI xs).Perm xs
  | [] => List.Perm.refl _
  | x :: xs => (insI_perm x (sortI xs)).trans ((sortI_perm xs).cons x)
theorem insI_pw (x : Int) : ∀ ys : List Int, ys.Pairwise (· ≤ ·) → (insI x ys).Pairwise (· ≤ ·)
  | [], _ => List.pairwise_singleton ..
  | y :: ys, h => by
    unfold insI
    split
    · rename_i hx
      refine List.Pairwise.cons (fun z hz => ?_) h
      rcases List.mem_cons.mp hz with rfl | hz
      · exact hx
      · exact Int.le_trans hx (List.rel_of_pairwise_cons h hz)
    · rename_i hx
      refine List.Pairwise.cons (fun z hz => ?_) (insI_pw x ys h.of_cons)
      rcases List.mem_cons.mp ((insI_perm x ys).subset hz) with rfl | hz
      · omega
      · exact List.rel_of_pairwise_cons h hz
theorem sortI_pw : ∀ xs : List Int, (sortI xs).Pairwise (· ≤ ·)
  | [] => List.Pairwise.nil
  | x :: xs => insI_pw x _ (sortI_pw xs)
def sortedN : List T → Option Slot
  | [.lst ts] => (intsT ts).map fun ns => .ow (.lst ((sortI ns).map T.int))
  | [.tup ts] => (intsT ts).map fun ns => .ow (.lst ((sortI ns).map T.int))
  | _ => none
theorem p_sorted (hK : c.g.K = X.K) : OpN c (rSortedA X.K) sortedN := by
  intro F S σ τ H xs ts z Q A hx hz k
  have fin : ∀ (ns ns' : List Int) (p : Addr), z = .ow (.lst ((sortI ns).map T.int)) → ns'.Perm ns → ns'.Pairwise (· ≤ ·) → H p = none → Q (.ref p) (upd H p (.lst (ns'.map V.int))) := fun ns ns' p e h1 h2 np => by
    subst e
    rw [PySem.W.os_sorted_one (h1.trans (sortI_perm ns).symm) h2 (sortI_pw ns)]
    exact fin_ow A k (.lst (RepAll.of_ints _)) np
  unfold sortedN at hz
  split at hz
  · obtain ⟨ns, h1, h2⟩ := Option.map_eq_some_iff.mp hz
    have e := intsT_of h1
    subst e
    obtain ⟨v, rfl, h⟩ := hx.one
    obtain ⟨p, vs, rfl, h3, r⟩ := h.lst A.a.fh
    rw [r.ints] at h3
    exact ⟨p, ns, rfl, .inl (.inl (.inl h3)), fun ns' p q1 q2 q3 => fin ns ns' p h2.symm q1 q2 q3⟩
  · obtain ⟨ns, h1, h2⟩ := Option.map_eq_some_iff.mp hz
    have e := intsT_of h1
    subst e
    obtain ⟨v, rfl, h⟩ := hx.one
    obtain ⟨p, vs, rfl, h3, r⟩ := h.tup A.a.fh
    rw [r.ints] at h3
    exact ⟨p, ns, rfl, .inr (hK ▸ h3), fun ns' p q1 q2 q3 => fin ns ns' p h2.symm q1 q2 q3⟩
  · cases hz
/-! isinstance -/
def tyN : T → Option String
  | .non => some "NoneType"
  | .bl _ => some "bool"
  | .int _ => some "int"
  | .str _ => some "str"
  | .lst _ => some "list"
  | .tup _ => some "tuple"
  | .dic _ => some "dict"
  | _ => none
def kitN (n : String) : List String → Option Bool
  | [] => some false
  | t :: ts => match kitB n t with
    | some true => some true
    | some false => kitN n ts
    | none => none
def isN (ts : List String) (t : T) : Option Slot := (tyN t).bind fun n => (kitN n ts).map fun b => .sh (.bl b)
theorem PRep.ty {g : Ga} {K : PySem.W.Frag} {F H : Hp} {v : V} {t : T} {n : String} (hK : g.K = K) (s : Same F H) (h : PRep g F H v t) (e : tyN t = some n) : TyX K H v (.type n) := by
  subst hK
  unfold tyN at e
  split at e <;> first
    | (cases e; rw [h.non]; exact .base .non)
    | (cases e; rw [h.bl]; exact .base (.bl _))
    | (cases e; rw [h.int]; exact .base (.int _))
    | (cases e; rw [h.str]; exact .base (.str _))
    | (cases e; obtain ⟨p, vs, rfl, h3, r⟩ := h.lst s; exact .base (.lst h3))
    | (cases e
       obtain ⟨p, vs, rfl, h3, r⟩ := h.tup s
       rcases h3 with (h3 | ⟨o, h3⟩) | ⟨o, its, n, h3, h4, _⟩
       · exact .base (.tup h3)
       · exact .fTuple h3
       · exact .kTuple h3 h4)
    | (cases e; obtain ⟨p, vs, rfl, h3, r⟩ := h.dic s; exact .base (.dK h3))
    | cases e
theorem kitN_any {K : PySem.W.Frag} {n : String} : ∀ {ts : List String} {b : Bool}, kitN n ts = some b → PySem.W.kitAny K (.type n) (ts.map Value.type) = some b
  | [], _, h => by cases h; exact kitAny_nil
  | t :: ts, b, h => by
    unfold kitN at h
    rw [List.map_cons]
    split at h
    · rename_i e
      cases h
      exact kitAny_cons (kit_ty e) (fun z => nomatch z) (fun _ => rfl)
    · rename_i e
      exact kitAny_cons (kit_ty e) (fun _ => kitN_any h) (fun z => nomatch z)
    · cases h
/-- isinstance(e, T) -/
theorem de_isi {t : Str} {n : String} {p' pt : Pos} {fa : OF} (hK : c.g.K = X.K) (hg : Gl X "isinstance") (hm : X.mg "isinstance" = none) (ha : PE X a (rdO c fa)) (gt : Gl X t) (mt : X.mg t = none) (bt : bootBuiltins t = some (.type n)) (nt : t ≠ "__name__" := by decide) (dt : (t == ("__debug__" : Str)) = false := by decide)
    (he : starEach [a, .Name t pt] X.env = (false, eval a X.env) :: starEach [.Name t pt] X.env := by rfl) (hpl : (backTo pos (starEach [.Name t pt] X.env)).any (·.1) = false := by rfl) : PE X (.Call (.Name "isinstance" p') [a, .Name t pt] [] pos) (rdE c (op1 (isN [n]) fa)) := by
  refine PE.imp (pe_callB call_isi hg hm (by decide +kernel) (pa_cons ha (pa_cons (pe_bltn (v := .ty n) gt mt bt rfl nt dt) pa_nil) he) (by decide) (by decide) he hpl) fun σ H Q q => op1_out (r := fun x H1 Q => rIsi X.K [x, .ty n] H1 Q) ?_ q
  intro F S σ τ H x t z Q A hx hz k
  obtain ⟨m, h1, h2⟩ := Option.bind_eq_some_iff.mp hz
  obtain ⟨b, h3, h4⟩ := Option.map_eq_some_iff.mp h2
  subst h4
  refine ⟨x, .ty n, .type m, .type n, b, rfl, .ty n, hx.ty hK A.a.fh h1, ?_, fin_sh A k (.bl _)⟩
  unfold kitN at h3
  split at h3
  · rename_i e; cases h3; exact kit_ty e
  · rename_i e; cases h3; exact kit_ty e
  · cases h3
/-- isinstance(e, (T, U)) -/
theorem de_isi2 {t u : Str} {n m : String} {p' pt pu pp : Pos} {kk : Nat} {fa : OF} (hK : c.g.K = X.K) (hg : Gl X "isinstance") (hm : X.mg "isinstance" = none) (ha : PE X a (rdO c fa)) (gt : Gl X t) (mt : X.mg t = none) (bt : bootBuiltins t = some (.type n)) (gu : Gl X u) (mu : X.mg u = none) (bu : bootBuiltins u = some (.type m))
    (nt : t ≠ "__name__" := by decide) (dt : (t == ("__debug__" : Str)) = false := by decide) (nu : u ≠ "__name__" := by decide) (du : (u == ("__debug__" : Str)) = false := by decide)
    (he : starEach [a, .Tuple [.Name t pt, .Name u pu] kk pp] X.env = (false, eval a X.env) :: starEach [.Tuple [.Name t pt, .Name u pu] kk pp] X.env := by rfl) (hpl : (backTo pos (starEach [.Tuple [.Name t pt, .Name u pu] kk pp] X.env)).any (·.1) = false := by rfl) :
    PE X (.Call (.Name "isinstance" p') [a, .Tuple [.Name t pt, .Name u pu] kk pp] [] pos) (rdE c (op1 (isN [n, m]) fa)) := by
  refine PE.imp (pe_callB call_isiT hg hm (by decide +kernel) (pa_cons ha (pa_cons (pe_tup (pa_cons (pe_bltn (v := .ty n) gt mt bt rfl nt dt) (pa_cons (pe_bltn (v := .ty m) gu mu bu rfl nu du) pa_nil))) pa_nil) he) (by decide) (by decide) he hpl)
    fun σ H Q q => op1_out (r := fun x H1 Q => 2 ≤ sizeLine ∧ ∀ p, H1 p = none → rIsiT X.K [x, .ref p] (upd H1 p (.tup [.ty n, .ty m])) Q) ?_ q
  intro F S σ τ H x t z Q A hx hz k
  obtain ⟨m', h1, h2⟩ := Option.bind_eq_some_iff.mp hz
  obtain ⟨b, h3, h4⟩ := Option.map_eq_some_iff.mp h2
  subst h4
  refine ⟨by rw [sizeLine_eq]; decide, fun p np => ?_⟩
  have st : Same H (upd H p (.tup [V.ty n, V.ty m])) := fun b w q => by rw [upd_ne (ne_of_none q np)]; exact q
  have A2 : AbsX c F S σ τ (upd H p (.tup [V.ty n, V.ty m])) := by
    obtain ⟨cc, n1, n2⟩ := A.a.nib
    refine ⟨⟨A.a.fh.trans st, A.a.fn, ⟨cc, st _ _ n1, n2⟩, fun a w q n0 n => st _ _ (A.a.keep a w q n0 n), A.a.fre, A.a.ext.st st, A.a.len, fun i s q h1 h2 => ?_, A.a.ds⟩, A.l⟩
    have h := A.a.sl i s q h1 h2
    cases s with
    | no => trivial
    | fu => exact h
    | sh t => exact h
    | ow t1 =>
      obtain ⟨a, e, ⟨w, hw, mk⟩, r⟩ := h
      exact ⟨a, e, ⟨w, st _ _ hw, mk⟩, r⟩
  have hx2 : PRep c.g F (upd H p (.tup [V.ty n, V.ty m])) x t := by
    rcases hx with hx | ⟨a, u, e, hu, mk⟩
    · exact .inl hx
    · exact .inr ⟨a, u, e, st _ _ hu, mk⟩
  exact ⟨x, p, [.ty n, .ty m], .type m', [.type n, .type m], b, rfl, upd_same, .cons (.ty n) (.cons (.ty m) .nil), hx2.ty hK A2.a.fh h1, kitN_any h3, fin_sh A2 k (.bl _)⟩
/-! list(range(..)) -/
def rgT (a b : Int) : List T := (List.range (b - a).toNat).map fun i => T.int (a + (i : Nat))
theorem rgT_rep {g : Ga} {F : Hp} (a b : Int) : RepAll g F (rgV a b) (rgT a b) := by
  unfold rgV rgT
  generalize List.range (b - a).toNat = l
  induction l with
  | nil => exact .nil
  | cons x xs ih => exact .cons (.int _) ih
def lrg1 : T → Option Slot
  | .int n => if -(2 ^ 62) ≤ n ∧ n ≤ 16777216 then some (.ow (.lst (rgT 0 n))) else none
  | _ => none
def lrg2 : T → T → Option Slot
  | .int a, .int b => if -(2 ^ 62) ≤ a ∧ a ≤ 2 ^ 61 ∧ -(2 ^ 62) ≤ b ∧ b ≤ 2 ^ 61 ∧ (b - a).toNat ≤ 16777216 then some (.ow (.lst (rgT a b))) else none
  | _, _ => none
def trg1 : T → Option Slot
  | .int n => if -(2 ^ 62) ≤ n ∧ n ≤ 16777216 then some (.sh (.tup (rgT 0 n))) else none
  | _ => none
theorem de_lrg1 {p1 p2 pos2 : Pos} {fa : OF} (hc : X.calm = true) (hg : Gl X "list") (hm : X.mg "list" = none) (hg2 : Gl X "range") (hm2 : X.mg "range" = none) (ha : PE X a (rdO c fa)) (na : starEach [a] X.env = (false, eval a X.env) :: starEach [] X.env := by rfl) :
    PE X (.Call (.Name "list" p1) [.Call (.Name "range" p2) [a] [] pos2] [] pos) (rdE c (op1 lrg1 fa)) := by
  refine PE.imp (pe_listRg hc hg hm (prg_1 hg2 hm2 ha na) rfl) fun σ H Q q => op1_out (r := fun x H1 Q => ∃ n, x = .int n ∧ RgOk 0 n ∧ ∀ q, H1 q = none → Q (.ref q) (upd H1 q (.lst (rgV 0 n)))) ?_ q
  intro F S σ τ H x t z Q A hx hz k
  unfold lrg1 at hz
  split at hz
  · split at hz
    · cases hz
      rename_i h
      rw [hx.int]
      exact ⟨_, rfl, ⟨by omega, by omega, by omega, by omega, by omega⟩, fun q np => fin_ow A k (.lst (rgT_rep 0 _)) np⟩
    · cases hz
  · cases hz
theorem de_trg1 {p1 p2 pos2 : Pos} {fa : OF} (hc : X.calm = true) (hg : Gl X "tuple") (hm : X.mg "tuple" = none) (hg2 : Gl X "range") (hm2 : X.mg "range" = none) (ha : PE X a (rdO c fa)) (na : starEach [a] X.env = (false, eval a X.env) :: starEach [] X.env := by rfl) :
    PE X (.Call (.Name "tuple" p1) [.Call (.Name "range" p2) [a] [] pos2] [] pos) (rdE c (op1 trg1 fa)) := by
  refine PE.imp (pe_tupRgF hc hg hm (prg_1 hg2 hm2 ha na) rfl) fun σ H Q q => op1_out (r := fun x H1 Q => ∃ n, x = .int n ∧ RgOk 0 n ∧ ∀ (q : Addr) (o : Obj), H1 q = none → o.dict = none → Q (.ref q) (upd H1 q (.frz o (.tup (rgV 0 n))))) ?_ q
  intro F S σ τ H x t z Q A hx hz k
  unfold trg1 at hz
  split at hz
  · split at hz
    · cases hz
      rename_i h
      rw [hx.int]
      exact ⟨_, rfl, ⟨by omega, by omega, by omega, by omega, by omega⟩, fun q o np hd => fin_tup A k (rgT_rep 0 _) np hd⟩
    · cases hz
  · cases hz
theorem de_lrg2 {p1 p2 pos2 : Pos} {fa fb : OF} (hc : X.calm = true) (hg : Gl X "list") (hm : X.mg "list" = none) (hg2 : Gl X "range") (hm2 : X.mg "range" = none) (ha : PE X a (rdO c fa)) (hb : PE X b (rdO c fb)) (na : starEach [a, b] X.env = (false, eval a X.env) :: starEach [b] X.env := by rfl) (nb : starEach [b] X.env = (false, eval b X.env) :: starEach [] X.env := by rfl) :
    PE X (.Call (.Name "list" p1) [.Call (.Name "range" p2) [a, b] [] pos2] [] pos) (rdE c (op2 lrg2 fa fb)) := by
  refine PE.imp (pe_listRg hc hg hm (prg_2 hg2 hm2 ha hb na nb (by rw [nb]; rfl)) rfl) fun σ H Q q => op2_out (r := fun x y H1 Q => ∃ i j, x = .int i ∧ y = .int j ∧ RgOk i j ∧ ∀ q, H1 q = none → Q (.ref q) (upd H1 q (.lst (rgV i j)))) ?_ q
  intro F S σ τ H x y t u z Q A hx hy hz k
  unfold lrg2 at hz
  split at hz
  · split at hz
    · cases hz
      rename_i h
      rw [hx.int, hy.int]
      exact ⟨_, _, rfl, rfl, ⟨by omega, by omega, by omega, by omega, by omega⟩, fun q np => fin_ow A k (.lst (rgT_rep _ _)) np⟩
    · cases hz
  · cases hz
end
end TL

end
section
set_option Elab.async false
set_option linter.all false
set_option maxRecDepth 100000
set_option autoImplicit false
/-! TL7: what is walked, targets, comprehensions -/
open PySem PySem.Spec PyProof.Rows L2
namespace TL
structure IterOk (c : Cfg) (J : It) (F : Hp) (ts : List T) : Prop where
  stop : ∀ H, Same F H → J.stop ts.length H
  go : ∀ i H, i < ts.length → Same F H → J.go i H
  yld : ∀ (i : Nat) (x : V) (H H' F' : Hp) (S : Sta) (σ τ : List (Option V)), i < ts.length → Same F F' → AbsX c F' S σ τ H → J.yld i H x H' → ∃ t F'', ts[i]? = some t ∧ Same F' F'' ∧ AbsX c F'' (S.push (.sh t)) σ (τ ++ [some x]) H'
abbrev IF := Sta → R (List T)
def iP (c : Cfg) (σ τ : List (Option V)) (Q : It → Hp → Prop) : List T → Sta → Hp → Hp → Prop := fun ts S F' H' => ∀ J, AbsX c F' S σ τ H' → IterOk c J F' ts → Q J H'
def rdI (c : Cfg) (f : IF) : TI := fun σ H Q => ∃ τ F S, AbsX c F S σ τ H ∧ rOut c F σ τ (iP c σ τ Q) (f S)
theorem PI.imp {X : Cx} {tg e : Expr} {t t' : TI} (h : PI X tg e t) (w : ∀ σ H Q, t' σ H Q → t σ H Q) : PI X tg e t' := ⟨fun pins s σ H Q I q => h.run pins s σ H Q I (w σ H Q q)⟩
section
variable {X : Cx} {tg : Expr}
def iSeq (K : PySem.W.Frag) (tl : TE) : TI := fun σ H R => tl σ H fun x H1 => (∃ a, x = .ref a ∧ (∃ xs, SqL K H1 a xs) ∧ R (Itl K a) H1) ∨ (∃ a, x = .ref a ∧ (∃ xs, SqT K H1 a xs) ∧ R (Itt K a) H1)
theorem pi_seq {l : Expr} {tl : TE} (hl : PE X l tl) : PI X tg l (iSeq X.K tl) := by
  refine ⟨fun pins s σ H R I h => ?_⟩
  refine thn (hl.run pins s σ H _ I h) fun v s1 ⟨x, H1, I1, r1, q1⟩ => ?_
  rcases q1 with ⟨a, e, ⟨xs, hq⟩, q⟩ | ⟨a, e, ⟨xs, hq⟩, q⟩
  · subst e
    cases r1
    obtain ⟨its, rv, p, hz⟩ := I1.list hq
    refine wpAny_pyIter_list p.isList ?_
    refine ⟨s1.heap.objs.size, [s1.heap.objs.size], _, _, H1, rfl, I1.kept (t' := s1.toks) fun b o e => Heap.get?_push_of_some _ e, turn_list a _, ⟨_, Heap.get?_push_size _ rfl, rfl, rfl⟩, fun b hb => ?_, q⟩
    have e : b = s1.heap.objs.size := by simpa using hb
    subst e
    exact I1.fpOk (Nat.le_refl _) (I1.hok.fresh (Nat.le_refl _))
  · subst e
    cases r1
    obtain ⟨its, rv, p, hz⟩ := I1.tuple hq
    refine wpAny_pyIter_tuple (show s1.heap.IsTuple a its.toArray from p) ?_
    refine ⟨s1.heap.objs.size, [s1.heap.objs.size], _, _, H1, rfl, I1.kept (t' := s1.toks) fun b o e => Heap.get?_push_of_some _ e, turn_tuple a _, ⟨_, Heap.get?_push_size _ rfl, rfl, rfl⟩, fun b hb => ?_, q⟩
    have e : b = s1.heap.objs.size := by simpa using hb
    subst e
    exact I1.fpOk (Nat.le_refl _) (I1.hok.fresh (Nat.le_refl _))
end
def seqI (fa : OF) : IF := fun S => (fa S).bind fun o S1 => match o with
  | .val (.lst ts) => .ok ts S1
  | .val (.tup ts) => .ok ts S1
  | _ => .stuck
def enumT (i : Nat) : List T → List T
  | [] => []
  | t :: ts => .wtp [.int i, t] :: enumT (i + 1) ts
def enumI (fa : OF) : IF := fun S => (fa S).bind fun o S1 => match o with
  | .val (.lst ts) => .ok (enumT 0 ts) S1
  | .val (.tup ts) => .ok (enumT 0 ts) S1
  | _ => .stuck
def zipT : List T → List T → List T
  | t :: ts, u :: us => .wtp [t, u] :: zipT ts us
  | _, _ => []
def zipI (fa fb : OF) : IF := fun S => (fa S).bind fun o S1 => (fb S1).bind fun o' S2 => match o, o' with
  | .val (.lst ts), .val (.lst us) => .ok (zipT ts us) S2
  | .val (.tup ts), .val (.tup us) => .ok (zipT ts us) S2
  | _, _ => .stuck
def rngI1 (fa : OF) : IF := fun S => (fa S).bind fun o S1 => match o with
  | .val (.int n) => if -(2 ^ 62) ≤ n ∧ n < 2 ^ 62 then .ok (rgT 0 n) S1 else .stuck
  | _ => .stuck
def rngI2 (fa fb : OF) : IF := fun S => (fa S).bind fun o S1 => (fb S1).bind fun o' S2 => match o, o' with
  | .val (.int a), .val (.int b) => if -(2 ^ 62) ≤ a ∧ a < 2 ^ 62 ∧ -(2 ^ 62) ≤ b ∧ b < 2 ^ 62 then .ok (rgT a b) S2 else .stuck
  | _, _ => .stuck
theorem rgT_length (a b : Int) : (rgT a b).length = (b - a).toNat := by unfold rgT; rw [List.length_map, List.length_range]
theorem rgT_get {a b : Int} {i : Nat} (h : i < (b - a).toNat) : (rgT a b)[i]? = some (.int (a + (i : Nat))) := by
  unfold rgT
  rw [List.getElem?_map, List.getElem?_range h]
  rfl
theorem enumT_length : ∀ (ts : List T) (i : Nat), (enumT i ts).length = ts.length
  | [], _ => rfl
  | _ :: ts, i => by unfold enumT; rw [List.length_cons, List.length_cons, enumT_length ts]
theorem enumT_get : ∀ (ts : List T) (i j : Nat) (t : T), ts[j]? = some t → (enumT i ts)[j]? = some (.wtp [.int ((i + j : Nat) : Int), t])
  | [], _, _, _, h => by simp at h
  | _ :: ts, i, 0, t, h => by simp at h; subst h; rfl
  | _ :: ts, i, j + 1, t, h => by
    have h1 := enumT_get ts (i + 1) j t (by simpa using h)
    unfold enumT
    rw [List.getElem?_cons_succ, h1, show i + 1 + j = i + (j + 1) by omega]
theorem zipT_length : ∀ (ts us : List T), (zipT ts us).length = min ts.length us.length
  | [], us => by cases us <;> simp [zipT]
  | _ :: _, [] => by simp [zipT]
  | _ :: ts, _ :: us => by simp only [zipT, List.length_cons, zipT_length ts us]; omega
theorem zipT_get : ∀ (ts us : List T) (j : Nat) (t u : T), ts[j]? = some t → us[j]? = some u → (zipT ts us)[j]? = some (.wtp [t, u])
  | [], _, _, _, _, h, _ => by simp at h
  | _ :: _, [], _, _, _, _, h => by simp at h
  | _ :: ts, _ :: us, 0, t, u, h, h' => by simp at h h'; subst h h'; rfl
  | _ :: ts, _ :: us, j + 1, t, u, h, h' => by
    have := zipT_get ts us j t u (by simpa using h) (by simpa using h')
    unfold zipT
    rw [List.getElem?_cons_succ, this]
section
variable {X : Cx} {c : Cfg} {tg e a b : Expr} {pos : Pos} {F : Hp} {ad bd : Addr} {vs ws : List V} {ts us : List T}
theorem it_list (e : F ad = some (.lst vs)) (r : RepAll c.g F vs ts) : IterOk c (Itl X.K ad) F ts where
  stop := fun H s => ⟨vs, .inl (.inl (s _ _ e)), by rw [r.length]; exact Nat.le_refl _⟩
  go := fun i H hi s => ⟨vs, vs[i]'(by rw [r.length]; exact hi), .inl (.inl (s _ _ e)), by simp⟩
  yld := fun i x H H' F' S σ τ hi s A y => by
    obtain ⟨rfl, y⟩ := y
    obtain ⟨t, h1, h2⟩ := r.getV (y vs (.inl (.inl (A.a.fh _ _ (s _ _ e)))))
    exact ⟨t, F', h1, Same.refl _, A.pushSh (h2.mono s)⟩
theorem it_tup (e : SqT X.K F ad vs) (r : RepAll c.g F vs ts) : IterOk c (Itt X.K ad) F ts where
  stop := fun H s => ⟨vs, sameSqT s e, by rw [r.length]; exact Nat.le_refl _⟩
  go := fun i H hi s => ⟨vs, vs[i]'(by rw [r.length]; exact hi), sameSqT s e, by simp⟩
  yld := fun i x H H' F' S σ τ hi s A y => by
    obtain ⟨rfl, y⟩ := y
    obtain ⟨t, h1, h2⟩ := r.getV (y vs (sameSqT (s.trans A.a.fh) e))
    exact ⟨t, F', h1, Same.refl _, A.pushSh (h2.mono s)⟩
theorem it_rng {lo hi : Int} : IterOk c (Itr lo (hi - lo).toNat) F (rgT lo hi) where
  stop := fun H s => by rw [rgT_length]; exact Nat.le_refl _
  go := fun i H h s => by rw [rgT_length] at h; exact h
  yld := fun i x H H' F' S σ τ h s A y => by
    rw [rgT_length] at h
    obtain ⟨rfl, rfl⟩ := y
    exact ⟨_, F', rgT_get h, Same.refl _, A.pushSh (.int _)⟩
theorem pair_new {F' H : Hp} {S : Sta} {σ τ : List (Option V)} {p : Addr} {v w : V} {t u : T} (A : AbsX c F' S σ τ H) (np : H p = none) (r : Rep c.g F' v t) (q : Rep c.g F' w u) : ∃ F'', Same F' F'' ∧ AbsX c F'' (S.push (.sh (.wtp [t, u]))) σ (τ ++ [some (.ref p)]) (upd H p (.tup [v, w])) :=
  A.newWtp (.cons r (.cons q .nil)) np
theorem it_enumL (e : F ad = some (.lst vs)) (r : RepAll c.g F vs ts) : IterOk c (Ite X.K ad) F (enumT 0 ts) where
  stop := fun H s => ⟨vs, .inl (.inl (s _ _ e)), by rw [enumT_length, r.length]; exact Nat.le_refl _⟩
  go := fun i H hi s => by
    rw [enumT_length] at hi
    exact ⟨vs, vs[i]'(by rw [r.length]; exact hi), .inl (.inl (s _ _ e)), by simp⟩
  yld := fun i x H H' F' S σ τ hi s A y => by
    obtain ⟨T, v, rfl, np, rfl, y⟩ := y
    obtain ⟨t, h1, h2⟩ := r.getV (y vs (.inl (.inl (A.a.fh _ _ (s _ _ e)))))
    obtain ⟨F'', s', A'⟩ := pair_new A np (.int (i : Nat)) (h2.mono s)
    exact ⟨_, F'', by have := enumT_get ts 0 i t h1; rw [Nat.zero_add] at this; exact this, s', A'⟩
theorem it_enumT (e : SqT X.K F ad vs) (r : RepAll c.g F vs ts) : IterOk c (IteT X.K ad) F (enumT 0 ts) where
  stop := fun H s => ⟨vs, sameSqT s e, by rw [enumT_length, r.length]⟩
  go := fun i H hi s => by
    rw [enumT_length] at hi
    exact ⟨vs, vs[i]'(by rw [r.length]; exact hi), sameSqT s e, by simp⟩
  yld := fun i x H H' F' S σ τ hi s A y => by
    obtain ⟨T, v, rfl, np, rfl, y⟩ := y
    obtain ⟨t, h1, h2⟩ := r.getV (y vs (sameSqT (s.trans A.a.fh) e))
    obtain ⟨F'', s', A'⟩ := pair_new A np (.int (i : Nat)) (h2.mono s)
    exact ⟨_, F'', by have := enumT_get ts 0 i t h1; rw [Nat.zero_add] at this; exact this, s', A'⟩
theorem it_zipL (e : F ad = some (.lst vs)) (r : RepAll c.g F vs ts) (e2 : F bd = some (.lst ws)) (r2 : RepAll c.g F ws us) : IterOk c (Itz X.K ad bd) F (zipT ts us) where
  stop := fun H s => ⟨vs, ws, .inl (.inl (s _ _ e)), .inl (.inl (s _ _ e2)), by rw [zipT_length, r.length, r2.length]; omega⟩
  go := fun i H hi s => by
    rw [zipT_length] at hi
    exact ⟨vs, ws, vs[i]'(by rw [r.length]; omega), ws[i]'(by rw [r2.length]; omega), .inl (.inl (s _ _ e)), .inl (.inl (s _ _ e2)), by simp, by simp⟩
  yld := fun i x H H' F' S σ τ hi s A y => by
    obtain ⟨T, v, w, rfl, np, rfl, y, y2⟩ := y
    obtain ⟨t, h1, h2⟩ := r.getV (y vs (.inl (.inl (A.a.fh _ _ (s _ _ e)))))
    obtain ⟨u, h3, h4⟩ := r2.getV (y2 ws (.inl (.inl (A.a.fh _ _ (s _ _ e2)))))
    obtain ⟨F'', s', A'⟩ := pair_new A np (h2.mono s) (h4.mono s)
    exact ⟨_, F'', zipT_get ts us i t u h1 h3, s', A'⟩
theorem it_zipT (e : SqT X.K F ad vs) (r : RepAll c.g F vs ts) (e2 : SqT X.K F bd ws) (r2 : RepAll c.g F ws us) : IterOk c (RZ.ItzT X.K ad bd) F (zipT ts us) where
  stop := fun H s => ⟨vs, ws, sameSqT s e, sameSqT s e2, by rw [zipT_length, r.length, r2.length]; omega⟩
  go := fun i H hi s => by
    rw [zipT_length] at hi
    exact ⟨vs, ws, vs[i]'(by rw [r.length]; omega), ws[i]'(by rw [r2.length]; omega), sameSqT s e, sameSqT s e2, by simp, by simp⟩
  yld := fun i x H H' F' S σ τ hi s A y => by
    obtain ⟨T, v, w, rfl, np, rfl, y, y2⟩ := y
    obtain ⟨t, h1, h2⟩ := r.getV (y vs (sameSqT (s.trans A.a.fh) e))
    obtain ⟨u, h3, h4⟩ := r2.getV (y2 ws (sameSqT (s.trans A.a.fh) e2))
    obtain ⟨F'', s', A'⟩ := pair_new A np (h2.mono s) (h4.mono s)
    exact ⟨_, F'', zipT_get ts us i t u h1 h3, s', A'⟩
theorem di_seq {fa : OF} (hK : c.g.K = X.K) (ha : PE X a (rdO c fa)) : PI X tg a (rdI c (seqI fa)) := by
  refine PI.imp (pi_seq ha) fun σ H Q q => ?_
  obtain ⟨τ, F, S, A, q⟩ := q
  refine ⟨τ, F, S, A, rOut.bind q fun o S1 F1 H1 s1 q1 v A1 r1 => ?_⟩
  split at q1
  · cases r1 with
    | lst e r => exact .inl ⟨_, rfl, ⟨_, .inl (.inl (A1.a.fh _ _ e))⟩, q1 H1 F1 (Same.refl F1) _ A1 (it_list e r)⟩
  · cases r1 with
    | tup e r => exact .inr ⟨_, rfl, ⟨_, hK ▸ sameSqT A1.a.fh e.sq⟩, q1 H1 F1 (Same.refl F1) _ A1 (it_tup (hK ▸ e.sq) r)⟩
  · exact q1.elim
theorem di_enum {elts : List Expr} {kk : Nat} {tpos p : Pos} {fa : OF} (hK : c.g.K = X.K) (hg : Gl X "enumerate") (hm : X.mg "enumerate" = none) (ha : PE X a (rdO c fa)) (hs : starEach [a] X.env = [(false, eval a X.env)] := by rfl) :
    PI X (.Tuple elts kk tpos) (.Call (.Name "enumerate" p) [a] [] pos) (rdI c (enumI fa)) := by
  refine PI.imp (pi_enumA hg hm (pa_cons ha pa_nil hs) hs) fun σ H Q q => ?_
  obtain ⟨τ, F, S, A, q⟩ := q
  refine ⟨τ, F, S, A, rOut.bind q fun o S1 F1 H1 s1 q1 v A1 r1 => ?_⟩
  split at q1
  · cases r1 with
    | lst e r => exact ⟨_, _, rfl, .inl ⟨.inl (.inl (A1.a.fh _ _ e)), q1 H1 F1 (Same.refl F1) _ A1 (it_enumL e r)⟩⟩
  · cases r1 with
    | tup e r => exact ⟨_, _, rfl, .inr ⟨hK ▸ sameSqT A1.a.fh e.sq, q1 H1 F1 (Same.refl F1) _ A1 (it_enumT (hK ▸ e.sq) r)⟩⟩
  · exact q1.elim
theorem di_zip {elts : List Expr} {kk : Nat} {tpos p : Pos} {fa fb : OF} (hK : c.g.K = X.K) (hg : Gl X "zip") (hm : X.mg "zip" = none) (ha : PE X a (rdO c fa)) (hb : PE X b (rdO c fb)) (hs : starEach [a, b] X.env = [(false, eval a X.env), (false, eval b X.env)] := by rfl) (hs2 : starEach [b] X.env = [(false, eval b X.env)] := by rfl) :
    PI X (.Tuple elts kk tpos) (.Call (.Name "zip" p) [a, b] [] pos) (rdI c (zipI fa fb)) := by
  refine PI.imp (RZ.pi_zipA hg hm (pa_cons ha (pa_cons hb pa_nil hs2) (by rw [hs, hs2])) (by rw [hs, hs2]) (by rw [hs2]; rfl)) fun σ H Q q => ?_
  obtain ⟨τ, F, S, A, q⟩ := q
  refine ⟨τ, F, S, A, rOut.bind q fun o S1 F1 H1 s1 q1 v A1 r1 => ⟨τ, F1, S1, A1, rOut.bind q1 fun o2 S2 F2 H2 s2 q2 w A2 r2 => ?_⟩⟩
  have r1' := r1.mono s2
  split at q2
  · cases r1' with
    | lst e r =>
      cases r2 with
      | lst e2 r2 => exact ⟨_, _, _, _, rfl, .inl ⟨.inl (.inl (A2.a.fh _ _ e)), .inl (.inl (A2.a.fh _ _ e2)), q2 H2 F2 (Same.refl F2) _ A2 (it_zipL e r e2 r2)⟩⟩
  · cases r1' with
    | tup e r =>
      cases r2 with
      | tup e2 r2 => exact ⟨_, _, _, _, rfl, .inr ⟨hK ▸ sameSqT A2.a.fh e.sq, hK ▸ sameSqT A2.a.fh e2.sq, q2 H2 F2 (Same.refl F2) _ A2 (it_zipT (hK ▸ e.sq) r (hK ▸ e2.sq) r2)⟩⟩
  · exact q2.elim
theorem di_rng1 {p : Pos} {fa : OF} (hg : Gl X "range") (hm : X.mg "range" = none) (ha : PE X a (rdO c fa)) (hs : starEach [a] X.env = [(false, eval a X.env)] := by rfl) : PI X tg (.Call (.Name "range" p) [a] [] pos) (rdI c (rngI1 fa)) := by
  refine PI.imp (pi_range1 hg hm (pa_cons ha pa_nil hs) hs) fun σ H Q q => ?_
  obtain ⟨τ, F, S, A, q⟩ := q
  refine ⟨τ, F, S, A, rOut.bind q fun o S1 F1 H1 s1 q1 v A1 r1 => ?_⟩
  split at q1
  · cases r1
    split at q1
    · rename_i h
      refine ⟨_, rfl, h.1, h.2, ?_⟩
      have := q1 H1 F1 (Same.refl F1) _ A1 it_rng
      rw [Int.sub_zero] at this
      exact this
    · exact q1.elim
  · exact q1.elim
theorem di_rng2 {p : Pos} {fa fb : OF} (hg : Gl X "range") (hm : X.mg "range" = none) (ha : PE X a (rdO c fa)) (hb : PE X b (rdO c fb)) (hs : starEach [a, b] X.env = [(false, eval a X.env), (false, eval b X.env)] := by rfl) (hs2 : starEach [b] X.env = [(false, eval b X.env)] := by rfl) : PI X tg (.Call (.Name "range" p) [a, b] [] pos) (rdI c (rngI2 fa fb)) := by
  refine PI.imp (pi_range2 hg hm (pa_cons ha (pa_cons hb pa_nil hs2) (by rw [hs, hs2])) hs hs2) fun σ H Q q => ?_
  obtain ⟨τ, F, S, A, q⟩ := q
  refine ⟨τ, F, S, A, rOut.bind q fun o S1 F1 H1 s1 q1 v A1 r1 => ⟨τ, F1, S1, A1, rOut.bind q1 fun o2 S2 F2 H2 s2 q2 w A2 r2 => ?_⟩⟩
  have r1' := r1.mono s2
  split at q2
  · cases r1'
    cases r2
    split at q2
    · rename_i h
      exact ⟨_, _, rfl, h, q2 H2 F2 (Same.refl F2) _ A2 it_rng⟩
    · exact q2.elim
  · exact q2.elim
end

/-! ### targets -/
inductive Tg where
  | nm (i : Nat) | tp (l : List Nat)
def Tg.slots : Tg → List Nat
  | .nm i => [i]
  | .tp l => l
def putAll : List Nat → List T → Sta → Option Sta
  | [], [], S => some S
  | i :: l, t :: ts, S => if i < S.lo.length then putAll l ts (S.put i (.sh t)) else none
  | _, _, _ => none
def Tg.put (g : Tg) (t : T) (S : Sta) : Option Sta := match g with
  | .nm i => if i < S.lo.length then some (S.put i (.sh t)) else none
  | .tp l => match t with
    | .tup ts => putAll l ts S
    | .wtp ts => putAll l ts S
    | .lst ts => putAll l ts S
    | _ => none
def rdG (c : Cfg) (g : Tg) : TG := fun v σ H Q => ∃ τ F S t S', AbsX c F (S.push (.sh t)) σ (τ ++ [some v]) H ∧ g.put t S = some S' ∧ ∀ σ', AbsX c F S' σ' τ H → (∀ j, j ∉ g.slots → σ'[j]? = σ[j]?) → Q σ' H
section
variable {X : Cx} {c : Cfg} {pos : Pos}
theorem PG.imp {e : Expr} {t t' : TG} (h : PG X e t) (w : ∀ v σ H Q, t' v σ H Q → t v σ H Q) : PG X e t' := ⟨fun pins s σ H v u Q I r q => h.run pins s σ H v u Q I r (w v σ H Q q)⟩
theorem dg_nm {i : Nat} {x : Str} (h : PG X (.Name x pos) (gName i)) : PG X (.Name x pos) (rdG c (.nm i)) := by
  refine PG.imp h fun v σ H Q q => ?_
  obtain ⟨τ, F, S, t, S', A, e, q⟩ := q
  unfold Tg.put at e
  dsimp only at e
  split at e
  · rename_i hi
    cases e
    have hl : S.lo.length = σ.length := A.l
    exact q _ (A.assign (by rw [← hl]; exact hi)) fun j hj => by
      rw [List.getElem?_set_ne]
      intro z; subst z; exact hj (by simp [Tg.slots])
  · cases e
def gAll : List Nat → TGs
  | [] => gNil
  | i :: l => gCons (gName i) (gAll l)
theorem gAll_ok {τ : List (Option V)} {F H : Hp} : ∀ (l : List Nat) (ts : List T) (vs : List V) (S S' : Sta) (σ : List (Option V)) (Q : L2.St → Hp → Prop), AbsX c F S σ τ H → RepAll c.g F vs ts → putAll l ts S = some S' → (∀ σ', AbsX c F S' σ' τ H → (∀ j, j ∉ l → σ'[j]? = σ[j]?) → Q σ' H) → gAll l vs σ H Q
  | [], [], _, S, S', σ, Q, A, r, e, q => by
    cases r
    cases e
    exact ⟨rfl, q σ A fun _ _ => rfl⟩
  | i :: l, t :: ts, _, S, S', σ, Q, A, r, e, q => by
    cases r with
    | cons r1 r2 =>
      unfold putAll at e
      split at e
      · rename_i hi
        refine ⟨_, _, rfl, ?_⟩
        refine gAll_ok l ts _ _ S' _ Q ((A.pushSh r1).assign (by rw [← A.l]; exact hi)) r2 e fun σ' A' h => q σ' A' fun j hj => ?_
        rw [h j (fun z => hj (List.mem_cons_of_mem _ z)), List.getElem?_set_ne]
        intro z; subst z; exact hj List.mem_cons_self
      · cases e
  | [], _ :: _, _, _, _, _, _, _, _, e, _ => by cases e
  | _ :: _, [], _, _, _, _, _, _, _, e, _ => by cases e
def gSq (K : PySem.W.Frag) (n : Nat) (t : TGs) : TG := fun v σ H Q => ∃ a xs, v = .ref a ∧ (SqT K H a xs ∨ SqL K H a xs) ∧ xs.length = n ∧ t xs σ H Q
theorem pg_sq {es : List Expr} {k : Nat} {t : TGs} {n : Nat} (h1 : PG X (.Tuple es k pos) (gTup X.K n t)) (h2 : PG X (.Tuple es k pos) (gUnl X.K n t)) : PG X (.Tuple es k pos) (gSq X.K n t) := by
  refine ⟨fun pins s σ H v u Q I r q => ?_⟩
  obtain ⟨a, xs, e, hs, hl, q⟩ := q
  rcases hs with hs | hs
  · exact h1.run pins s σ H v u Q I r ⟨a, xs, e, hs, hl, q⟩
  · exact h2.run pins s σ H v u Q I r ⟨a, xs, e, hs, hl, q⟩
theorem putAll_len : ∀ {l : List Nat} {ts : List T} {S S' : Sta}, putAll l ts S = some S' → ts.length = l.length
  | [], [], _, _, _ => rfl
  | _ :: _, _ :: _, _, _, e => by
    unfold putAll at e
    split at e
    · rw [List.length_cons, List.length_cons, putAll_len e]
    · cases e
  | [], _ :: _, _, _, e => by cases e
  | _ :: _, [], _, _, e => by cases e
theorem dg_tp {es : List Expr} {k : Nat} {l : List Nat} (hK : c.g.K = X.K) (h1 : PG X (.Tuple es k pos) (gTup X.K l.length (gAll l))) (h2 : PG X (.Tuple es k pos) (gUnl X.K l.length (gAll l))) : PG X (.Tuple es k pos) (rdG c (.tp l)) := by
  refine PG.imp (pg_sq h1 h2) fun v σ H Q q => ?_
  obtain ⟨τ, F, S, t, S', A, e, q⟩ := q
  unfold Tg.put at e
  dsimp only at e
  split at e
  · have r := A.topSh
    cases r with
    | tup h a => exact ⟨_, _, rfl, .inl (hK ▸ sameSqT A.a.fh h.sq), by rw [a.length, putAll_len e], gAll_ok l _ _ S S' σ Q A.pop a e q⟩
  · have r := A.topSh
    cases r with
    | wtp h a => exact ⟨_, _, rfl, .inl (hK ▸ sameSqT A.a.fh h), by rw [a.length, putAll_len e], gAll_ok l _ _ S S' σ Q A.pop a e q⟩
  · have r := A.topSh
    cases r with
    | lst h a => exact ⟨_, _, rfl, .inr (.inl (.inl (A.a.fh _ _ h))), by rw [a.length, putAll_len e], gAll_ok l _ _ S S' σ Q A.pop a e q⟩
  · cases e
end

/-! ### comprehensions -/
def Sta.popG (S : Sta) : Option (Slot × Sta) := match S.gh.getLast? with
  | some x => some (x, { S with gh := S.gh.dropLast })
  | none => none
theorem Sta.popG_some {S S' : Sta} {x : Slot} (h : S.popG = some (x, S')) : S = S'.push x := by
  unfold Sta.popG at h
  split at h
  · rename_i y e
    cases h
    have h2 := List.dropLast_concat_getLast (l := S.gh) (by intro z; rw [z] at e; cases e)
    have e2 : S.gh.getLast (by intro z; rw [z] at e; cases e) = x := by
      rw [List.getLast?_eq_some_getLast (by intro z; rw [z] at e; cases e)] at e
      exact Option.some.inj e
    rw [e2] at h2
    cases S
    simp only [Sta.push, Sta.mk.injEq, true_and, and_true]
    exact h2.symm
  · cases h
@[simp] theorem Sta.popG_push (S : Sta) (x : Slot) : (S.push x).popG = some (x, S) := by
  unfold Sta.popG Sta.push
  simp
/-- the slots of a comprehension's own names forgotten -/
def noes (l : List Slot) : List Nat → List Slot
  | [] => l
  | i :: is => (noes l is).set i .no
def Sta.wipe (S : Sta) (own : List Nat) : Sta := { S with lo := noes S.lo own }
def Slot.free : Option Slot → Bool
  | some (.ow _) => false
  | _ => true
def backs (l l0 : List Slot) : List Nat → List Slot
  | [] => l
  | i :: is => (backs l l0 is).set i (l0.getD i .no)
def Sta.back (S S0 : Sta) (own : List Nat) : Sta := { S with lo := backs S.lo S0.lo own }
def compL (own : List Nat) (tg : Tg) (tt : TF) (te : EF) : List T → Sta → R Unit
  | [], S => .ok () S
  | t :: ts, S => match tg.put t S with
    | none => .stuck
    | some S1 => (tt S1).bind fun b S2 => if b = true then (te S2).bind fun x S3 => match x.tree with
        | none => .stuck
        | some y => match S3.popG with
          | some (.ow (.lst acc), S4) => if acc.length < sz then compL own tg tt te ts ((S4.wipe own).push (.ow (.lst (acc ++ [y])))) else .stuck
          | _ => .stuck
      else compL own tg tt te ts (S2.wipe own)
def compF (own : List Nat) (it : IF) (tg : Tg) (tt : TF) (te : EF) : EF := fun S => (it S).bind fun ts S1 =>
  if (own.all fun i => Slot.free S1.lo[i]?) && (tg.slots.all fun i => own.contains i) then
    match compL own tg tt te ts ((S1.wipe own).push (.ow (.lst []))) with
    | .ok () S2 => match S2.popG with
      | some (.ow (.lst acc), S3) => .ok (.ow (.lst acc)) (S3.back S1 own)
      | _ => .stuck
    | _ => .stuck
  else .stuck
def yesT : TF := fun S => .ok true S
theorem Abs.mix {g : Ga} {H0 : Bs} {F H : Hp} {S S' : PS0} {ρ ρ' : List (Option V)} (A : Abs g H0 F S ρ H) (nb : S'.nb = S.nb) (len : S'.sl.length = ρ'.length)
    (h : ∀ (i : Nat) (s : Slot) (o : Option V), S'.sl[i]? = some s → ρ'[i]? = some o → ((∀ t, s ≠ .ow t) ∧ SlotRel g F H H0 s o) ∨ (S.sl[i]? = some s ∧ ρ[i]? = some o)) : Abs g H0 F S' ρ' H := by
  refine ⟨A.fh, A.fn, nb ▸ A.nib, A.keep, A.fre, A.ext, len, fun i s o h1 h2 => ?_, fun i j t u a h1 h2 h3 h4 => ?_⟩
  · rcases h i s o h1 h2 with q | ⟨q1, q2⟩
    · exact q.2
    · exact A.sl i s o q1 q2
  · rcases h i _ _ h1 h3 with q | ⟨q1, q2⟩
    · exact absurd rfl (q.1 t)
    · rcases h j _ _ h2 h4 with r | ⟨r1, r2⟩
      · exact absurd rfl (r.1 u)
      · exact A.ds i j t u a q1 r1 q2 r2
theorem noes_length (l : List Slot) : ∀ is : List Nat, (noes l is).length = l.length
  | [] => rfl
  | i :: is => by unfold noes; rw [List.length_set, noes_length l is]
theorem backs_length (l l0 : List Slot) : ∀ is : List Nat, (backs l l0 is).length = l.length
  | [] => rfl
  | i :: is => by unfold backs; rw [List.length_set, backs_length l l0 is]
theorem noes_get (l : List Slot) {j : Nat} {s : Slot} : ∀ {is : List Nat}, (noes l is)[j]? = some s → (j ∈ is ∧ s = .no) ∨ (j ∉ is ∧ l[j]? = some s)
  | [], h => .inr ⟨by simp, h⟩
  | i :: is, h => by
    unfold noes at h
    by_cases e : i = j
    · subst e
      have hl : i < (noes l is).length := by have := (List.getElem?_eq_some_iff.mp h).1; simpa using this
      rw [List.getElem?_set_self hl] at h
      cases h
      exact .inl ⟨List.mem_cons_self, rfl⟩
    · rw [List.getElem?_set_ne e] at h
      rcases noes_get l h with ⟨a, b⟩ | ⟨a, b⟩
      · exact .inl ⟨List.mem_cons_of_mem _ a, b⟩
      · exact .inr ⟨by simp only [List.mem_cons, not_or]; exact ⟨fun z => e z.symm, a⟩, b⟩
theorem backs_get (l l0 : List Slot) {j : Nat} {s : Slot} : ∀ {is : List Nat}, (backs l l0 is)[j]? = some s → (j ∈ is ∧ s = l0.getD j .no) ∨ (j ∉ is ∧ l[j]? = some s)
  | [], h => .inr ⟨by simp, h⟩
  | i :: is, h => by
    unfold backs at h
    by_cases e : i = j
    · subst e
      have hl : i < (backs l l0 is).length := by have := (List.getElem?_eq_some_iff.mp h).1; simpa using this
      rw [List.getElem?_set_self hl] at h
      cases h
      exact .inl ⟨List.mem_cons_self, rfl⟩
    · rw [List.getElem?_set_ne e] at h
      rcases backs_get l l0 h with ⟨a, b⟩ | ⟨a, b⟩
      · exact .inl ⟨List.mem_cons_of_mem _ a, b⟩
      · exact .inr ⟨by simp only [List.mem_cons, not_or]; exact ⟨fun z => e z.symm, a⟩, b⟩
theorem wipe_get {σ : List (Option V)} {j : Nat} : ∀ {is : List Nat}, j ∉ is → (wipe σ is)[j]? = σ[j]?
  | [], _ => rfl
  | i :: is, h => by
    simp only [List.mem_cons, not_or] at h
    unfold wipe
    rw [List.getElem?_set_ne (Ne.symm h.1), wipe_get h.2]
theorem wipe_eq {σ σ' : List (Option V)} {is : List Nat} (hl : σ.length = σ'.length) (h : ∀ j, j ∉ is → σ[j]? = σ'[j]?) : wipe σ is = wipe σ' is := by
  apply List.ext_getElem?
  intro j
  by_cases hj : j ∈ is
  · have no : ∀ τ : List (Option V), (wipe τ is)[j]? = if j < τ.length then some none else none := fun τ => by
      split
      · rename_i hl
        have hl2 : j < (wipe τ is).length := by rw [wipe_length]; exact hl
        rw [List.getElem?_eq_getElem hl2]
        cases e : (wipe τ is)[j] with
        | none => rfl
        | some x =>
          have e2 : (wipe τ is)[j]? = some (some x) := by rw [List.getElem?_eq_getElem hl2, e]
          exact absurd hj (wipe_some e2).2
      · rename_i hl
        exact List.getElem?_eq_none (by rw [wipe_length]; omega)
    rw [no σ, no σ', hl]
  · rw [wipe_get hj, wipe_get hj, h j hj]
section
variable {c : Cfg} {F F1 H H1 : Hp} {S S1 : Sta} {σ τ : List (Option V)} {own : List Nat}
theorem z_len (A : AbsX c F S σ τ H) : S.z.sl.length = (σ ++ τ).length := A.a.len
theorem AbsX.wipe (A : AbsX c F S σ τ H) : AbsX c F (S.wipe own) (L2.wipe σ own) τ H := by
  have l1 : (S.wipe own).lo.length = (L2.wipe σ own).length := by
    show (noes S.lo own).length = _
    rw [noes_length, wipe_length, A.l]
  refine ⟨A.a.mix rfl ?_ fun i s o h1 h2 => ?_, l1⟩
  · show ((S.wipe own).lo ++ S.gh).length = _
    rw [List.length_append, List.length_append, l1, A.gl]
  · have h1 : (noes S.lo own ++ S.gh)[i]? = some s := h1
    by_cases hi : i < S.lo.length
    · rw [List.getElem?_append_left (by rw [noes_length]; exact hi)] at h1
      rw [List.getElem?_append_left (by rw [wipe_length, ← A.l]; exact hi)] at h2
      rcases noes_get _ h1 with ⟨a, b⟩ | ⟨a, b⟩
      · subst b
        exact .inl ⟨(fun t z => nomatch z), trivial⟩
      · rw [wipe_get a] at h2
        refine .inr ⟨?_, ?_⟩
        · show (S.lo ++ S.gh)[i]? = _
          rw [List.getElem?_append_left hi]; exact b
        · rw [List.getElem?_append_left (by rw [← A.l]; exact hi)]; exact h2
    · rw [List.getElem?_append_right (by rw [noes_length]; omega), noes_length] at h1
      rw [List.getElem?_append_right (by rw [wipe_length, ← A.l]; omega), wipe_length] at h2
      refine .inr ⟨?_, ?_⟩
      · show (S.lo ++ S.gh)[i]? = _
        rw [List.getElem?_append_right (by omega)]; exact h1
      · rw [List.getElem?_append_right (by rw [← A.l]; omega)]; exact h2
theorem AbsX.back {H' F' : Hp} {σ' : List (Option V)} (A : AbsX c F' S σ' τ H') (A1 : AbsX c F1 S1 σ [] H1) (s : Same F1 F') (fr : (own.all fun i => Slot.free S1.lo[i]?) = true) (h : ∀ j, j ∉ own → σ'[j]? = σ[j]?) (hl : σ'.length = σ.length) : AbsX c F' (S.back S1 own) σ τ H' := by
  have l1 : (S.back S1 own).lo.length = σ.length := by
    show (backs S.lo S1.lo own).length = _
    rw [backs_length, A.l, hl]
  have lS : S.lo.length = σ.length := by rw [A.l, hl]
  refine ⟨A.a.mix rfl ?_ fun i s' o h1 h2 => ?_, l1⟩
  · show ((S.back S1 own).lo ++ S.gh).length = _
    rw [List.length_append, List.length_append, l1, A.gl]
  · have h1 : (backs S.lo S1.lo own ++ S.gh)[i]? = some s' := h1
    by_cases hi : i < S.lo.length
    · rw [List.getElem?_append_left (by rw [backs_length]; exact hi)] at h1
      rw [List.getElem?_append_left (by rw [← lS]; exact hi)] at h2
      rcases backs_get _ _ h1 with ⟨a, b⟩ | ⟨a, b⟩
      · have hi2 : i < S1.lo.length := by rw [A1.l, ← lS]; exact hi
        have e1 : S1.lo[i]? = some s' := by
          rw [b, List.getD_eq_getElem?_getD, List.getElem?_eq_getElem hi2]
          rfl
        have f1 := List.all_eq_true.mp fr i a
        rw [e1] at f1
        obtain ⟨o', ho, r⟩ := A1.slot e1
        rw [h2] at ho
        cases ho
        cases s' with
        | no => exact .inl ⟨(fun t z => nomatch z), trivial⟩
        | fu => exact .inl ⟨(fun t z => nomatch z), r⟩
        | sh t =>
          obtain ⟨v, e, r⟩ := r
          exact .inl ⟨fun t z => (by cases z), ⟨v, e, r.mono s⟩⟩
        | ow t => cases f1
      · refine .inr ⟨?_, ?_⟩
        · show (S.lo ++ S.gh)[i]? = _
          rw [List.getElem?_append_left hi]; exact b
        · rw [List.getElem?_append_left (by rw [← A.l]; exact hi), h i a]; exact h2
    · rw [List.getElem?_append_right (by rw [backs_length]; omega), backs_length] at h1
      rw [List.getElem?_append_right (by rw [← lS]; omega)] at h2
      refine .inr ⟨?_, ?_⟩
      · show (S.lo ++ S.gh)[i]? = _
        rw [List.getElem?_append_right (by omega)]; exact h1
      · rw [List.getElem?_append_right (by rw [← A.l]; omega), ← A.l, lS]; exact h2
theorem AbsX.gpopA (A : AbsX c F S σ τ H) : AbsX c F { S with gh := [] } σ [] H := by
  refine ⟨A.a.mix rfl ?_ fun i s o h1 h2 => .inr ⟨?_, ?_⟩, A.l⟩
  · show (S.lo ++ []).length = _
    rw [List.append_nil, List.append_nil, A.l]
  · have h1 : (S.lo ++ [])[i]? = some s := h1
    rw [List.append_nil] at h1
    show (S.lo ++ S.gh)[i]? = _
    rw [List.getElem?_append_left (List.getElem?_eq_some_iff.mp h1).1]
    exact h1
  · rw [List.append_nil] at h2
    rw [List.getElem?_append_left (List.getElem?_eq_some_iff.mp h2).1]
    exact h2
theorem AbsX.topOw {t : T} {o : Option V} (A : AbsX c F (S.push (.ow t)) σ (τ ++ [o]) H) : ∃ a u, o = some (.ref a) ∧ H a = some u ∧ Mk c.g F u t := by
  obtain ⟨a, e, ⟨u, hu, m⟩, _⟩ := A.as.top
  exact ⟨a, u, e, hu, m⟩
theorem AbsX.changeTop {t t' : T} {a : Addr} {u' : HO} (A : AbsX c F (S.push (.ow t)) σ (τ ++ [some (.ref a)]) H) (m : Mk c.g F u' t') : AbsX c F (S.push (.ow t')) σ (τ ++ [some (.ref a)]) (upd H a u') := by
  have A' := A.as
  have l : S.z.sl.length = (σ ++ τ).length := A.pop.a.len
  have := A'.change (i := S.z.sl.length) (t := t) (a := a) (by show (S.z.sl ++ [_])[_]? = _; exact getE_snoc_last) (by rw [l]; exact getE_snoc_last) m
  rw [put_push_top] at this
  exact .mk' this A.l
end
def Cfg.c0 (c : Cfg) : Cfg := { c with E := fun _ _ _ _ => False }
theorem AbsX.c0 {c : Cfg} {F H : Hp} {S : Sta} {σ τ : List (Option V)} (A : AbsX c F S σ τ H) : AbsX c.c0 F S σ τ H := ⟨A.a, A.l⟩
theorem AbsX.of0 {c : Cfg} {F H : Hp} {S : Sta} {σ τ : List (Option V)} (A : AbsX c.c0 F S σ τ H) : AbsX c F S σ τ H := ⟨A.a, A.l⟩
theorem R.bind_ok_inv {α β : Type} {r : R α} {k : α → Sta → R β} {b : β} {S : Sta} (h : r.bind k = .ok b S) : ∃ a S1, r = .ok a S1 ∧ k a S1 = .ok b S := by
  cases r with
  | ok a S1 => exact ⟨a, S1, rfl, h⟩
  | exc e S1 => cases h
  | stuck => cases h
section
variable {X : Cx} {c : Cfg} {pos : Pos}
theorem compOut {K : PySem.W.Frag} {own : List Nat} {fi : IF} {tgt : Tg} {ft : TF} {fe : EF} {σ : List (Option V)} {H : Hp} {Q : VK} (h : rdE c (compF own fi tgt ft fe) σ H Q) : tLc (rdI c fi) (rdG c.c0 tgt) (rdT c.c0 ft) (rdE c.c0 fe) own σ H Q := by
  obtain ⟨τ, F, S, A, q⟩ := h
  refine ⟨τ, F, S, A, rOut.bind q fun ts S1 F1 H1 s1 q1 J A1 it D nD => ?_⟩
  split at q1
  · rename_i hcond
    rw [Bool.and_eq_true] at hcond
    obtain ⟨hfree, hsub⟩ := hcond
    have sub : ∀ j, j ∈ tgt.slots → j ∈ own := fun j hj => by
      have := List.all_eq_true.mp hsub j hj
      exact List.contains_iff_mem.mp this
    split at q1
    · rename_i S2 hL
      split at q1
      · rename_i acc S3 hP
        have eS2 := Sta.popG_some hP
        have fin : ∀ H' F', Same F1 F' → AbsX c F' S2 (wipe σ own) (τ ++ [some (.ref D)]) H' → Q (.ref D) H' := fun H' F' s' A' => by
          refine q1 H' F' s' _ ?_
          rw [eS2] at A'
          exact AbsX.back (S := S3.push (.ow (.lst acc))) (S1 := { S1 with gh := [] }) A' (A1.gpopA) s' hfree (fun j hj => wipe_get hj) (wipe_length σ own)
        have n := ts.length
        refine ⟨fun i m H' => m = ts.length - i ∧ i ≤ ts.length ∧ ∃ F' S', Same F1 F' ∧ AbsX c F' S' (wipe σ own) (τ ++ [some (.ref D)]) H' ∧ compL own tgt ft fe (ts.drop i) S' = .ok () S2,
          ⟨ts.length, by simp, Nat.zero_le _, F1, _, Same.refl F1, (A1.newOw (u := .lst []) (t := .lst []) (.lst .nil) nD).wipe (own := own), hL⟩, ?_⟩
        rintro i m H' ⟨rfl, hi, F', S', s', A', e'⟩
        by_cases hlt : i < ts.length
        · refine .inr ⟨it.go i H' hlt (s'.trans A'.a.fh), fun H2 => ∃ F'' S'', Same F1 F'' ∧ AbsX c F'' S'' (wipe σ own) (τ ++ [some (.ref D)]) H2 ∧ compL own tgt ft fe (ts.drop (i + 1)) S'' = .ok () S2,
            fun H2 ⟨F'', S'', a1, a2, a3⟩ => ⟨ts.length - (i + 1), by omega, rfl, hlt, F'', S'', a1, a2, a3⟩, fun x H2 hy => ?_⟩
          obtain ⟨t, F2, ht, s2, A2⟩ := it.yld i x H' H2 F' S' (wipe σ own) (τ ++ [some (.ref D)]) hlt s' A' hy
          have ed : ts.drop i = t :: ts.drop (i + 1) := by
            rw [List.drop_eq_getElem_cons hlt]
            rw [List.getElem?_eq_getElem hlt] at ht
            rw [Option.some.inj ht]
          rw [ed] at e'
          unfold compL at e'
          split at e'
          · cases e'
          · rename_i S1' hput
            refine ⟨τ ++ [some (.ref D)], F2, S', t, S1', A2.c0, hput, fun σ2 A3 hσ => ⟨?_, ?_⟩⟩
            · refine wipe_eq ?_ fun j hj => ?_
              · have h1 := A3.l
                have h2 := A'.l
                have h3 : S1'.lo.length = S'.lo.length := by
                  cases tgt with
                  | nm k =>
                    unfold Tg.put at hput
                    dsimp only at hput
                    split at hput
                    · cases hput; simp [Sta.put]
                    · cases hput
                  | tp l =>
                    have pl : ∀ (l : List Nat) (us : List T) (Z Z' : Sta), putAll l us Z = some Z' → Z'.lo.length = Z.lo.length := by
                      intro l
                      induction l with
                      | nil => intro us Z Z' h; cases us with
                        | nil => cases h; rfl
                        | cons => cases h
                      | cons k l ih => intro us Z Z' h; cases us with
                        | nil => cases h
                        | cons u us =>
                          unfold putAll at h
                          split at h
                          · rw [ih us _ _ h]; simp [Sta.put]
                          · cases h
                    unfold Tg.put at hput
                    dsimp only at hput
                    split at hput
                    · exact pl _ _ _ _ hput
                    · exact pl _ _ _ _ hput
                    · exact pl _ _ _ _ hput
                    · cases hput
                rw [← h1, h3, h2, wipe_length]
              · rw [hσ j (fun z => hj (sub j z)), wipe_get hj]
            · have eW : wipe σ2 own = wipe σ own := by
                refine wipe_eq ?_ fun j hj => ?_
                · have h1 := A3.l
                  have h2 := A'.l
                  have h3 : S1'.lo.length = S'.lo.length := by
                    cases tgt with
                    | nm k =>
                      unfold Tg.put at hput
                      dsimp only at hput
                      split at hput
                      · cases hput; simp [Sta.put]
                      · cases hput
                    | tp l =>
                      have pl : ∀ (l : List Nat) (us : List T) (Z Z' : Sta), putAll l us Z = some Z' → Z'.lo.length = Z.lo.length := by
                        intro l
                        induction l with
                        | nil => intro us Z Z' h; cases us with
                          | nil => cases h; rfl
                          | cons => cases h
                        | cons k l ih => intro us Z Z' h; cases us with
                          | nil => cases h
                          | cons u us =>
                            unfold putAll at h
                            split at h
                            · rw [ih us _ _ h]; simp [Sta.put]
                            · cases h
                      unfold Tg.put at hput
                      dsimp only at hput
                      split at hput
                      · exact pl _ _ _ _ hput
                      · exact pl _ _ _ _ hput
                      · exact pl _ _ _ _ hput
                      · cases hput
                  rw [← h1, h3, h2, wipe_length]
                · rw [hσ j (fun z => hj (sub j z)), wipe_get hj]
              obtain ⟨b, S4, e4, k4⟩ := R.bind_ok_inv e'
              refine ⟨τ ++ [some (.ref D)], F2, S1', A3, ?_⟩
              rw [e4]
              intro H3 F3 s3 A4
              cases b with
              | false =>
                rw [if_neg Bool.false_ne_true] at k4 ⊢
                have A5 := A4.of0.wipe (own := own)
                rw [eW] at A5
                exact ⟨F3, _, (s'.trans s2).trans s3, A5, k4⟩
              | true =>
                rw [if_pos rfl] at k4 ⊢
                obtain ⟨z, S5, e5, k5⟩ := R.bind_ok_inv k4
                refine ⟨τ ++ [some (.ref D)], F3, S4, A4, ?_⟩
                rw [e5]
                intro H4 F4 s4 y A5
                split at k5
                · cases k5
                · rename_i yT hy
                  obtain ⟨F5, s5, A6⟩ := A5.of0.shTop hy
                  split at k5
                  · rename_i acc' S6 hP6
                    split at k5
                    · rename_i hsz
                      have e6 := Sta.popG_some hP6
                      have A7 := A6.pop
                      rw [e6] at A7
                      obtain ⟨a, u, ea, hu, mk⟩ := A7.topOw
                      cases ea
                      cases mk with
                      | @lst vs _ r =>
                      refine ⟨vs, hu, by rw [r.length, ← sz_eq]; exact hsz, ?_⟩
                      have A8 := (A7.changeTop (u' := .lst (vs ++ [y])) (t' := .lst (acc' ++ [yT])) (.lst (r.append (.cons A6.topSh .nil)))).wipe (own := own)
                      rw [eW] at A8
                      exact ⟨F5, _, (((s'.trans s2).trans s3).trans s4).trans s5, A8, k5⟩
                    · cases k5
                  · cases k5
        · have e : i = ts.length := by omega
          subst e
          rw [List.drop_length] at e'
          cases e'
          exact .inl ⟨it.stop H' (s'.trans A'.a.fh), fin H' F' s' A'⟩
      · exact q1.elim
    · exact q1.elim
  · exact q1.elim
theorem de_comp {elt tg iter : Expr} {ifs : List Expr} {scope : Scope} {own : List (Str × Nat)} {fi : IF} {tgt : Tg} {ft : TF} {fe : EF} (hc : X.calm = true) (hN : X.N.Nodup) (hi : PI X tg iter (rdI c fi)) (ok : BlkOk X.N X.env.scope scope own)
    (hg : ∀ (s : Shared) (H : Hp) (C : Addr) (cl : List (Str × Addr)) (fp : List Addr), PG (X.blk s H scope (compEnvC scope cl C X.env) fp) tg (rdG c.c0 tgt)) (ht : ∀ (s : Shared) (H : Hp) (C : Addr) (cl : List (Str × Addr)) (fp : List Addr), PTs (X.blk s H scope (compEnvC scope cl C X.env) fp) ifs (rdT c.c0 ft))
    (he : ∀ (s : Shared) (H : Hp) (C : Addr) (cl : List (Str × Addr)) (fp : List Addr), PE (X.blk s H scope (compEnvC scope cl C X.env) fp) elt (rdE c.c0 fe)) (hs : ∀ x, foldedSetIterable iter X.env x = pure x := by intro _; rfl) :
    PE X (.ListComp elt [⟨tg, iter, ifs, 0⟩] scope pos) (rdE c (compF (own.map (·.2)) fi tgt ft fe)) :=
  PE.imp (pe_lc hc hN hi ok hg ht he hs) fun _ _ _ q => compOut (K := X.K) q
theorem dts_nil : PTs X [] (rdT c yesT) := by
  refine ⟨fun pins s σ H Q I h => pts_nil.run pins s σ H Q I ?_⟩
  obtain ⟨τ, F, S, A, q⟩ := h
  exact q H F (Same.refl F) A
theorem dts_one {e : Expr} {f : TF} (h : PT X e (rdT c f)) : PTs X [e] (rdT c f) := pts_one h
end
end TL

end
section
set_option Elab.async false
set_option linter.all false
set_option maxRecDepth 100000
set_option autoImplicit false
/-! TL8: statements, list methods -/
open PySem PySem.Spec PyProof.Rows L2
namespace TL
def sP (c : Cfg) (D : Ends) : TL.Flow → Sta → Hp → Hp → Prop
  | .nx, S, F', H' => ∀ σ, AbsX c F' S σ [] H' → D.nx σ H'
  | .rt x, S, F', H' => ∀ v σ, AbsX c F' (S.push x) σ [some v] H' → D.rt v H'
  | .bk, S, F', H' => ∀ σ, AbsX c F' S σ [] H' → D.bk σ H'
  | .ct, S, F', H' => ∀ σ, AbsX c F' S σ [] H' → D.ct σ H'
def sOut (c : Cfg) (F : Hp) (D : Ends) : R TL.Flow → Prop
  | .ok a S => ∀ H' F', Same F F' → sP c D a S F' H'
  | .exc e S => ∀ cls d σ H' F', Same F F' → AbsX c F' S σ [] H' → ExRel c.g c.B.H F' H' e cls d → c.E σ cls d H'
  | .stuck => False
def rdS (c : Cfg) (f : SF) : TS := fun D σ H => ∃ F S, AbsX c F S σ [] H ∧ sOut c F D (f S)
theorem sOut.mono {c : Cfg} {F F1 : Hp} {D : Ends} (s : Same F F1) : ∀ {r : R TL.Flow}, sOut c F D r → sOut c F1 D r
  | .ok _ _, h => fun H' F' s' => h H' F' (s.trans s')
  | .exc _ _, h => fun cls d σ H' F' s' => h cls d σ H' F' (s.trans s')
  | .stuck, h => h
theorem sOut.bind {α : Type} {c : Cfg} {F : Hp} {D : Ends} {σ : List (Option V)} {P1 : α → Sta → Hp → Hp → Prop} {r : R α} {k : α → Sta → R TL.Flow} (h : sOut c F D (r.bind k))
    (K : ∀ a S F' H', Same F F' → sOut c F' D (k a S) → P1 a S F' H') : rOut c F σ [] P1 r := by
  cases r with
  | ok a S =>
    intro H' F' s
    exact K a S F' H' s (sOut.mono s h)
  | exc e S => exact fun cls d H' F' s A q => h cls d σ H' F' s A q
  | stuck => exact h
theorem sOut.bindS {c : Cfg} {F : Hp} {D D1 : Ends} {r : R TL.Flow} {k : TL.Flow → Sta → R TL.Flow} (h : sOut c F D (r.bind k))
    (K : ∀ a S F' H', Same F F' → sOut c F' D (k a S) → sP c D1 a S F' H') : sOut c F D1 r := by
  cases r with
  | ok a S =>
    intro H' F' s
    exact K a S F' H' s (sOut.mono s h)
  | exc e S => exact h
  | stuck => exact h
theorem pss_imp {X : Cx} {e : List Stmt} {t t' : TS} (h : PSs X e t) (w : ∀ D σ H, t' D σ H → t D σ H) : PSs X e t' := ⟨fun pins s σ H D I q => h.run pins s σ H D I (w D σ H q)⟩

def nxF : SF := fun S => .ok .nx S
def bkF : SF := fun S => .ok .bk S
def ctF : SF := fun S => .ok .ct S
def stuckF : SF := fun _ => .stuck
def seqF (f g : SF) : SF := fun S => (f S).bind fun fl S1 => match fl with
  | .nx => g S1
  | .rt x => .ok (.rt x) S1
  | .bk => .ok .bk S1
  | .ct => .ok .ct S1
def retF (f : EF) : SF := fun S => (f S).bind fun x S1 => .ok (.rt x) S1
def retNF : SF := fun S => .ok (.rt (.sh .non)) S
def dropF (f : EF) : SF := fun S => (f S).bind fun _ S1 => .ok .nx S1
def ifF (t : TF) (a b : SF) : SF := fun S => (t S).bind fun k S1 => if k = true then a S1 else b S1
def setF (i : Nat) (f : EF) : SF := fun S => (f S).bind fun x S1 => if i < S1.lo.length then .ok .nx (S1.put i x) else .stuck
def asgF (g : Tg) (f : OF) : SF := fun S => (f S).bind fun o S1 => match o with
  | .val t => match g.put t S1 with
    | some S2 => .ok .nx S2
    | none => .stuck
  | _ => .stuck
def parF (i j : Nat) (f g : EF) : SF := fun S => (f S).bind fun x S1 => match g (S1.push x) with
  | .ok y S2 => match S2.popG with
    | some (x', S3) => if i < S3.lo.length ∧ j < S3.lo.length then .ok .nx ((S3.put j y).put i x') else .stuck
    | none => .stuck
  | .exc e S2 => match S2.popG with
    | some (_, S3) => .exc e S3
    | none => .stuck
  | .stuck => .stuck
def forL (g : Tg) (b : SF) : List T → Sta → R TL.Flow
  | [], S => .ok .nx S
  | t :: ts, S => match g.put t S with
    | none => .stuck
    | some S1 => (b S1).bind fun fl S2 => match fl with
      | .nx => forL g b ts S2
      | .ct => forL g b ts S2
      | .bk => .ok .nx S2
      | .rt x => .ok (.rt x) S2
def forF (it : IF) (g : Tg) (b : SF) : SF := fun S => (it S).bind fun ts S1 => forL g b ts S1
def whileL (t : TF) (b : SF) : Nat → Sta → R TL.Flow
  | 0, _ => .stuck
  | n + 1, S => (t S).bind fun k S1 => if k = true then (b S1).bind fun fl S2 => match fl with
      | .nx => whileL t b n S2
      | .ct => whileL t b n S2
      | .bk => .ok .nx S2
      | .rt x => .ok (.rt x) S2
    else .ok .nx S1
def whileF (n : Nat) (t : TF) (b : SF) : SF := whileL t b n

section
variable {X : Cx} {c : Cfg} {st : Stmt} {rest : List Stmt} {e : Expr} {pos : Pos}
theorem ds_nil : PSs X [] (rdS c nxF) := by
  refine pss_imp pss_nil fun D σ H q => ?_
  obtain ⟨F, S, A, q⟩ := q
  exact q H F (Same.refl F) σ A
theorem ds_pass : PS X (.Pass pos) (rdS c nxF) := by
  refine ps_imp ps_pass fun D σ H q => ?_
  obtain ⟨F, S, A, q⟩ := q
  exact q H F (Same.refl F) σ A
theorem ds_doc {x : Str} {j : Nat} {pos' : Pos} : PS X (.Expr (.Constant (.str x) j pos) pos') (rdS c nxF) := by
  refine ps_imp ps_doc fun D σ H q => ?_
  obtain ⟨F, S, A, q⟩ := q
  exact q H F (Same.refl F) σ A
theorem ds_break : PS X (.Break pos) (rdS c bkF) := by
  refine ps_imp ps_break fun D σ H q => ?_
  obtain ⟨F, S, A, q⟩ := q
  exact q H F (Same.refl F) σ A
theorem ds_continue : PS X (.Continue pos) (rdS c ctF) := by
  refine ps_imp ps_continue fun D σ H q => ?_
  obtain ⟨F, S, A, q⟩ := q
  exact q H F (Same.refl F) σ A
theorem ds_stuck : PS X st (rdS c stuckF) := by
  refine ps_imp ps_never fun D σ H q => ?_
  obtain ⟨F, S, A, q⟩ := q
  exact q
theorem dss_stuck : PSs X rest (rdS c stuckF) := by
  refine pss_imp pss_never fun D σ H q => ?_
  obtain ⟨F, S, A, q⟩ := q
  exact q
theorem ds_one {f : SF} (h : PS X st (rdS c f)) : PSs X [st] (rdS c f) := pss_one h
theorem ds_cons {f g : SF} (h : PS X st (rdS c f)) (hr : PSs X rest (rdS c g)) : PSs X (st :: rest) (rdS c (seqF f g)) := by
  refine pss_imp (pss_cons h hr) fun D σ H q => ?_
  obtain ⟨F, S, A, q⟩ := q
  refine ⟨F, S, A, sOut.bindS q fun fl S1 F1 H1 s1 q1 => ?_⟩
  cases fl with
  | nx => exact fun σ1 A1 => ⟨F1, S1, A1, q1⟩
  | rt x => exact q1 H1 F1 (Same.refl F1)
  | bk => exact q1 H1 F1 (Same.refl F1)
  | ct => exact q1 H1 F1 (Same.refl F1)
theorem ds_ret {f : EF} (h : PE X e (rdE c f)) : PS X (.Return (some e) pos) (rdS c (retF f)) := by
  refine ps_imp (ps_ret h) fun D σ H q => ?_
  obtain ⟨F, S, A, q⟩ := q
  exact ⟨[], F, S, A, sOut.bind q fun x S1 F1 H1 s1 q1 v A1 => q1 H1 F1 (Same.refl F1) v σ A1⟩
theorem ds_retN : PS X (.Return none pos) (rdS c retNF) := by
  refine ps_imp ps_retN fun D σ H q => ?_
  obtain ⟨F, S, A, q⟩ := q
  exact q H F (Same.refl F) .non σ (A.pushSh .non)
theorem ds_expr {f : EF} (h : PE X e (rdE c f)) (hs : swapsWith e none pos.line X.env = pure false := by rfl) : PS X (.Expr e pos) (rdS c (dropF f)) := by
  refine ps_imp (ps_expr h hs) fun D σ H q => ?_
  obtain ⟨F, S, A, q⟩ := q
  exact ⟨[], F, S, A, sOut.bind q fun x S1 F1 H1 s1 q1 v A1 => q1 H1 F1 (Same.refl F1) σ A1.pop⟩
theorem ds_if {d : Expr} {a b : List Stmt} {ft : TF} {fa fb : SF} (h : PT X d (rdT c ft)) (ha : PSs X a (rdS c fa)) (hb : PSs X b (rdS c fb)) : PS X (.If d a b pos) (rdS c (ifF ft fa fb)) := by
  refine ps_imp (ps_if h ha hb) fun D σ H q => ?_
  obtain ⟨F, S, A, q⟩ := q
  refine ⟨[], F, S, A, sOut.bind q fun k S1 F1 H1 s1 q1 A1 => ?_⟩
  cases k with
  | true => exact ⟨F1, S1, A1, q1⟩
  | false => exact ⟨F1, S1, A1, q1⟩
theorem setOut {i : Nat} {f : EF} {D : Ends} {σ : L2.St} {H : Hp} (q : rdS c (setF i f) D σ H) : tAsg (rdE c f) (gName i) D σ H := by
  obtain ⟨F, S, A, q⟩ := q
  refine ⟨[], F, S, A, sOut.bind q fun x S1 F1 H1 s1 q1 v A1 => ?_⟩
  split at q1
  · rename_i hi
    exact q1 H1 F1 (Same.refl F1) _ (A1.assign (by rw [← A1.pop.l]; exact hi))
  · exact q1.elim
theorem ds_set {i : Nat} {x : Str} {f : EF} {pos' : Pos} (hN : X.N.Nodup) (hi : X.N[i]? = some x) (hx : Loc X.env.scope x) (he : PE X e (rdE c f)) (hf : X.fn x = true ∨ X.env.scope.names.lookup x = some .local) (hs : swapsWith e (some (.Name x pos')) pos.line X.env = pure false := by rfl) :
    PS X (.Assign [.Name x pos'] e pos) (rdS c (setF i f)) :=
  ps_imp (ps_set hN hi hx he hs hf) fun _ _ _ q => setOut q
theorem ds_setLc {elt tg iter : Expr} {ifs : List Expr} {scope : Scope} {own : List (Str × Nat)} {fi : IF} {tgt : Tg} {ft : TF} {fe : EF} {i : Nat} {y : Str} {py spos : Pos} (hc : X.calm = true) (hN : X.N.Nodup) (hy : X.N[i]? = some y) (hyl : X.env.scope.names.lookup y = some .local)
    (hsw : swapsWith (.ListComp elt [⟨tg, iter, ifs, 0⟩] scope pos) (some (.Name y py)) spos.line X.env = pure true) (hi : PI X tg iter (rdI c fi)) (ok : BlkOk X.N X.env.scope scope own)
    (hg : ∀ (s : Shared) (H : Hp) (C : Addr) (cl : List (Str × Addr)) (fp : List Addr), PG (X.blk s H scope (compEnvC scope cl C X.env) fp) tg (rdG c.c0 tgt)) (ht : ∀ (s : Shared) (H : Hp) (C : Addr) (cl : List (Str × Addr)) (fp : List Addr), PTs (X.blk s H scope (compEnvC scope cl C X.env) fp) ifs (rdT c.c0 ft))
    (he : ∀ (s : Shared) (H : Hp) (C : Addr) (cl : List (Str × Addr)) (fp : List Addr), PE (X.blk s H scope (compEnvC scope cl C X.env) fp) elt (rdE c.c0 fe)) (hs : ∀ x, foldedSetIterable iter X.env x = pure x := by intro _; rfl) :
    PS X (.Assign [.Name y py] (.ListComp elt [⟨tg, iter, ifs, 0⟩] scope pos) spos) (rdS c (setF i (compF (own.map (·.2)) fi tgt ft fe))) :=
  ps_imp (ps_setLc hc hN hy hyl hsw hi ok hg ht he hs) fun D σ H q => by
    have q1 := setOut q
    obtain ⟨τ, F, S, A, q2⟩ := q1
    exact compOut (K := X.K) ⟨τ, F, S, A, q2⟩
theorem ds_asg {tg : Expr} {f : OF} {g : Tg} (he : PE X e (rdO c f)) (hg : PG X tg (rdG c g)) (hs : swapsWithSole [tg] e pos.line X.env = pure false := by rfl) (hw : swappedStores [tg] e X.env = pure none := by rfl)
    (h1 : (assignEach [tg] X.env).map (·.2) = [assign tg X.env] := by rfl) : PS X (.Assign [tg] e pos) (rdS c (asgF g f)) := by
  refine ps_imp (ps_asg he hg hs hw h1) fun D σ H q => ?_
  obtain ⟨F, S, A, q⟩ := q
  refine ⟨[], F, S, A, sOut.bind q fun o S1 F1 H1 s1 q1 v A1 r1 => ?_⟩
  split at q1
  · split at q1
    · rename_i t _ S2 e2
      exact ⟨[], F1, S1, t, S2, A1.pushSh r1, e2, fun σ' A' _ => q1 H1 F1 (Same.refl F1) σ' A'⟩
    · exact q1.elim
  · exact q1.elim
theorem ds_par {i j : Nat} {x y : Str} {a b : Expr} {fa fb : EF} {px py pt : Pos} {kt k2 pt2} (hc : X.calm = true) (hN : X.N.Nodup) (hi : X.N[i]? = some x) (hj : X.N[j]? = some y) (hij : i ≠ j)
    (hx : X.env.scope.names.lookup x = some .local) (hy : X.env.scope.names.lookup y = some .local) (ha : PE X a (rdE c fa)) (hb : PE X b (rdE c fb))
    (hw : swappedStores [.Tuple [.Name x px, .Name y py] kt pt] (.Tuple [a, b] k2 pt2) X.env = pure (some [x, y]))
    (hs : swapsWithSole [.Tuple [.Name x px, .Name y py] kt pt] (.Tuple [a, b] k2 pt2) pos.line X.env = pure false := by rfl)
    (s2 : starEach [a, b] X.env = (false, eval a X.env) :: starEach [b] X.env := by rfl) (s3 : starEach [b] X.env = (false, eval b X.env) :: starEach [] X.env := by rfl) :
    PS X (.Assign [.Tuple [.Name x px, .Name y py] kt pt] (.Tuple [a, b] k2 pt2) pos) (rdS c (parF i j fa fb)) := by
  refine ps_imp (ps_par hc hN hi hj hij hx hy (pa_cons ha (pa_cons hb pa_nil s3) s2) hw hs) fun D σ H q => ?_
  obtain ⟨F, S, A, q⟩ := q
  refine ⟨[], F, S, A, sOut.bind q fun u S1 F1 H1 s1 q1 v A1 => ⟨_, F1, _, A1, ?_⟩⟩
  split at q1
  · rename_i y' S2 e2
    rw [e2]
    intro H2 F2 s2 w A2
    split at q1
    · rename_i x' S3 e3
      have eS := Sta.popG_some e3
      subst eS
      split at q1
      · rename_i hh
        refine ⟨v, w, rfl, ?_⟩
        have l3 : S3.lo.length = σ.length := A2.pop.pop.l
        have A3 := A2.assign (i := j) (by rw [← l3]; exact hh.2)
        have A4 : AbsX c F2 (((S3.put j y').push x')) (σ.set j (some w)) ([] ++ [some v]) H2 := A3
        have A5 := A4.assign (i := i) (by rw [List.length_set, ← l3]; exact hh.1)
        rw [List.set_comm _ _ (Ne.symm hij)] at A5
        exact q1 H2 F2 s2 _ A5
      · exact q1.elim
    · exact q1.elim
  · rename_i ex S2 e2
    rw [e2]
    intro cls d H2 F2 s2 A2 r2
    split at q1
    · rename_i x' S3 e3
      have eS := Sta.popG_some e3
      subst eS
      exact q1 cls d σ H2 F2 s2 A2.pop r2
    · exact q1.elim
  · exact q1.elim
theorem ds_for {tg iter : Expr} {body : List Stmt} {fi : IF} {g : Tg} {fb : SF} (hp : PassesOwn (model X.prog X.w) X.A X.env X.xe) (hc : X.calm = true) (hi : PI X tg iter (rdI c fi)) (hg : PG X tg (rdG c g)) (hb : PSs X body (rdS c fb))
    (hs : ∀ x, foldedSetIterable iter X.env x = pure x := by intro _; rfl) : PS X (.For tg iter body [] pos) (rdS c (forF fi g fb)) := by
  refine ps_imp (ps_for hp hc hi hg hb hs) fun D σ H q => ?_
  obtain ⟨F, S, A, q⟩ := q
  refine ⟨[], F, S, A, sOut.bind q fun ts S1 F1 H1 s1 q1 J A1 it => ?_⟩
  refine ⟨fun i m σ H => m = ts.length - i ∧ i ≤ ts.length ∧ ∃ F' S', Same F1 F' ∧ AbsX c F' S' σ [] H ∧ sOut c F' D (forL g fb (ts.drop i) S'),
    ⟨ts.length, by simp, Nat.zero_le _, F1, S1, Same.refl F1, A1, q1⟩, ?_⟩
  rintro i m σ' H' ⟨rfl, hi', F', S', s', A', q'⟩
  by_cases hlt : i < ts.length
  · refine .inr ⟨it.go i H' hlt (s'.trans A'.a.fh), fun σ2 H2 => ∃ F'' S'', Same F1 F'' ∧ AbsX c F'' S'' σ2 [] H2 ∧ sOut c F'' D (forL g fb (ts.drop (i + 1)) S''),
      fun σ2 H2 ⟨F'', S'', a1, a2, a3⟩ => ⟨ts.length - (i + 1), by omega, rfl, hlt, F'', S'', a1, a2, a3⟩, fun x H2 hy => ?_⟩
    obtain ⟨t, F2, ht, s2, A2⟩ := it.yld i x H' H2 F' S' σ' [] hlt s' A' hy
    have ed : ts.drop i = t :: ts.drop (i + 1) := by
      rw [List.drop_eq_getElem_cons hlt]
      rw [List.getElem?_eq_getElem hlt] at ht
      rw [Option.some.inj ht]
    rw [ed] at q'
    unfold forL at q'
    split at q'
    · exact q'.elim
    · rename_i S3 e3
      refine ⟨[], F2, S', t, S3, A2, e3, fun σ3 A3 _ => ⟨F2, S3, A3, sOut.bindS (q'.mono s2) fun fl S4 F4 H4 s4 q4 => ?_⟩⟩
      cases fl with
      | nx => exact fun σ4 A4 => ⟨F4, S4, (s'.trans s2).trans s4, A4, q4⟩
      | ct => exact fun σ4 A4 => ⟨F4, S4, (s'.trans s2).trans s4, A4, q4⟩
      | bk => exact q4 H4 F4 (Same.refl F4)
      | rt x => exact q4 H4 F4 (Same.refl F4)
  · have e : i = ts.length := by omega
    subst e
    rw [List.drop_length] at q'
    exact .inl ⟨it.stop H' (s'.trans A'.a.fh), q' H' F' (Same.refl F') σ' A'⟩
theorem ds_while {d : Expr} {body : List Stmt} {ft : TF} {fb : SF} (n : Nat) (hp : PassesOwn (model X.prog X.w) X.A X.env X.xe) (hc : PT X d (rdT c ft)) (hb : PSs X body (rdS c fb)) : PS X (.While d body [] pos) (rdS c (whileF n ft fb)) := by
  refine ps_imp (ps_while hp hc hb) fun D σ H q => ?_
  obtain ⟨F, S, A, q⟩ := q
  refine ⟨fun m σ H => ∃ F' S', Same F F' ∧ AbsX c F' S' σ [] H ∧ sOut c F' D (whileL ft fb m S'), ⟨n, F, S, Same.refl F, A, q⟩, ?_⟩
  rintro m σ' H' ⟨F', S', s', A', q'⟩
  cases m with
  | zero => exact q'.elim
  | succ m =>
    refine ⟨[], F', S', A', sOut.bind q' fun k S1 F1 H1 s1 q1 A1 => ?_⟩
    cases k with
    | false => exact q1 H1 F1 (Same.refl F1) σ' A1
    | true =>
      rw [if_pos rfl] at q1 ⊢
      refine ⟨fun σ2 H2 => ∃ F' S', Same F F' ∧ AbsX c F' S' σ2 [] H2 ∧ sOut c F' D (whileL ft fb m S'), fun σ2 H2 q => ⟨m, Nat.lt_succ_self m, q⟩, F1, S1, A1, sOut.bindS q1 fun fl S4 F4 H4 s4 q4 => ?_⟩
      cases fl with
      | nx => exact fun σ4 A4 => ⟨F4, S4, (s'.trans s1).trans s4, A4, q4⟩
      | ct => exact fun σ4 A4 => ⟨F4, S4, (s'.trans s1).trans s4, A4, q4⟩
      | bk => exact q4 H4 F4 (Same.refl F4)
      | rt x => exact q4 H4 F4 (Same.refl F4)
end

/-! ### list methods on an own list -/
def MethR (c : Cfg) (r : V → List V → Hp → VK → Prop) (p : List T → List T → Option (List T × T)) : Prop :=
  ∀ (F H : Hp) (l : Addr) (vs us : List V) (ts as ts' : List T) (z : T) (Q : VK), Same F H → H l = some (.lst vs) → RepAll c.g F vs ts → RepAll c.g F us as → p ts as = some (ts', z) →
    (∀ v' vs', RepAll c.g F vs' ts' → Rep c.g F v' z → Q v' (upd H l (.lst vs'))) → r (.ref l) us H Q
def methF (i : Nat) (p : List T → List T → Option (List T × T)) (fa : AF) : EF := fun S => match S.lo[i]? with
  | some (.ow (.lst _)) => (fa S).bind fun os S1 => match vals os, S1.lo[i]? with
    | some us, some (.ow (.lst ts)) => match p ts us with
      | some (ts', z) => .ok (.sh z) (S1.put i (.ow (.lst ts')))
      | none => .stuck
    | _, _ => .stuck
  | _ => .stuck
section
variable {X : Cx} {c : Cfg} {e : Expr} {es : List Expr}
theorem methOut {i : Nat} {id : String} {r : V → List V → Hp → VK → Prop} {p : List T → List T → Option (List T × T)} {fa : AF} (hp : MethR c r p) {σ : L2.St} {H : Hp} {Q : VK} (q : rdE c (methF i p fa) σ H Q) : tBM X.K "list" r (tVar i) (rdA c fa) σ H Q := by
  obtain ⟨τ, F, S, A, q⟩ := q
  unfold methF at q
  split at q
  · rename_i t0 e0
    obtain ⟨o, h1, a, h2, ⟨u, hu, mk⟩, r2⟩ := A.slot e0
    subst h2
    refine ⟨_, h1, ?_, τ, F, S, A, rOut.bind q fun os S1 F1 H1 s1 q1 vs A1 r1 => ?_⟩
    · cases mk with
      | lst r => exact .inl ⟨rfl, _, .inl (.inl hu)⟩
    · split at q1
      · rename_i us ts e1 e2
        split at q1
        · rename_i ts' z e3
          obtain ⟨o, h1', a', h2', ⟨u', hu', mk'⟩, r2'⟩ := A1.slot e2
          subst h2'
          rw [h1] at h1'
          cases h1'
          cases mk' with
          | lst rl =>
            refine hp F1 H1 a _ _ _ _ _ _ _ A1.a.fh hu' rl (r1.vals e1) e3 fun v' vs' rv rz => ?_
            exact q1 _ F1 (Same.refl F1) v' ((A1.change e2 h1 (.lst rv)).pushSh rz)
        · exact q1.elim
      · exact q1.elim
  · exact q.elim
theorem de_meth {i : Nat} {x name : Str} {id : String} {r : V → List V → Hp → VK → Prop} {p : List T → List T → Option (List T × T)} {fa : AF} {p1 apos cpos : Pos} (slot : PySem.Slot "list" name id) (hty : typeOf (.builtin id) = pure (.type "method_descriptor")) (hm : MtR X id r) (hp : MethR c r p)
    (ho : PE X (.Name x p1) (tVar i)) (ha : PA X (e :: es) (rdA c fa))
    (hbase : attributeBase (.Name x p1) name X.env (eval (.Name x p1) X.env) = eval (.Name x p1) X.env := by rfl)
    (hfew : ((backTo cpos (starEach (e :: es) X.env)).all (fun x => !x.1) && (backToKw cpos (keywordEach [] X.env)).all (fun x => x.1.isSome)
      && decide ((e :: es).length + ([] : List Keyword).length + (if ([] : List Keyword).isEmpty then 0 else 1) < 30)) = true := by rfl)
    (hline : (apos.endLine == cpos.line) = true := by rfl) (hs : starEach (e :: es) X.env = (false, eval e X.env) :: starEach es X.env := by rfl) (hplain : (backTo cpos (starEach es X.env)).any (·.1) = false := by rfl) :
    PE X (.Call (.Attribute (.Name x p1) name apos) (e :: es) [] cpos) (rdE c (methF i p fa)) :=
  PE.imp (pe_bm PySem.F.plainAttrs_list slot hty hm ho ha hbase hfew hline hs hplain) fun _ _ _ q => methOut (X := X) (id := id) hp q
theorem de_meth0 {i : Nat} {x name : Str} {id : String} {r : V → List V → Hp → VK → Prop} {p : List T → List T → Option (List T × T)} {p1 apos cpos : Pos} (slot : PySem.Slot "list" name id) (hty : typeOf (.builtin id) = pure (.type "method_descriptor")) (hm : MtR X id r) (hp : MethR c r p)
    (ho : PE X (.Name x p1) (tVar i))
    (hbase : attributeBase (.Name x p1) name X.env (eval (.Name x p1) X.env) = eval (.Name x p1) X.env := by rfl) (hline : (apos.endLine == cpos.line) = true := by rfl) :
    PE X (.Call (.Attribute (.Name x p1) name apos) [] [] cpos) (rdE c (methF i p nilA)) :=
  PE.imp (pe_bm0 PySem.F.plainAttrs_list slot hty hm ho hbase hline) fun σ H Q q => by
    obtain ⟨v, h1, ty, τ, F, S, A, q2⟩ := methOut (X := X) (id := id) hp q
    exact ⟨v, h1, ty, q2 H F (Same.refl F) [] A .nil⟩
end
def apP (ts as : List T) : Option (List T × T) := match as with
  | [t] => if ts.length < sz then some (ts ++ [t], .non) else none
  | _ => none
def exP (ts as : List T) : Option (List T × T) := match as with
  | [.lst us] => if ts.length + us.length ≤ sz then some (ts ++ us, .non) else none
  | _ => none
def popP (ts as : List T) : Option (List T × T) := match as, ts[ts.length - 1]? with
  | [], some t => some (ts.dropLast, t)
  | _, _ => none
def popAtP (ts as : List T) : Option (List T × T) := match as with
  | [.int i] => match seqIndex? i ts.length with
    | some k => match ts[k]? with
      | some t => if -(2 ^ 63) ≤ i ∧ i < 2 ^ 63 then some (ts.eraseIdx k, t) else none
      | none => none
    | none => none
  | _ => none
theorem p_append {c : Cfg} : MethR c rAppend apP := by
  intro F H l vs us ts as ts' z Q s h r ra e k
  unfold apP at e
  split at e
  · split at e
    · rename_i hz
      cases e
      cases ra with
      | cons r1 r0 =>
        cases r0
        exact ⟨l, vs, _, rfl, rfl, h, by rw [r.length, ← sz_eq]; exact hz, k _ _ (r.append (.cons r1 .nil)) .non⟩
    · cases e
  · cases e
theorem p_extend {c : Cfg} : MethR c rExtend exP := by
  intro F H l vs us ts as ts' z Q s h r ra e k
  unfold exP at e
  split at e
  · split at e
    · rename_i hz
      cases e
      cases ra with
      | cons r1 r0 =>
        cases r0
        cases r1 with
        | lst e1 r1 => exact ⟨l, _, vs, _, rfl, rfl, h, s _ _ e1, by rw [r.length, r1.length, ← sz_eq]; exact hz, k _ _ (r.append r1) .non⟩
    · cases e
  · cases e
theorem RepAll.dropLast {g : Ga} {F : Hp} : ∀ {vs : List V} {ts : List T}, RepAll g F vs ts → RepAll g F vs.dropLast ts.dropLast
  | _, _, .nil => .nil
  | _, _, .cons a .nil => .nil
  | _, _, .cons a (.cons b r) => .cons a (RepAll.dropLast (.cons b r))
theorem p_pop {c : Cfg} : MethR c rPop popP := by
  intro F H l vs us ts as ts' z Q s h r ra e k
  unfold popP at e
  split at e
  · rename_i t e1
    cases e
    cases ra
    obtain ⟨v, h1, h2⟩ := r.get e1
    exact ⟨l, vs, v, rfl, rfl, h, by rw [r.length]; exact h1, k _ _ r.dropLast h2⟩
  · cases e
theorem p_popAt {c : Cfg} : MethR c rPopAt popAtP := by
  intro F H l vs us ts as ts' z Q s h r ra e k
  unfold popAtP at e
  split at e
  · rename_i i
    split at e
    · rename_i j e1
      split at e
      · rename_i t e2
        split at e
        · rename_i hh
          cases e
          cases ra with
          | cons r1 r0 =>
            cases r0
            cases r1
            obtain ⟨v, h1, h2⟩ := r.get e2
            exact ⟨l, vs, i, j, v, rfl, rfl, h, hh.1, hh.2, by rw [r.length]; exact e1, h1, k _ _ (r.erase j) h2⟩
        · cases e
      · cases e
    · cases e
  · cases e

/-! ### x[i] = v on an own list -/
def setIF (i : Nat) (fv fi : OF) : SF := fun S => (fv S).bind fun o S1 => match S1.lo[i]? with
  | some (.ow (.lst _)) => (fi S1).bind fun o' S2 => match o, o', S2.lo[i]? with
    | .val t, .val (.int k), some (.ow (.lst ts)) => match ixN ts.length k with
      | some j => .ok .nx (S2.put i (.ow (.lst (ts.set j t))))
      | none => .stuck
    | _, _, _ => .stuck
  | _ => .stuck
theorem sOut.bind2 {α : Type} {c : Cfg} {F : Hp} {D : Ends} {r : R α} {k : α → Sta → R TL.Flow} {σ τ : List (Option V)} {P1 : α → Sta → Hp → Hp → Prop} (h : sOut c F D (r.bind k)) (hτ : τ = [])
    (K : ∀ a S F' H', Same F F' → sOut c F' D (k a S) → P1 a S F' H') : rOut c F σ τ P1 r := by
  subst hτ
  exact sOut.bind h K
theorem ds_setI {X : Cx} {c : Cfg} {i : Nat} {x : Str} {a b : Expr} {fv fi : OF} {p1 pos pos' : Pos} (ho : PE X (.Name x p1) (tVar i)) (hv : PE X b (rdO c fv)) (hi : PE X a (rdO c fi))
    (ha : ∀ v, assign (.Subscript (.Name x p1) a pos) X.env v = (do
      let ov ← holding [v] (eval (.Name x p1) X.env)
      let iv ← holding [v, ov] (eval a X.env)
      standAt pos
      holding [v, ov, iv] (setItem ov iv v)
      release [v, ov, iv] []) := by intro _; rfl)
    (hs : swapsWithSole [.Subscript (.Name x p1) a pos] b pos'.line X.env = pure false := by rfl) (hw : swappedStores [.Subscript (.Name x p1) a pos] b X.env = pure none := by rfl)
    (h1 : (assignEach [.Subscript (.Name x p1) a pos] X.env).map (·.2) = [assign (.Subscript (.Name x p1) a pos) X.env] := by rfl) : PS X (.Assign [.Subscript (.Name x p1) a pos] b pos') (rdS c (setIF i fv fi)) := by
  refine ps_imp (ps_asg hv (pg_sub ho hi set_list ha) hs hw h1) fun D σ H q => ?_
  obtain ⟨F, S, A, q⟩ := q
  refine ⟨[], F, S, A, sOut.bind q fun o S1 F1 H1 s1 q1 v A1 r1 => ?_⟩
  split at q1
  · rename_i t0 e0
    obtain ⟨o2, h1, a2, h2, ⟨u, hu, mk⟩, r2⟩ := A1.slot e0
    subst h2
    refine ⟨_, h1, [], F1, S1, A1, sOut.bind q1 fun o' S2 F2 H2 s2 q2 w A2 r2 => ?_⟩
    split at q2
    · rename_i t k ts e2
      split at q2
      · rename_i j e3
        obtain ⟨o3, h3, a3, h4, ⟨u', hu', mk'⟩, r3⟩ := A2.slot e2
        subst h4
        rw [h1] at h3
        cases h3
        cases mk' with
        | lst rl =>
          cases r2
          exact ⟨_, _, k, j, rfl, rfl, hu', by rw [rl.length]; exact e3, q2 _ F2 (Same.refl F2) σ (A2.change e2 h1 (.lst (rl.set (r1.mono s2) j)))⟩
      · exact q2.elim
    · exact q2.elim
  · exact q1.elim
end TL

end
section
set_option Elab.async false
set_option linter.all false
set_option maxRecDepth 100000
set_option autoImplicit false
/-! TL9: the drawing list, defs and their calls -/
open PySem PySem.Spec PyProof.Rows L2
namespace TL
/-! ### the drawing list -/
def Nib.get (n : Nib) : Nat → Option T
  | 0 => some (.lst (n.cells.map T.int))
  | 1 => some (.int n.turn)
  | 2 => some (.int n.rest)
  | _ => none
def Nib.set (n : Nib) (k : Nat) (z : Int) : Option Nib := match k with
  | 1 => some { n with turn := z }
  | 2 => some { n with rest := z }
  | _ => none
def nibGet (i k : Nat) : EF := fun S => match S.lo[i]? with
  | some (.sh .nib) => match S.nb.get k with
    | some t => .ok (.sh t) S
    | none => .stuck
  | _ => .stuck
def nibSet (i k : Nat) (f : OF) : SF := fun S => (f S).bind fun o S1 => match o, S1.lo[i]? with
  | .val (.int z), some (.sh .nib) => match S1.nb.set k z with
    | some n => .ok .nx { S1 with nb := n }
    | none => .stuck
  | _, _ => .stuck
section
variable {X : Cx} {c : Cfg}
theorem AbsX.setNib {F H : Hp} {S : Sta} {σ τ : List (Option V)} {n : Nib} {p : Addr} (A : AbsX c F S σ τ H) (h : F p = some (.lst (n.cells.map V.int))) {x9 y9 : V} (hp9 : H c.g.nb = some (.lst [.ref p, x9, y9])) : AbsX c F { S with nb := n } σ τ (upd H c.g.nb (.lst [.ref p, .int n.turn, .int n.rest])) := by
  refine ⟨⟨fun b w q => ?_, A.a.fn, ⟨p, upd_same, h⟩, fun b w q n0 ne => ?_, A.a.fre, ?_, A.a.len, fun i s o h1 h2 => ?_, A.a.ds⟩, A.l⟩
  · rw [upd_ne (show b ≠ c.g.nb from fun z => by subst z; rw [A.a.fn] at q; cases q)]; exact A.a.fh b w q
  · rw [upd_ne ne]; exact A.a.keep b w q n0 ne
  · obtain ⟨c0, n1, _⟩ := A.a.nib
    exact ⟨A.a.ext.bs, A.a.ext.nt, tabs_chg A.a.ext.tabs n1 (fun ps z => nomatch z) (fun cc q z => by unfold LamX.CodeO at z; cases z), fun c0 x0 y0 h0 => by
      obtain ⟨x1, y1, h1⟩ := A.a.ext.cel c0 x0 y0 h0
      rw [hp9] at h1
      cases h1
      exact ⟨_, _, upd_same⟩⟩
  · have hh := A.a.sl i s o h1 h2
    cases s with
    | no => trivial
    | fu => exact hh
    | sh t => exact hh
    | ow t =>
      obtain ⟨a, e, ⟨u, hu, mk⟩, f, h0, nn⟩ := hh
      exact ⟨a, e, ⟨u, by rw [upd_ne nn]; exact hu, mk⟩, f, h0, nn⟩
theorem AbsX.nibAt {F H : Hp} {S : Sta} {σ τ : List (Option V)} {i : Nat} (A : AbsX c F S σ τ H) (e : S.lo[i]? = some (.sh .nib)) : σ[i]? = some (some (.ref c.g.nb)) ∧ ∃ p, H c.g.nb = some (.lst [.ref p, .int S.nb.turn, .int S.nb.rest]) ∧ F p = some (.lst (S.nb.cells.map V.int)) := by
  obtain ⟨o, h1, v, h2, r⟩ := A.slot e
  subst h2
  cases r
  exact ⟨h1, A.a.nib⟩
theorem de_nib {i k : Nat} {x : Str} {j : Nat} {p1 p2 pos : Pos} (h : PE X (.Name x p1) (tVar i)) (hk : k < 3 := by decide) : PE X (.Subscript (.Name x p1) (.Constant (.int (k : Int)) j p2) pos) (rdE c (nibGet i k)) := by
  refine PE.imp (pe_ix ix_seq h pe_int (fun _ _ => rfl)) fun σ H Q q => ?_
  obtain ⟨τ, F, S, A, q⟩ := q
  unfold nibGet at q
  split at q
  · rename_i e
    obtain ⟨h1, p, h2, h3⟩ := A.nibAt e
    split at q
    · rename_i t e2
      have q' : ∀ v, AbsX c F (S.push (.sh t)) σ (τ ++ [some v]) H → Q v H := q H F (Same.refl F)
      match k, e2 with
      | 0, e2 => cases e2; exact ⟨_, h1, .inl ⟨_, _, _, .ref p, rfl, rfl, .inl (.inl h2), rfl, q' _ (A.pushSh (.lst h3 (RepAll.of_ints _)))⟩⟩
      | 1, e2 => cases e2; exact ⟨_, h1, .inl ⟨_, _, _, .int S.nb.turn, rfl, rfl, .inl (.inl h2), rfl, q' _ (A.pushSh (.int _))⟩⟩
      | 2, e2 => cases e2; exact ⟨_, h1, .inl ⟨_, _, _, .int S.nb.rest, rfl, rfl, .inl (.inl h2), rfl, q' _ (A.pushSh (.int _))⟩⟩
    · exact q.elim
  · exact q.elim
theorem ds_nib {i k : Nat} {x : Str} {j : Nat} {b : Expr} {fv : OF} {p1 p2 pos pos' : Pos} (ho : PE X (.Name x p1) (tVar i)) (hv : PE X b (rdO c fv))
    (ha : ∀ v, assign (.Subscript (.Name x p1) (.Constant (.int (k : Int)) j p2) pos) X.env v = (do
      let ov ← holding [v] (eval (.Name x p1) X.env)
      let iv ← holding [v, ov] (eval (.Constant (.int (k : Int)) j p2) X.env)
      standAt pos
      holding [v, ov, iv] (setItem ov iv v)
      release [v, ov, iv] []) := by intro _; rfl)
    (hs : swapsWithSole [.Subscript (.Name x p1) (.Constant (.int (k : Int)) j p2) pos] b pos'.line X.env = pure false := by rfl) (hw : swappedStores [.Subscript (.Name x p1) (.Constant (.int (k : Int)) j p2) pos] b X.env = pure none := by rfl)
    (h1 : (assignEach [.Subscript (.Name x p1) (.Constant (.int (k : Int)) j p2) pos] X.env).map (·.2) = [assign (.Subscript (.Name x p1) (.Constant (.int (k : Int)) j p2) pos) X.env] := by rfl) :
    PS X (.Assign [.Subscript (.Name x p1) (.Constant (.int (k : Int)) j p2) pos] b pos') (rdS c (nibSet i k fv)) := by
  refine ps_imp (ps_asg hv (pg_sub ho pe_int set_list ha) hs hw h1) fun D σ H q => ?_
  obtain ⟨F, S, A, q⟩ := q
  refine ⟨[], F, S, A, sOut.bind q fun o S1 F1 H1 s1 q1 v A1 r1 => ?_⟩
  split at q1
  · rename_i z e
    split at q1
    · rename_i n e2
      obtain ⟨g1, p, h2, h3⟩ := A1.nibAt e
      cases r1
      have fin : ∀ n : Nib, n.cells = S1.nb.cells → AbsX c F1 { S1 with nb := n } σ [] (upd H1 c.g.nb (.lst [.ref p, .int n.turn, .int n.rest])) := fun n e => A1.setNib (by rw [e]; exact h3) h2
      match k, e2 with
      | 1, e2 => cases e2; exact ⟨_, g1, _, _, _, 1, rfl, rfl, h2, rfl, q1 _ F1 (Same.refl F1) σ (fin { S1.nb with turn := z } rfl)⟩
      | 2, e2 => cases e2; exact ⟨_, g1, _, _, _, 2, rfl, rfl, h2, rfl, q1 _ F1 (Same.refl F1) σ (fin { S1.nb with rest := z } rfl)⟩
    · exact q1.elim
  · exact q1.elim
end

/-! ### defs -/
inductive FR where
  | ok (x : Slot) (n : Nib) | exc (e : Ex) (n : Nib) | stuck
abbrev Fn := List T → Nib → FR
structure Post (g : Ga) (F H F' H' : Hp) (n : Nib) : Prop where
  sF : Same F F'
  fh : Same F' H'
  fn : F' g.nb = none
  nib : NibRel g F' H' n
  keep : ∀ a o, H a = some o → NT o → a ≠ g.nb → H' a = some o
  tabs : LamX.Tabs g.tb H'
  fre : ∀ a o, H a = some o → NT o → F a = none → F' a = none
  nt : ∀ a o, F' a = some o → NT o
  cel : CelS g H H'
def spOut (g : Ga) (F H : Hp) (Q : VK) (E : XK) : FR → Prop
  | .ok x n => x ≠ .fu → ∀ v F' H', Post g F H F' H' n → SlotRel g F' H' ⟨H, F, .non⟩ x (some v) → Q v H'
  | .exc e n => ∀ cls d F' H', Post g F H F' H' n → ExRel g H F' H' e cls d → E cls d H'
  | .stuck => False
def spT (g : Ga) (np : Nat) (f : Fn) : Sp := fun vs H Q E => ∃ F ts n, ts.length = np ∧ RepAll g F vs ts ∧ Same F H ∧ F g.nb = none ∧ NibRel g F H n ∧ LamX.Tabs g.tb H ∧ (∀ a o, F a = some o → NT o) ∧ spOut g F H Q E (f ts n)
def sta0 (n : Nat) (ts : List T) (nb : Nib) : Sta := ⟨ts.map Slot.sh ++ List.replicate (n - ts.length) .no, [], nb⟩
def fnEnd : R TL.Flow → FR
  | .ok (.rt .fu) _ => .stuck
  | .ok (.rt x) S => .ok x S.nb
  | .ok .nx S => .ok (.sh .non) S.nb
  | .exc e S => .exc e S.nb
  | _ => .stuck
def fnOf (n : Nat) (b : SF) : Fn := fun ts nb => fnEnd (b (sta0 n ts nb))
def callF (np : Nat) (f : Fn) (a : AF) : EF := fun S => (a S).bind fun os S1 => match vals os with
  | some ts => if ts.length = np then match f ts S1.nb with
    | .ok x n => .ok x { S1 with nb := n }
    | .exc e n => .exc e { S1 with nb := n }
    | .stuck => .stuck
    else .stuck
  | none => .stuck
theorem sta0_abs {g : Ga} {F H : Hp} {E : XK} {N : List Str} {vs : List V} {ts : List T} {n : Nib} (r : RepAll g F vs ts) (s : Same F H) (fn : F g.nb = none) (nb : NibRel g F H n) (tb : LamX.Tabs g.tb H) (nt : ∀ a o, F a = some o → NT o) : AbsX ⟨g, ⟨H, F, .non⟩, fun _ => E⟩ F (sta0 N.length ts n) (start N vs) [] H := by
  have l := r.length
  have le : (sta0 N.length ts n).lo.length = (start N vs).length := by
    show (ts.map Slot.sh ++ _).length = (vs.map some ++ _).length
    simp [l]
  refine ⟨⟨s, fn, nb, fun _ _ h _ _ => h, fun _ _ _ _ h => h, ⟨Same.refl F, nt, tb, CelS.refl H⟩, by show (_ ++ []).length = (_ ++ []).length; simpa using le, fun i x o h1 h2 => ?_, fun i j t u a h1 _ _ _ => ?_⟩, le⟩
  · have h1 : ((ts.map Slot.sh ++ List.replicate (N.length - ts.length) .no) ++ [])[i]? = some x := h1
    have h2 : ((vs.map some ++ List.replicate (N.length - vs.length) none) ++ [])[i]? = some o := h2
    rw [List.append_nil] at h1 h2
    by_cases hi : i < ts.length
    · rw [List.getElem?_append_left (by simpa using hi), List.getElem?_map] at h1
      rw [List.getElem?_append_left (by simpa [l] using hi), List.getElem?_map] at h2
      rw [List.getElem?_eq_getElem hi] at h1
      cases h1
      obtain ⟨v, e1, e2⟩ := r.get (List.getElem?_eq_getElem hi)
      rw [e1] at h2
      cases h2
      exact ⟨v, rfl, e2⟩
    · rw [List.getElem?_append_right (by simp; omega)] at h1
      have := List.mem_of_getElem? h1
      rw [List.mem_replicate] at this
      rw [this.2]
      trivial
  · have h1 : ((ts.map Slot.sh ++ List.replicate (N.length - ts.length) .no) ++ [])[i]? = some (.ow t) := h1
    rw [List.append_nil] at h1
    by_cases hi : i < ts.length
    · rw [List.getElem?_append_left (by simpa using hi), List.getElem?_map, List.getElem?_eq_getElem hi] at h1
      cases h1
    · rw [List.getElem?_append_right (by simp; omega)] at h1
      have := List.mem_of_getElem? h1
      rw [List.mem_replicate] at this
      cases this.2
theorem AbsX.post {g : Ga} {F F' H H' : Hp} {E : List (Option V) → XK} {S : Sta} {σ τ : List (Option V)} {fv : V} (A : AbsX ⟨g, ⟨H, F, fv⟩, E⟩ F' S σ τ H') : Post g F H F' H' S.nb :=
  ⟨A.a.ext.bs, A.a.fh, A.a.fn, A.a.nib, A.a.keep, A.a.ext.tabs, A.a.fre, A.a.ext.nt, A.a.ext.cel⟩
section
variable {P : Program} {w : World} {K : PySem.W.Frag} {mg : Str → Option Value} {base : Heap}
/-- a def by its body's reading -/
theorem fn_ok {g : Ga} {x qual : Str} {st : Stmt} {f : Addr} {fd : FuncData} {N ps : List Str} {k : Nat} {b : SF} (Fu : Fun K x qual st f fd) (S : FnScope N ps (defScope st))
    (hb : ∀ (cdv : Value) (A : Around) (outer : List Env) (s : Shared) (H F0 : Hp) (E : XK), Room k (A.deeper (envOfC qual (defScope st) s.heap.objs.size f cdv)) →
      PSs (cxOf (L2.CX P w) P w K mg base N qual (defScope st) f cdv A outer s H E) (defBody st) (rdS ⟨g, ⟨H, F0, .non⟩, fun _ => E⟩ b)) : FnOk P w K mg base (L2.CX P w) (k + 1) f fd ps (spT g ps.length (fnOf N.length b)) := by
  refine Fu.okX S (fun vs H Q E h => ?_) (fun cdv A outer s H vs Q E hr h => ?_)
  · obtain ⟨F, ts, n, hl, r, _⟩ := h
    rw [r.length, hl]
  · obtain ⟨F, ts, n, hl, r, s1, fn, nb, tb, nt, q⟩ := h
    refine ⟨_, hb cdv A outer s H F E hr, F, sta0 N.length ts n, sta0_abs r s1 fn nb tb nt, ?_⟩
    unfold fnOf at q
    cases e : b (sta0 N.length ts n) with
    | ok fl S1 =>
      rw [e] at q
      intro H' F' s2
      cases fl with
      | nx => exact fun σ' A' => q (fun z => nomatch z) .non F' H' A'.post ⟨.non, rfl, .non⟩
      | rt x =>
        refine fun v σ' A' => ?_
        have A2 : AbsX ⟨g, ⟨H, F, .non⟩, fun _ => E⟩ F' (S1.push x) σ' ([] ++ [some v]) H' := A'
        cases x with
        | fu => exact q.elim
        | no => exact q (fun z => nomatch z) v F' H' A2.pop.post A2.as.top
        | sh t => exact q (fun z => nomatch z) v F' H' A2.pop.post A2.as.top
        | ow t => exact q (fun z => nomatch z) v F' H' A2.pop.post A2.as.top
      | bk => exact q.elim
      | ct => exact q.elim
    | exc ex S1 =>
      rw [e] at q
      exact fun cls d σ' H' F' s2 A' er => q cls d F' H' A'.post er
    | stuck => rw [e] at q; exact q.elim
end
section
variable {X : Cx} {c : Cfg}
theorem Post.abs {F H F' H' : Hp} {n : Nib} {S : Sta} {σ τ : List (Option V)} (A : AbsX c F S σ τ H) (p : Post c.g F H F' H' n) : AbsX c F' { S with nb := n } σ τ H' := by
  refine ⟨⟨p.fh, p.fn, p.nib, fun a o h n0 ne => p.keep a o (A.a.keep a o h n0 ne) n0 ne, fun a o h n0 h2 => ?_, ⟨A.a.ext.bs.trans p.sF, p.nt, p.tabs, A.a.ext.cel.trans p.cel⟩, A.a.len, fun i s o h1 h2 => ?_, A.a.ds⟩, A.l⟩
  · by_cases ne : a = c.g.nb
    · subst ne; exact p.fn
    · exact p.fre a o (A.a.keep a o h n0 ne) n0 (A.a.fre a o h n0 h2)
  · have hh := A.a.sl i s o h1 h2
    cases s with
    | no => trivial
    | fu => exact hh
    | sh t => obtain ⟨v, e, r⟩ := hh; exact ⟨v, e, r.mono p.sF⟩
    | ow t =>
      obtain ⟨a, e, ⟨u, hu, mk⟩, f, h0, nn⟩ := hh
      exact ⟨a, e, ⟨u, p.keep a u hu mk.noT nn, mk.mono p.sF⟩, p.fre a u hu mk.noT f, h0, nn⟩
theorem Post.res {F H F' H' : Hp} {n : Nib} {S : Sta} {σ τ : List (Option V)} {x : Slot} {v : V} (A : AbsX c F S σ τ H) (p : Post c.g F H F' H' n) (hx : x ≠ .fu) (r : SlotRel c.g F' H' ⟨H, F, .non⟩ x (some v)) : AbsX c F' (Sta.push { S with nb := n } x) σ (τ ++ [some v]) H' := by
  have A1 := p.abs A
  cases x with
  | no => exact .mk' (A1.a.pushNo _) A1.l
  | fu => exact absurd rfl hx
  | sh t => obtain ⟨w, e, r⟩ := r; cases e; exact A1.pushSh r
  | ow t =>
    obtain ⟨a, e, ⟨u, hu, mk⟩, f, h0, nn⟩ := r
    cases e
    have hz : ∀ (i : Nat) (t' : T), S.z.sl[i]? = some (.ow t') → (σ ++ τ)[i]? = some (some (.ref a)) → False := fun i t' h1 h2 => by
      obtain ⟨a', e', ⟨u', hu', mk'⟩, _⟩ := A.a.sl i _ _ h1 h2
      cases e'
      obtain ⟨ps, e⟩ := (show Fr0 H a from h0) _ hu'
      exact mk'.noT ps e
    refine .mk' ⟨A1.a.fh, A1.a.fn, A1.a.nib, A1.a.keep, A1.a.fre, A1.a.ext, by have := A1.a.len; simp only [PS0.push, List.length_append, this, List.length_singleton], fun i s o h1 h2 => ?_, fun i j t1 t2 b h1 h2 h3 h4 => ?_⟩ A1.l
    · rcases getE_snoc h1 with ⟨l1, e1⟩ | ⟨l1, e1⟩
      · rw [getE_snoc_lt (A1.a.len ▸ l1)] at h2
        exact A1.a.sl i s o e1 h2
      · subst e1
        subst l1
        rw [A1.a.len, getE_snoc_last] at h2
        cases h2
        exact ⟨a, rfl, ⟨u, hu, mk⟩, f, A.a.fr0 h0, nn⟩
    · rcases getE_snoc h1 with ⟨l1, e1⟩ | ⟨l1, e1⟩
      · rcases getE_snoc h2 with ⟨l2, e2⟩ | ⟨l2, e2⟩
        · rw [getE_snoc_lt (A1.a.len ▸ l1)] at h3
          rw [getE_snoc_lt (A1.a.len ▸ l2)] at h4
          exact A1.a.ds i j t1 t2 b e1 e2 h3 h4
        · subst l2
          rw [A1.a.len, getE_snoc_last] at h4
          cases h4
          rw [getE_snoc_lt (A1.a.len ▸ l1)] at h3
          exact (hz i _ e1 h3).elim
      · subst l1
        rw [A1.a.len, getE_snoc_last] at h3
        cases h3
        rcases getE_snoc h2 with ⟨l2, e2⟩ | ⟨l2, e2⟩
        · rw [getE_snoc_lt (A1.a.len ▸ l2)] at h4
          exact (hz j _ e2 h4).elim
        · exact l2.symm
theorem ExRel.up {F F' H H' : Hp} {S : Sta} {σ τ : List (Option V)} {e : Ex} {cls : Value} {d : Option Addr} (r : ExRel c.g H F' H' e cls d) (A : AbsX c F S σ τ H) : ExRel c.g c.B.H F' H' e cls d := by
  obtain ⟨h1, a, fs, h2, h3, h4⟩ := r
  exact ⟨h1, a, fs, h2, A.a.fr0 h3, h4⟩
theorem callOut {np : Nat} {fn : Fn} {fa : AF} {σ : L2.St} {H : Hp} {Q : VK} (q : rdE c (callF np fn fa) σ H Q) : tCallS (spT c.g np fn) c.E (rdA c fa) σ H Q := by
  obtain ⟨τ, F, S, A, q⟩ := q
  refine ⟨τ, F, S, A, rOut.bind q fun os S1 F1 H1 s1 q1 vs A1 r1 => ?_⟩
  split at q1
  · rename_i ts e1
    split at q1
    · rename_i hl
      refine ⟨F1, ts, S1.nb, hl, r1.vals e1, A1.a.fh, A1.a.fn, A1.a.nib, A1.a.ext.tabs, A1.a.ext.nt, ?_⟩
      cases e2 : fn ts S1.nb with
      | ok x n =>
        rw [e2] at q1
        exact fun nf v F' H' p r => q1 H' F' p.sF v (p.res A1 nf r)
      | exc e n =>
        rw [e2] at q1
        exact fun cls d F' H' p r => q1 cls d H' F' p.sF (p.abs A1) (r.up A1)
      | stuck => rw [e2] at q1; exact q1.elim
    · exact q1.elim
  · exact q1.elim
variable {k : Nat} {f : Addr} {fd : FuncData} {ps : List Str} {fn : Fn} {x : Str} {p pos : Pos} {e : Expr} {es : List Expr}
theorem de_call {fa : AF} (F : FnOk X.prog X.w X.K X.mg X.base (L2.CX X.prog X.w) k f fd ps (spT c.g ps.length fn)) (hr : Room k X.A) (hg : Gl X x) (hm : X.mg x = some (.ref f)) (hk : PySem.W.keepIn X.K (.ref f) = true) (hb : Binds X.K fd ps []) (hx : ∀ σ, PassesAt (L2.CX X.prog X.w) X σ (c.E σ))
    (ha : PA X (e :: es) (rdA c fa)) (hdb : (x == ("__debug__" : Str)) = false := by decide) (he : starEach (e :: es) X.env = (false, eval e X.env) :: starEach es X.env := by rfl) (hpl : (backTo pos (starEach es X.env)).any (·.1) = false := by rfl) :
    PE X (.Call (.Name x p) (e :: es) [] pos) (rdE c (callF ps.length fn fa)) :=
  PE.imp (pe_callS F hr hg hm hk hb hx ha hdb he hpl) fun _ _ _ q => callOut q
end
theorem passS {X : Cx} {CX : CXT} {E : XK} (h : Passes CX X E) (σ : L2.St) : PassesAt CX X σ E := fun pins H s e s' I c => h pins σ H s e s' I c
/-- callees' exceptions in a def's own body, in a block within it -/
theorem pass_own {X : Cx} {E : XK} (hs : X.stack = X.env :: X.outer) (hf : X.env.frame = some X.env.locals) (hex : X.ex = []) {E₁ : Value → Shared → Prop}
    (hx : X.xe = fun e s' => wpAny (model X.prog X.w) X.A (leaving X.env e) (fun _ s'' => L2.CX X.prog X.w X.outer X.H_0 X.s_0 E e s'') E₁ s') : Passes (L2.CX X.prog X.w) X E := passes_call (takes_of hs hf hex hx) fun _ _ _ _ h => h
end TL

end
section
set_option Elab.async false
set_option linter.all false
set_option maxRecDepth 100000
set_option autoImplicit false
/-! TL10: calls with keywords; the law's head -/
open PySem PySem.Spec PyProof.Rows L2
namespace TL
/-- the keywords' values in the parameters' order -/
def prm {α : Type} (pm : List Nat) (l : List α) : List α := pm.filterMap fun i => l[i]?
theorem prm_length {α : Type} {l : List α} : ∀ {pm : List Nat}, (∀ i ∈ pm, i < l.length) → (prm pm l).length = pm.length
  | [], _ => rfl
  | i :: pm, h => by
    unfold prm
    rw [List.filterMap_cons, List.getElem?_eq_getElem (h i List.mem_cons_self)]
    show (_ :: _).length = _
    rw [List.length_cons, List.length_cons]
    exact congrArg (· + 1) (prm_length fun j hj => h j (List.mem_cons_of_mem _ hj))
theorem RepAll.prm {g : Ga} {F : Hp} {vs : List V} {ts : List T} (r : RepAll g F vs ts) : ∀ pm : List Nat, RepAll g F (TL.prm pm vs) (TL.prm pm ts)
  | [] => .nil
  | i :: pm => by
    unfold TL.prm
    rw [List.filterMap_cons, List.filterMap_cons]
    cases e : ts[i]? with
    | none =>
      have : vs[i]? = none := by rw [List.getElem?_eq_none_iff] at e ⊢; rw [r.length]; exact e
      rw [this]
      exact RepAll.prm r pm
    | some t =>
      obtain ⟨v, h1, h2⟩ := r.get e
      rw [h1]
      exact .cons h2 (RepAll.prm r pm)
theorem vals_prm {vs : List V} {us : List Value} (r : Vals vs us) : ∀ pm : List Nat, Vals (prm pm vs) (prm pm us)
  | [] => .nil
  | i :: pm => by
    unfold prm
    rw [List.filterMap_cons, List.filterMap_cons]
    cases e : vs[i]? with
    | none =>
      have : us[i]? = none := by rw [List.getElem?_eq_none_iff] at e ⊢; rw [← r.length]; exact e
      rw [this]
      exact vals_prm r pm
    | some t =>
      obtain ⟨v, h1, h2⟩ := r.get e
      rw [h1]
      exact .cons h2 (vals_prm r pm)
structure PmOk (pm : List Nat) (n : Nat) : Prop where
  len : pm.length = n
  lt : ∀ i ∈ pm, i < n
def BindsK (fd : FuncData) (ps ks : List Str) (pm : List Nat) : Prop := ∀ (s : Shared) (us ws : List Value), us.length + ws.length = ps.length → ws.length = ks.length → BindsTo s fd ⟨us, ks.zip ws⟩ (ps.zip (us ++ prm pm ws))
theorem bindsK {K : PySem.W.Frag} {x qual : Str} {st : Stmt} {f : Addr} {fd : FuncData} {ps ks : List Str} {pm : List Nat} (F : Fun K x qual st f fd)
    (h : ∀ (kV doc pm' : Value) (an : Option Addr) (cdv ct : Value) (us ws : List Value), us.length + ws.length = ps.length → ws.length = ks.length → bindArgs (PySem.W.fnOf x qual (defArgs st) (defBody st) (defScope st) .none kV doc pm' an cdv ct) ⟨us, ks.zip ws⟩ = pure (ps.zip (us ++ prm pm ws))) : BindsK fd ps ks pm := by
  obtain ⟨oc, od, kV, doc, pm', an, cdv, ct, osl, rfl, lk, hcd⟩ := F.ex
  exact fun s us ws h1 h2 => .of_eq (h kV doc pm' an cdv ct us ws h1 h2)
def appA (a b : AF) : AF := fun S => (a S).bind fun os S1 => (b S1).bind fun os' S2 => .ok (os ++ os') S2
section
variable {X : Cx} {c : Cfg} {k : Nat} {f : Addr} {fd : FuncData} {ps ks : List Str} {fn : Fn} {x : Str} {p pos kpos : Pos} {e : Expr} {es : List Expr} {kws : List Keyword} {nm : Option Str} {pm : List Nat}
theorem PK.imp {e : List Keyword} {t t' : TA} (h : PK X e t) (w : ∀ σ H Q, t' σ H Q → t σ H Q) : PK X e t' := ⟨fun p pins s σ H Q I q => h.run p pins s σ H Q I (w σ H Q q)⟩
theorem dk_nil : PK X [] (rdA c nilA) := by
  refine PK.imp pk_nil fun σ H Q q => ?_
  obtain ⟨τ, F, S, A, q⟩ := q
  exact q H F (Same.refl F) [] A .nil
theorem dk_cons {fe : OF} {r : AF} (h : PE X e (rdO c fe)) (hr : PK X kws (rdA c r)) : PK X (⟨nm, e, kpos⟩ :: kws) (rdA c (consA fe r)) := by
  refine PK.imp (pk_cons h hr) fun σ H Q q => ?_
  obtain ⟨τ, F, S, A, q⟩ := q
  refine ⟨τ, F, S, A, rOut.bind q fun o S1 F1 H1 s1 q1 v A1 r1 => ⟨τ, F1, S1, A1, rOut.bind q1 fun os S2 F2 H2 s2 q2 vs A2 r2 => ?_⟩⟩
  exact q2 H2 F2 (Same.refl F2) (v :: vs) A2 (.cons (r1.mono s2) r2)
theorem run_fnk' {pins : List (Addr × Obj)} {σ : L2.St} {H : Hp} {s : Shared} {sp : Sp} {Q : VK} {us ws : List Value} {vs zs : List V} {E : XK} (F : FnOk X.prog X.w X.K X.mg X.base (L2.CX X.prog X.w) k f fd ps sp) (hr : Room k X.A) (hb : BindsK fd ps ks pm) (hx : PassesAt (L2.CX X.prog X.w) X σ E) (hl : zs.length = ks.length)
    (hpm : PmOk pm ks.length) (I : Inv X pins σ H s) (r : Vals vs us) (rz : Vals zs ws) (h : sp (vs ++ prm pm zs) H Q E) : wpAny (model X.prog X.w) X.A (call (.ref f) us (ks.zip ws)) (EP X pins σ Q) X.xe s := by
  have r2 := r.append (vals_prm rz pm)
  have hl2 : (vs ++ prm pm zs).length = ps.length := F.len _ _ _ _ h
  have l1 := r.length
  have l2 := rz.length
  have l3 : (prm pm zs).length = pm.length := prm_length fun i hi => by rw [hl]; exact hpm.lt i hi
  have l4 := hpm.len
  rw [List.length_append] at hl2
  refine wpAny_call (codeAny_mono (F.run X.A X.stack s H ⟨us, ks.zip ws⟩ (us ++ prm pm ws) (vs ++ prm pm zs) Q E hr I.env0 (hb s us ws (by omega) (by omega)) r2 h) fun r s' hq => ?_)
  cases r with
  | error e => exact hx pins H s e s' I hq
  | ok fl =>
    cases fl with
    | ret u => exact I.after hq
    | next => exact False.elim hq
    | brk => exact False.elim hq
    | cont => exact False.elim hq
def tCallKW (sp : Sp) (n : Nat) (pm : List Nat) (E : L2.St → XK) (t tk : TA) : TE := fun σ H Q => t σ H fun vs H1 => tk σ H1 fun zs H2 => zs.length = n ∧ sp (vs ++ prm pm zs) H2 Q (E σ)
theorem pe_callKW0 {sp : Sp} {tk : TA} (F : FnOk X.prog X.w X.K X.mg X.base (L2.CX X.prog X.w) k f fd ps sp) (hr : Room k X.A) (hg : Gl X x) (hm : X.mg x = some (.ref f)) (hk : PySem.W.keepIn X.K (.ref f) = true) (hb : BindsK fd ps ks pm) (hpm : PmOk pm ks.length) (hx : ∀ σ, PassesAt (L2.CX X.prog X.w) X σ (c.E σ))
    (hkw : PK X kws tk) (hall : (backToKw pos (keywordEach kws X.env)).all (·.1.isSome) = true := by rfl) (hks : (backToKw pos (keywordEach kws X.env)).filterMap (·.1) = ks := by rfl)
    (hdb : (x == ("__debug__" : Str)) = false := by decide) (hpl : ((backTo pos (starEach [] X.env)).any (·.1) || (backToKw pos (keywordEach kws X.env)).any (·.1.isNone)) = false := by rfl) :
    PE X (.Call (.Name x p) [] kws pos) (tCallKW sp ks.length pm c.E tNil tk) := by
  refine ⟨fun pins s σ H Q I h => ?_⟩
  refine wpAny_Call_Name_kw (ld_glob I hg hm ?_ hdb)
  refine PySem.W.callWith_KW0 (h₀ := X.base) I.ok.mod.kin hk hall (thn (hkw.run pos pins s σ H _ I h) fun ws s2 ⟨zs, H2, I2, rz, q2⟩ => ⟨I2.kIn, ?_⟩) hpl
  rw [hks]
  exact run_fnk' F hr hb (hx σ) q2.1 hpm I2 .nil rz q2.2
theorem pe_callKW {sp : Sp} {t tk : TA} (F : FnOk X.prog X.w X.K X.mg X.base (L2.CX X.prog X.w) k f fd ps sp) (hr : Room k X.A) (hg : Gl X x) (hm : X.mg x = some (.ref f)) (hk : PySem.W.keepIn X.K (.ref f) = true) (hb : BindsK fd ps ks pm) (hpm : PmOk pm ks.length) (hx : ∀ σ, PassesAt (L2.CX X.prog X.w) X σ (c.E σ))
    (ha : PA X (e :: es) t) (hkw : PK X kws tk) (hall : (backToKw pos (keywordEach kws X.env)).all (·.1.isSome) = true := by rfl) (hks : (backToKw pos (keywordEach kws X.env)).filterMap (·.1) = ks := by rfl)
    (hdb : (x == ("__debug__" : Str)) = false := by decide) (he : starEach (e :: es) X.env = (false, eval e X.env) :: starEach es X.env := by rfl)
    (hpl : ((backTo pos (starEach (e :: es) X.env)).any (·.1) || (backToKw pos (keywordEach kws X.env)).any (·.1.isNone)) = false := by rfl) :
    PE X (.Call (.Name x p) (e :: es) kws pos) (tCallKW sp ks.length pm c.E t tk) := by
  refine ⟨fun pins s σ H Q I h => ?_⟩
  refine wpAny_Call_Name_kw (ld_glob I hg hm ?_ hdb)
  refine PySem.W.callWith_KW (h₀ := X.base) I.ok.mod.kin hk hall (thn (ha.run pos pins s σ H _ I h) fun us s1 ⟨vs, H1, I1, r, q⟩ => ?_) hpl he
  refine thn (hkw.run pos pins s1 σ H1 _ I1 q) fun ws s2 ⟨zs, H2, I2, rz, q2⟩ => ⟨I2.kIn, ?_⟩
  rw [hks]
  exact run_fnk' F hr hb (hx σ) q2.1 hpm I2 r rz q2.2
theorem OpdAll.append {g : Ga} {F : Hp} {σ : List (Option V)} : ∀ {os us : List Opd} {vs ws : List V}, OpdAll g F σ os vs → OpdAll g F σ us ws → OpdAll g F σ (os ++ us) (vs ++ ws)
  | _, _, _, _, .nil, q => q
  | _, _, _, _, .cons a b, q => .cons a (OpdAll.append b q)
theorem vals_app : ∀ (os us : List Opd), vals (os ++ us) = (vals os).bind fun a => (vals us).map (a ++ ·)
  | [], us => by cases h : vals us <;> simp [vals, h]
  | .val t :: os, us => by
    show (vals (os ++ us)).map _ = _
    rw [vals_app os us]
    cases h : vals os <;> cases h2 : vals us <;> simp [vals, h, h2]
  | .pl _ :: _, _ => rfl
def callKF (np nk : Nat) (pm : List Nat) (f : Fn) (a b : AF) : EF := fun S => (a S).bind fun os S1 => (b S1).bind fun us S2 => match vals os, vals us with
  | some ts, some zs => if ts.length + zs.length = np ∧ zs.length = nk then match f (ts ++ prm pm zs) S2.nb with
    | .ok x n => .ok x { S2 with nb := n }
    | .exc e n => .exc e { S2 with nb := n }
    | .stuck => .stuck
    else .stuck
  | _, _ => .stuck
theorem callKOut {np nk : Nat} {pm : List Nat} {fn : Fn} {fa fb : AF} (hpm : PmOk pm nk) {σ : L2.St} {H : Hp} {Q : VK} (q : rdE c (callKF np nk pm fn fa fb) σ H Q) : tCallKW (spT c.g np fn) nk pm c.E (rdA c fa) (rdA c fb) σ H Q := by
  obtain ⟨τ, F, S, A, q⟩ := q
  refine ⟨τ, F, S, A, rOut.bind q fun os S0 F0 H0 s0 q0 vs A0 r0 => ⟨τ, F0, S0, A0, rOut.bind q0 fun us S1 F1 H1 s1 q1 zs A1 r1 => ?_⟩⟩
  split at q1
  · rename_i ts us' e1 e2
    split at q1
    · rename_i hl
      have rz := r1.vals e2
      refine ⟨by rw [rz.length]; exact hl.2, F1, ts ++ prm pm us', S1.nb, by rw [List.length_append, prm_length (fun i hi => by rw [hl.2]; exact hpm.lt i hi), hpm.len, ← hl.2]; exact hl.1, ((r0.vals e1).mono s1).append (rz.prm pm), A1.a.fh, A1.a.fn, A1.a.nib, A1.a.ext.tabs, A1.a.ext.nt, ?_⟩
      cases e3 : fn (ts ++ prm pm us') S1.nb with
      | ok x n =>
        rw [e3] at q1
        exact fun nf v F' H' p r => q1 H' F' p.sF v (p.res A1 nf r)
      | exc e n =>
        rw [e3] at q1
        exact fun cls d F' H' p r => q1 cls d H' F' p.sF (p.abs A1) (r.up A1)
      | stuck => rw [e3] at q1; exact q1.elim
    · exact q1.elim
  · exact q1.elim
theorem de_callKW0 {fb : AF} (F : FnOk X.prog X.w X.K X.mg X.base (L2.CX X.prog X.w) k f fd ps (spT c.g ps.length fn)) (hr : Room k X.A) (hg : Gl X x) (hm : X.mg x = some (.ref f)) (hk : PySem.W.keepIn X.K (.ref f) = true) (hb : BindsK fd ps ks pm) (hpm : PmOk pm ks.length) (hx : ∀ σ, PassesAt (L2.CX X.prog X.w) X σ (c.E σ))
    (hkw : PK X kws (rdA c fb)) (hall : (backToKw pos (keywordEach kws X.env)).all (·.1.isSome) = true := by rfl) (hks : (backToKw pos (keywordEach kws X.env)).filterMap (·.1) = ks := by rfl)
    (hdb : (x == ("__debug__" : Str)) = false := by decide) (hpl : ((backTo pos (starEach [] X.env)).any (·.1) || (backToKw pos (keywordEach kws X.env)).any (·.1.isNone)) = false := by rfl) :
    PE X (.Call (.Name x p) [] kws pos) (rdE c (callKF ps.length ks.length pm fn nilA fb)) :=
  PE.imp (pe_callKW0 F hr hg hm hk hb hpm hx hkw hall hks hdb hpl) fun σ H Q q => by
    have q1 := callKOut hpm q
    obtain ⟨τ, F, S, A, q2⟩ := q1
    exact q2 H F (Same.refl F) [] A .nil
theorem de_callKW {fa fb : AF} (F : FnOk X.prog X.w X.K X.mg X.base (L2.CX X.prog X.w) k f fd ps (spT c.g ps.length fn)) (hr : Room k X.A) (hg : Gl X x) (hm : X.mg x = some (.ref f)) (hk : PySem.W.keepIn X.K (.ref f) = true) (hb : BindsK fd ps ks pm) (hpm : PmOk pm ks.length) (hx : ∀ σ, PassesAt (L2.CX X.prog X.w) X σ (c.E σ))
    (ha : PA X (e :: es) (rdA c fa)) (hkw : PK X kws (rdA c fb)) (hall : (backToKw pos (keywordEach kws X.env)).all (·.1.isSome) = true := by rfl) (hks : (backToKw pos (keywordEach kws X.env)).filterMap (·.1) = ks := by rfl)
    (hdb : (x == ("__debug__" : Str)) = false := by decide) (he : starEach (e :: es) X.env = (false, eval e X.env) :: starEach es X.env := by rfl)
    (hpl : ((backTo pos (starEach (e :: es) X.env)).any (·.1) || (backToKw pos (keywordEach kws X.env)).any (·.1.isNone)) = false := by rfl) :
    PE X (.Call (.Name x p) (e :: es) kws pos) (rdE c (callKF ps.length ks.length pm fn fa fb)) :=
  PE.imp (pe_callKW F hr hg hm hk hb hpm hx ha hkw hall hks hdb he hpl) fun _ _ _ q => callKOut hpm q
end

/-! ### the drawing list is made: [[int(c) for c in script[:n]], 0, 0] -/
def spCan (K : PySem.W.Frag) : Sp := fun vs H Q _ => ∃ (a : Addr) (ns : List Int), vs = [.ref a] ∧ SqL K H a (ns.map V.int) ∧ ns.length ≤ 63 ∧
  ∀ H' p q, Same H H' → H p = none → H q = none → p ≠ q → H' p = some (.lst [.ref q, .int 0, .int 0]) → H' q = some (.lst (ns.map V.int)) → Q (.ref p) H'
/-- from there on, whatever the list's place -/
def tNb (c : Addr → Cfg) (f : SF) : TS := fun D σ H => ∃ nb, rdS (c nb) f D σ H
theorem pss_nb {X : Cx} {c : Addr → Cfg} {f : SF} {sts : List Stmt} (h : ∀ nb, PSs X sts (rdS (c nb) f)) : PSs X sts (tNb c f) :=
  ⟨fun pins s σ H D I q => (let ⟨nb, q⟩ := q; (h nb).run pins s σ H D I q)⟩
end TL
namespace TL
theorem bt_len : bootBuiltins "len" = some (.builtin "len") := by decide +kernel
theorem bt_abs : bootBuiltins "abs" = some (.builtin "abs") := by decide +kernel
theorem bt_sum : bootBuiltins "sum" = some (.builtin "sum") := by decide +kernel
theorem bt_all : bootBuiltins "all" = some (.builtin "all") := by decide +kernel
theorem bt_any : bootBuiltins "any" = some (.builtin "any") := by decide +kernel
theorem bt_max : bootBuiltins "max" = some (.builtin "max") := by decide +kernel
theorem bt_min : bootBuiltins "min" = some (.builtin "min") := by decide +kernel
theorem bt_sorted : bootBuiltins "sorted" = some (.builtin "sorted") := by decide +kernel
theorem bt_int : bootBuiltins "int" = some (.type "int") := by decide +kernel
theorem bt_bool : bootBuiltins "bool" = some (.type "bool") := by decide +kernel
theorem bt_str : bootBuiltins "str" = some (.type "str") := by decide +kernel
theorem bt_list : bootBuiltins "list" = some (.type "list") := by decide +kernel
theorem bt_tuple : bootBuiltins "tuple" = some (.type "tuple") := by decide +kernel
theorem bt_dict : bootBuiltins "dict" = some (.type "dict") := by decide +kernel
theorem bt_set : bootBuiltins "set" = some (.type "set") := by decide +kernel
theorem hu65 {k : Nat} {A : Around} (hr : Room k A) : A.units + 65 < cLine := by have := hr.un; omega
theorem hu10 {k : Nat} {A : Around} (hr : Room k A) : A.units + 10 < cLine := by have := hr.un; omega
end TL
namespace TL
theorem cut_take (xs : List V) (m : Nat) : cutV xs none (some (m : Int)) = xs.take m := by
  unfold cutV
  rw [HT.sIx_none, HT.sIx_nat, List.drop_zero, Nat.sub_zero]
  by_cases h : m ≤ xs.length
  · rw [Nat.min_eq_left h]
  · rw [Nat.min_eq_right (by omega), List.take_of_length_le (Nat.le_refl _), List.take_of_length_le (by omega)]
def spCanN (m : Nat) (K : PySem.W.Frag) : Sp := fun vs H Q _ => ∃ (a : Addr) (ns : List Int), vs = [.ref a] ∧ SqL K H a (ns.map V.int) ∧ ns.length ≤ 1000 ∧
  ∀ H' p q, Same H H' → p ≠ q → H' p = some (.lst [.ref q, .int 0, .int 0]) → H' q = some (.lst ((ns.take m).map V.int)) → Q (.ref p) H'
theorem lst_new {H : Hp} {p : Addr} {o : HO} (h : H p = none) : Same H (upd H p o) := fun b x e => by
  rw [upd_ne (ne_of_none e h)]
  exact e
theorem can_lc {K : PySem.W.Frag} {te : TE} {H1 : Hp} {c D : Addr} {Q : Hp → Prop} {ns : List Int} (hl : ns.length ≤ 1000) (hc : H1 c = some (.lst (ns.map V.int))) (hD : H1 D = none) {σ : L2.St}
    (ht : ∀ (σ2 : L2.St) (i : Int) (H : Hp) (Q : VK), σ2[1]? = some (some (.int i)) → Q (.int i) H → te σ2 H Q) (h1 : 1 < σ.length) (q : ∀ H', Same H1 H' → H' D = some (.lst (ns.map V.int)) → Q H') :
    ∃ W : Nat → Nat → Hp → Prop, (∃ m, W 0 m (upd H1 D (.lst []))) ∧ ∀ i m H, W i m H →
  ((Itl K c).stop i H ∧ Q H) ∨ ((Itl K c).go i H ∧ ∃ Nx : Hp → Prop, (∀ H', Nx H' → ∃ m', m' < m ∧ W (i + 1) m' H') ∧ ∀ x H', (Itl K c).yld i H x H' → gName 1 x (wipe σ [1]) H' fun σ2 H2 => wipe σ2 [1] = wipe σ [1] ∧ tYes σ2 H2 fun b H3 =>
    if b = true then te σ2 H3 fun y H4 => ∃ acc, H4 D = some (.lst acc) ∧ acc.length < sizeLine ∧ Nx (upd H4 D (.lst (acc ++ [y]))) else Nx H3) := by
  have ncD : c ≠ D := fun z => by subst z; rw [hc] at hD; cases hD
  refine lc_list (K := K) (a := c) (xs := ns.map V.int) (fun i H => Same H1 H ∧ H D = some (.lst ((ns.take i).map V.int))) ⟨lst_new hD, by rw [upd_same]; rfl⟩ (fun i H _ p => .inl (.inl (p.1 _ _ hc))) (fun i x H hx p => ?_) (fun H p => ?_)
  · have hi : i < ns.length := by have := (List.getElem?_eq_some_iff.mp hx).1; simpa using this
    rw [List.getElem?_map, List.getElem?_eq_getElem hi] at hx
    cases hx
    refine ⟨?_, ?_⟩
    · show ((σ.set 1 none).set 1 _).set 1 none = σ.set 1 none
      rw [List.set_set, List.set_set]
    · show te (List.set (wipe σ [1]) 1 (some (.int ns[i]))) H _
      refine ht _ ns[i] _ _ ?_ ⟨_, p.2, ?_, ?_, ?_⟩
      · show ((σ.set 1 none).set 1 _)[1]? = _
        rw [List.getElem?_set_self (by rw [List.length_set]; exact h1)]
      · rw [List.length_map, List.length_take]
        exact small1000 (by omega)
      · exact fun b x e => by rw [upd_ne (ne_of_none e hD)]; exact p.1 b x e
      · rw [upd_same, List.take_add_one, List.getElem?_eq_getElem hi, List.map_append]; rfl
  · rw [List.length_map, List.take_of_length_le (Nat.le_refl _)] at p
    exact q H p.1 p.2
end TL

namespace TL
def spLaw (K : PySem.W.Frag) (tb : List (Addr × Str)) : Sp := fun vs H Q _ => ∃ (a : Addr) (ns : List Int), vs = [.ref a] ∧ SqL K H a (ns.map V.int) ∧ ns.length ≤ 63 ∧ (∀ z ∈ ns, Builtin.Int.intBits z ≤ 1048576) ∧ LamX.Tabs tb H ∧ ∀ H', Q (.bl true) H'
def cLaw (K : PySem.W.Frag) (ca : Nat → Addr) (tb : List (Addr × Str)) (E : XK) (nb : Addr) : Cfg := ⟨⟨K, nb, ca, tb⟩, ⟨fun _ => none, fun _ => none, .non⟩, fun _ => E⟩
theorem law_read {K : PySem.W.Frag} {ca : Nat → Addr} {tb : List (Addr × Str)} {E : XK} {m n : Nat} {f : SF} {D : Ends} {a : Addr} {H : Hp} {ns : List Int} (hn : n = n - 2 + 2) (hS : SqL K H a (ns.map V.int)) (hl : ns.length ≤ 63) (ht : LamX.Tabs tb H) (q : ∀ H', D.rt (.bl true) H')
    (hf : ∃ S', f ⟨.no :: .sh .nib :: List.replicate (n - 2) .no, [], ⟨ns.take m, 0, 0⟩⟩ = .ok (.rt (.sh (.bl true))) S') {σ : L2.St} (hσ : σ = some (.ref a) :: List.replicate (n - 1) none) :
    tSeq (tAsg (tCall (spCanN m K) [] E (tCons (tVar 0) tNil)) (gName 1)) (tNb (cLaw K ca tb E) f) D σ H := by
  subst hσ
  obtain ⟨S', hf⟩ := hf
  refine ⟨_, rfl, a, ns, rfl, hS, Nat.le_trans hl (by decide), fun H' p q' s npq h1 h2 => ?_⟩
  refine ⟨p, fun b => if b = q' then some (.lst ((ns.take m).map V.int)) else none, ⟨.no :: .sh .nib :: List.replicate (n - 2) .no, [], ⟨ns.take m, 0, 0⟩⟩, ?_, ?_⟩
  · have el : (n - 1) = (n - 2) + 1 := by omega
    rw [el, List.replicate_succ]
    show AbsX _ _ _ (some (.ref a) :: some (.ref p) :: List.replicate (n - 2) none) [] _
    refine ⟨⟨fun b x e => ?_, ?_, ⟨q', h1, ?_⟩, (fun _ _ e => nomatch e), (fun _ _ e => nomatch e), ⟨(fun _ _ e => nomatch e), fun b o e => ?_, ht.ext s, (fun _ _ _ e => nomatch e)⟩, ?_, fun i x o e1 e2 => ?_, fun i j t u b e1 _ _ _ => ?_⟩, ?_⟩
    · have e : (if b = q' then some (HO.lst ((ns.take m).map V.int)) else none) = some x := e
      by_cases hb : b = q'
      · rw [if_pos hb] at e
        rw [hb, h2]
        exact e
      · rw [if_neg hb] at e
        cases e
    · show (if p = q' then _ else none) = none
      rw [if_neg npq]
    · show (if q' = q' then _ else none) = _
      rw [if_pos rfl]
      rfl
    · have e : (if b = q' then some (HO.lst ((ns.take m).map V.int)) else none) = some o := e
      by_cases hb : b = q'
      · rw [if_pos hb] at e
        cases e
        exact fun _ z => nomatch z
      · rw [if_neg hb] at e
        cases e
    · show ((Slot.no :: Slot.sh .nib :: List.replicate (n - 2) Slot.no) ++ []).length = _
      simp
    · have e1 : ((Slot.no :: Slot.sh .nib :: List.replicate (n - 2) Slot.no) ++ [])[i]? = some x := e1
      rw [List.append_nil] at e1 e2
      match i, e1, e2 with
      | 0, e1, e2 => cases e1; trivial
      | 1, e1, e2 => cases e1; cases e2; exact ⟨_, rfl, .nib⟩
      | i + 2, e1, e2 =>
        have e1 : (List.replicate (n - 2) Slot.no)[i]? = some x := e1
        have := List.mem_of_getElem? e1
        rw [List.mem_replicate] at this
        rw [this.2]
        trivial
    · have e1 : ((Slot.no :: Slot.sh .nib :: List.replicate (n - 2) Slot.no) ++ [])[i]? = some (.ow t) := e1
      rw [List.append_nil] at e1
      match i, e1 with
      | 0, e1 => cases e1
      | 1, e1 => cases e1
      | i + 2, e1 =>
        have e1 : (List.replicate (n - 2) Slot.no)[i]? = some (.ow t) := e1
        have := List.mem_of_getElem? e1
        rw [List.mem_replicate] at this
        cases this.2
    · simp
  · rw [hf]
    intro H2 F2 s2 v σ2 A2
    have A3 : AbsX (cLaw K ca tb E p) F2 (S'.push (.sh (.bl true))) σ2 ([] ++ [some v]) H2 := A2
    have r := A3.topSh
    cases r
    exact q H2
end TL

end
section
set_option Elab.async false
set_option linter.all false
set_option maxRecDepth 100000
set_option autoImplicit false
/-! TL14: index, tuples in order, repr of a truth value -/
open PySem PySem.Spec PyProof.Rows L2
namespace TL
def rIdxT (K : PySem.W.Frag) : V → List V → Hp → VK → Prop := fun x xs H Q => ∃ (a : Addr) (ys : List V) (y : V) (j : Nat) (z : V), x = V.ref a ∧ xs = [y] ∧ SqT K H a ys ∧ flatV y = true ∧ ys.all flatV = true ∧ ys[j]? = some z ∧ eqV z y = true ∧
  (∀ (m : Nat) (z' : V), m < j → ys[m]? = some z' → eqV z' y = false) ∧ Q (.int (j : Nat)) H
section
variable {X : Cx}
theorem mt_idxT : MtR X "tuple.index" (rIdxT X.K) := by
  intro pins s σ H x xs v us Q I rx rxs h
  obtain ⟨a, ys, y, j, z, rfl, rfl, hs, fy, fys, hz, hzj, hno, q⟩ := h
  cases rx
  cases rxs with
  | cons ry rt =>
    rename_i uy ut
    cases rt
    obtain ⟨its, rv, pl, hlen⟩ := I.tuple hs
    obtain ⟨⟨cls, dd, data, sl⟩, ho, hc, n, hd⟩ := pl
    simp only at hc hd
    subst hc hd
    obtain ⟨u, hu, ru⟩ := rv.get hz
    obtain ⟨hjl, hje⟩ := List.getElem?_eq_some_iff.mp hu
    have hvl := rv.length
    have hj : j < its.toArray.size := by simpa using hjl
    refine call_meets PySem.F.slot_tuple_index ⟨_, ho, rfl⟩ PySem.F.entry_tuple_index (PySem.F.args_tuple_index_2 _ _)
      (TI.tuple_indexAt a its.toArray n dd sl uy (eqU y) j hj ?_ ?_) ⟨ho, fun u' hu' => mem_eqAt ry fy rv fys u' (by simpa using hu'), ?_⟩
    · have e1 : its.toArray[j] = u := by simpa using hje
      rw [e1, eqU_of ru (flat_at fys hz)]
      exact hzj
    · intro m hm hmj
      have hml : m < its.length := by simpa using hm
      have hmy : m < ys.length := by omega
      have hy' : ys[m]? = some ys[m] := List.getElem?_eq_getElem hmy
      obtain ⟨u2, hu2, ru2⟩ := rv.get hy'
      obtain ⟨_, hme⟩ := List.getElem?_eq_some_iff.mp hu2
      have e1 : its.toArray[m] = u2 := by simpa using hme
      rw [e1, eqU_of ru2 (flat_at fys hy')]
      exact hno m _ hmj hy'
    · exact ⟨.int (j : Nat), H, I.tok _, ⟨_, rfl⟩, q⟩
end
def idxP (ts : List T) (u : T) : Option Slot := if T.okAll 0 ts = true ∧ T.okD 0 u = true then (ts.findIdx? fun y => eqD y u).map fun j => .sh (.int (j : Nat)) else none
def idxF (fa fb : OF) : EF := fun S => (fa S).bind fun o S1 => match o.get S1 with
  | some (.lst _) => (fb S1).bind fun o' S2 => match o.get S2, o'.get S2 with
    | some (.lst ts), some u => res (idxP ts u) S2
    | _, _ => .stuck
  | some (.tup _) => (fb S1).bind fun o' S2 => match o.get S2, o'.get S2 with
    | some (.tup ts), some u => res (idxP ts u) S2
    | _, _ => .stuck
  | _ => .stuck
theorem idxP_at {g : Ga} {F : Hp} {vs : List V} {ts : List T} {w : V} {u : T} {z : Slot} (r : RepAll g F vs ts) (q : Rep g F w u) (h : idxP ts u = some z) : ∃ (j : Nat) (x : V), z = .sh (.int (j : Nat)) ∧ flatV w = true ∧ vs.all flatV = true ∧ vs[j]? = some x ∧ eqV x w = true ∧ ∀ (m : Nat) (z' : V), m < j → vs[m]? = some z' → eqV z' w = false := by
  unfold idxP at h
  split at h
  · rename_i hh
    obtain ⟨j, h1, h2⟩ := Option.map_eq_some_iff.mp h
    obtain ⟨h3, h4, h5⟩ := List.findIdx?_eq_some_iff_getElem.mp h1
    have hv : j < vs.length := by rw [r.length]; exact h3
    have okA : ∀ (ts : List T), T.okTs ts 0 = true → ∀ t ∈ ts, T.okT t 0 = true := by
      intro ts
      induction ts with
      | nil => intro _ t h; cases h
      | cons a l ih =>
        intro h t ht
        rw [T.okTs, Bool.and_eq_true] at h
        rcases List.mem_cons.mp ht with rfl | ht
        · exact h.1
        · exact ih h.2 t ht
    obtain ⟨t', e1, e2⟩ := r.getV (List.getElem?_eq_getElem hv)
    have e3 : t' = ts[j] := by rw [List.getElem?_eq_getElem h3] at e1; exact (Option.some.inj e1).symm
    subst e3
    refine ⟨j, vs[j], h2.symm, flat_of hh.2 q, flats_of hh.1 r, List.getElem?_eq_getElem hv, ?_, fun m z' hm hz' => ?_⟩
    · rw [eqV_d (okA ts hh.1 _ (List.getElem_mem h3)) hh.2 e2 q]; exact h4
    · obtain ⟨t2, f1, f2⟩ := r.getV hz'
      have hm2 : m < ts.length := by omega
      have f3 : t2 = ts[m] := by rw [List.getElem?_eq_getElem hm2] at f1; exact (Option.some.inj f1).symm
      subst f3
      rw [eqV_d (okA ts hh.1 _ (List.getElem_mem hm2)) hh.2 f2 q]
      have := h5 m hm
      simpa using this
  · cases h
theorem PRep.tupD {g : Ga} {F H : Hp} {v : V} {ts : List T} (s : Same F H) (h : PRep g F H v (.tup ts)) : ∃ a vs, v = .ref a ∧ SqD g.K H a vs ∧ RepAll g F vs ts := by
  rcases h with h | ⟨a, u, e, hu, h⟩
  · cases h with
    | tup e r => exact ⟨_, _, rfl, sameSqD s e, r⟩
  · cases h
theorem PE.either {X : Cx} {e : Expr} {t1 t2 t : TE} (h1 : PE X e t1) (h2 : PE X e t2) (w : ∀ σ H Q, t σ H Q → t1 σ H Q ∨ t2 σ H Q) : PE X e t :=
  ⟨fun pins s σ H Q I q => (w σ H Q q).elim (fun q => h1.run pins s σ H Q I q) fun q => h2.run pins s σ H Q I q⟩
theorem de_index {X : Cx} {c : Cfg} {o b : Expr} {fa fb : OF} {apos cpos : Pos} (hK : c.g.K = X.K) (ho : PE X o (rdO c fa)) (hb : PE X b (rdO c fb))
    (hbase : attributeBase o "index" X.env (eval o X.env) = eval o X.env := by rfl)
    (hfew : ((backTo cpos (starEach [b] X.env)).all (fun x => !x.1) && (backToKw cpos (keywordEach [] X.env)).all (fun x => x.1.isSome)
      && decide (([b] : List Expr).length + ([] : List Keyword).length + (if ([] : List Keyword).isEmpty then 0 else 1) < 30)) = true := by rfl)
    (hline : (apos.endLine == cpos.line) = true := by rfl) (hs : starEach [b] X.env = (false, eval b X.env) :: starEach [] X.env := by rfl) (hplain : (backTo cpos (starEach [] X.env)).any (·.1) = false := by rfl) :
    PE X (.Call (.Attribute o "index" apos) [b] [] cpos) (rdE c (idxF fa fb)) := by
  refine PE.either (pe_bm PySem.F.plainAttrs_list PySem.F.slot_list_index PySem.F.type_list_index mt_index ho (pa_cons hb pa_nil hs) hbase hfew hline hs hplain)
    (pe_bmT PySem.F.slot_tuple_index PySem.F.type_tuple_index mt_idxT ho (pa_cons hb pa_nil hs) hbase hfew hline hs hplain) fun σ H Q q => ?_
  obtain ⟨τ, F, S, A, q⟩ := q
  unfold idxF at q
  cases e : fa S with
  | stuck => rw [e] at q; exact q.elim
  | exc ex S1 => rw [e] at q; exact .inl ⟨τ, F, S, A, by rw [e]; exact q⟩
  | ok o S1 =>
    rw [e, R.bind_ok] at q
    split at q
    · rename_i t0 e0
      refine .inl ⟨τ, F, S, A, ?_⟩
      rw [e]
      intro H1 F1 s1 v A1 r1
      obtain ⟨a, vs, rfl, h1, _⟩ := (A1.opd r1 e0).lst A1.a.fh
      refine ⟨.inl ⟨rfl, vs, .inl (.inl h1)⟩, τ, F1, S1, A1, rOut.bind (q.mono s1) fun o' S2 F2 H2 s2 q2 w A2 r2 => ?_⟩
      split at q2
      · rename_i ts u g1 g2
        unfold res at q2
        split at q2
        · rename_i z hz
          obtain ⟨a', vs', e', h3, r3⟩ := (A2.opd (r1.mono s2) g1).lst A2.a.fh
          cases e'
          have ru : Rep c.g F2 w u := (A2.opd r2 g2).rep0 (by
            unfold idxP at hz
            split at hz
            · rename_i hh; exact hh.2
            · cases hz)
          obtain ⟨j, x, rfl, f1, f2, f3, f4, f5⟩ := idxP_at r3 ru hz
          exact ⟨a, vs', w, j, x, rfl, rfl, .inl (.inl h3), f1, f2, f3, f4, f5, q2 H2 F2 (Same.refl F2) _ (A2.pushSh (.int _))⟩
        · exact q2.elim
      · exact q2.elim
    · rename_i t0 e0
      refine .inr ⟨τ, F, S, A, ?_⟩
      rw [e]
      intro H1 F1 s1 v A1 r1
      obtain ⟨a, vs, rfl, h1, _⟩ := (A1.opd r1 e0).tupD A1.a.fh
      refine ⟨⟨a, vs, rfl, hK ▸ h1⟩, τ, F1, S1, A1, rOut.bind (q.mono s1) fun o' S2 F2 H2 s2 q2 w A2 r2 => ?_⟩
      split at q2
      · rename_i ts u g1 g2
        unfold res at q2
        split at q2
        · rename_i z hz
          obtain ⟨a', vs', e', h3, r3⟩ := (A2.opd (r1.mono s2) g1).tup A2.a.fh
          cases e'
          have ru : Rep c.g F2 w u := (A2.opd r2 g2).rep0 (by
            unfold idxP at hz
            split at hz
            · rename_i hh; exact hh.2
            · cases hz)
          obtain ⟨j, x, rfl, f1, f2, f3, f4, f5⟩ := idxP_at r3 ru hz
          exact ⟨a, vs', w, j, x, rfl, rfl, hK ▸ h3, f1, f2, f3, f4, f5, q2 H2 F2 (Same.refl F2) _ (A2.pushSh (.int _))⟩
        · exact q2.elim
      · exact q2.elim
    · exact q.elim
end TL

namespace TL
theorem lexAt_shift (e r : Nat → Bool) (z : Bool) : ∀ (k i : Nat), Ob.lexAt e r z (i + 1) k = Ob.lexAt (fun j => e (j + 1)) (fun j => r (j + 1)) z i k
  | 0, _ => rfl
  | k + 1, i => by rw [Ob.lexAt_succ, Ob.lexAt_succ, lexAt_shift e r z k (i + 1)]
theorem lexAt_gt : ∀ ns ms : List Int, Ob.lexAt (fun j => decide (ns.getD j 0 = ms.getD j 0)) (fun j => decide (ms.getD j 0 < ns.getD j 0)) (decide (ns.length > ms.length)) 0 (min ns.length ms.length) = HT.lexLt ms ns
  | [], [] => rfl
  | [], _ :: _ => by simp [Ob.lexAt_zero, HT.lexLt]
  | _ :: _, [] => by simp [Ob.lexAt_zero, HT.lexLt]
  | n :: ns, m :: ms => by
    have ih := lexAt_gt ns ms
    rw [HT.lexLt_cons, List.length_cons, List.length_cons, show min (ns.length + 1) (ms.length + 1) = min ns.length ms.length + 1 by omega, Ob.lexAt_succ, lexAt_shift]
    have e1 : decide (ns.length + 1 > ms.length + 1) = decide (ns.length > ms.length) := by simp
    rw [e1]
    show (if decide (n = m) = true then Ob.lexAt (fun j => decide (ns.getD j 0 = ms.getD j 0)) (fun j => decide (ms.getD j 0 < ns.getD j 0)) (decide (ns.length > ms.length)) 0 (min ns.length ms.length) else decide (m < n)) = _
    rw [ih]
    by_cases h : n = m
    · subst h; simp
    · have h2 : ¬ m = n := fun z => h z.symm
      simp [h, h2]
def rGtT (K : PySem.W.Frag) : R2 := fun x y H Q => ∃ a b ns ms, x = .ref a ∧ y = .ref b ∧ SqT K H a (ns.map V.int) ∧ SqT K H b (ms.map V.int) ∧ Q (.bl (HT.lexLt ms ns)) H
theorem op_gtT {X : Cx} (hu : X.A.units < cLine) : OpR X (compareOp .Gt) (rGtT X.K) := by
  intro pins s σ H x y v u Q I rx ry h
  obtain ⟨a, b, ns, ms, rfl, rfl, ha, hb, q⟩ := h
  cases rx
  cases ry
  obtain ⟨its, r1, p1, _⟩ := I.tuple ha
  obtain ⟨its2, r2, p2, _⟩ := I.tuple hb
  have i1 : IntsAre its ns := Vals.ints r1
  have i2 : IntsAre its2 ms := Vals.ints r2
  have e1 : its.toArray.size = ns.length := by rw [List.size_toArray]; exact i1.length
  have e2 : its2.toArray.size = ms.length := by rw [List.size_toArray]; exact i2.length
  have at1 : ∀ j (h1 : j < its.toArray.size), ∃ t, its.toArray[j] = .int (ns.getD j 0) t := fun j h1 => PyProof.Rows.IntsAre.int_at i1 _ _ (by simp at h1; simp [h1])
  have at2 : ∀ j (h1 : j < its2.toArray.size), ∃ t, its2.toArray[j] = .int (ms.getD j 0) t := fun j h1 => PyProof.Rows.IntsAre.int_at i2 _ _ (by simp at h1; simp [h1])
  have R := Ob.RcOp.tuples_gt (A := X.A) (s := s) (e := fun j => decide (ns.getD j 0 = ms.getD j 0)) (r := fun j => decide (ms.getD j 0 < ns.getD j 0)) p1 p2 hu (fun j h1 h2 => by
    obtain ⟨t, et⟩ := at1 j h1
    obtain ⟨t', et'⟩ := at2 j h2
    rw [et, et']
    have z : (ns.getD j 0 == ms.getD j 0) = decide (ns.getD j 0 = ms.getD j 0) := by
      by_cases q : ns.getD j 0 = ms.getD j 0
      · rw [decide_eq_true q]; exact beq_iff_eq.mpr q
      · rw [decide_eq_false q]; exact beq_eq_false_iff_ne.mpr q
    rw [← z]
    exact SeqAt.EqAt.int_int _ _ _ _) (fun j h1 h2 _ => by
    obtain ⟨t, et⟩ := at1 j h1
    obtain ⟨t', et'⟩ := at2 j h2
    rw [et, et']
    exact Ob.RcOp.gt_int _ _ _ _)
  rw [e1, e2, lexAt_gt] at R
  exact R X.prog X.w X.xe (EP X pins σ Q) ⟨.bl _, H, I, rfl, q⟩
/-- <, > of integers or of tuples of integers -/
def ordT (f : Int → Int → Bool) (g : List Int → List Int → Bool) : T → T → Option Slot
  | .int i, .int j => some (.sh (.bl (f i j)))
  | .tup ts, .tup us => (intsT ts).bind fun ns => (intsT us).map fun ms => .sh (.bl (g ns ms))
  | _, _ => none
abbrev ltA : T → T → Option Slot := ordT (fun i j => decide (i < j)) HT.lexLt
abbrev gtA : T → T → Option Slot := ordT (fun i j => decide (j < i)) fun ns ms => HT.lexLt ms ns
def rOrd (K : PySem.W.Frag) (f : Int → Int → Bool) (g : List Int → List Int → Bool) : R2 := fun x y H Q => rI0 (fun i j => .bl (f i j)) x y H Q ∨ ∃ a b ns ms, x = .ref a ∧ y = .ref b ∧ SqT K H a (ns.map V.int) ∧ SqT K H b (ms.map V.int) ∧ Q (.bl (g ns ms)) H
theorem op_ltA {X : Cx} (hu : X.A.units < cLine) : OpR X (compareOp .Lt) (rOrd X.K (fun i j => decide (i < j)) HT.lexLt) := .or op_lt (op_ltT hu)
theorem op_gtA {X : Cx} (hu : X.A.units < cLine) : OpR X (compareOp .Gt) (rOrd X.K (fun i j => decide (j < i)) fun ns ms => HT.lexLt ms ns) := .or op_gt (op_gtT hu)
theorem p_ord {X : Cx} {c : Cfg} (hK : c.g.K = X.K) (f : Int → Int → Bool) (g : List Int → List Int → Bool) : Op2 c (rOrd X.K f g) (ordT f g) := by
  intro F S σ τ H x y t u z Q A hx hy hz k
  unfold ordT at hz
  split at hz
  · cases hz
    rw [hx.int, hy.int]
    exact .inl ⟨_, _, rfl, rfl, fin_sh A k (.bl _)⟩
  · obtain ⟨ns, h1, h2⟩ := Option.bind_eq_some_iff.mp hz
    obtain ⟨ms, h3, h4⟩ := Option.map_eq_some_iff.mp h2
    subst h4
    obtain ⟨a, vs, rfl, h5, r5⟩ := hx.tup A.a.fh
    obtain ⟨b, ws, rfl, h6, r6⟩ := hy.tup A.a.fh
    rw [hK] at h5 h6
    rw [intsT_of h1] at r5
    rw [intsT_of h3] at r6
    rw [r5.ints] at h5
    rw [r6.ints] at h6
    exact .inr ⟨a, b, ns, ms, rfl, rfl, h5, h6, fin_sh A k (.bl _)⟩
  · cases hz
/-- repr of a truth value -/
def reprN : List T → Option Slot
  | [.bl b] => some (.sh (.str (if b then "True" else "False")))
  | _ => none
theorem call_reprB {X : Cx} : CallR X (.builtin "repr") (fun xs H Q => ∃ b, xs = [.bl b] ∧ Q (.str (if b then "True" else "False")) H) := by
  intro pins s σ H xs us Q I r h
  obtain ⟨b, rfl, q⟩ := h
  obtain ⟨u, rfl, rfl⟩ := vals1 r
  exact PySem.P.repr_of_bool ⟨.str _, H, I.tok _, ⟨_, rfl⟩, q⟩
theorem p_repr {c : Cfg} : OpN c (fun xs H Q => ∃ b, xs = [.bl b] ∧ Q (.str (if b then "True" else "False")) H) reprN := by
  intro F S σ τ H xs ts z Q A hx hz k
  unfold reprN at hz
  split at hz
  · cases hz
    obtain ⟨v, rfl, h⟩ := hx.one
    rw [h.bl]
    exact ⟨_, rfl, fin_sh A k (.str _)⟩
  · cases hz
theorem bt_repr : bootBuiltins "repr" = some (.builtin "repr") := by decide +kernel
theorem hu0 {k : Nat} {A : Around} (hr : Room k A) : A.units < cLine := hr.units0
end TL
namespace TL
/-- max of a list or tuple of integers -/
def rMaxA (K : PySem.W.Frag) : List V → Hp → VK → Prop := fun vs H Q => ∃ (a : Addr) (n : Int) (ns : List Int), vs = [V.ref a] ∧ (SqL K H a ((n :: ns).map V.int) ∨ SqT K H a ((n :: ns).map V.int)) ∧ Q (.int (PySem.W.maxOf n ns)) H
theorem cr_maxA {X : Cx} (hc : X.calm = true) (hu : X.A.units + 10 < cLine) : CallR X (.builtin "max") (rMaxA X.K) := by
  intro pins s σ H vs us Q I r h
  obtain ⟨a, n, ns, rfl, hs, q⟩ := h
  rw [Vals.ref1 r]
  have fin : ∀ {v : Value} {h' : Heap} {tk : Nat}, PySem.W.Holds h' v (PySem.W.maxOf n ns) → (∀ b o, s.heap.get? b = some o → h'.get? b = some o) → EP X pins σ Q v { s with heap := h', toks := tk } := fun {v h' tk} hh k => by
    refine ⟨_, H, I.kept (t' := tk) k, ?_, q⟩
    obtain ⟨as, hr⟩ := hh
    have hr : Reads h' v (.int (PySem.W.maxOf n ns)) as := hr
    cases hr
    exact ⟨_, rfl⟩
  rcases hs with hs | hs
  · obtain ⟨its, rv, hl, hz⟩ := I.list hs
    have hi := rv.ints
    exact PySem.W.max_list_datum (α := Int) (I.ok.hd hc) hl.isList (by rw [show its.toArray.toList = its by simp]; exact PySem.W.HoldAll.of_ints hi) (by show X.A.units + 1 + 0 < cLine; omega) fun i v h' tk _ hh k => fin hh k
  · obtain ⟨its, rv, hl, hz⟩ := I.tuple hs
    have hi := rv.ints
    exact PySem.W.max_tuple_datum (α := Int) (I.ok.hd hc) hl (by rw [show its.toArray.toList = its by simp]; exact PySem.W.HoldAll.of_ints hi) (by show X.A.units + 1 + 0 < cLine; omega) fun i v h' tk _ hh k => fin hh k
def maxAN : List T → Option Slot
  | [.lst ts] => (intsT ts).bind fun ns => match ns with
    | [] => none
    | x :: xs => some (.sh (.int (maxI x xs)))
  | [.tup ts] => (intsT ts).bind fun ns => match ns with
    | [] => none
    | x :: xs => some (.sh (.int (maxI x xs)))
  | _ => none
theorem p_maxA {X : Cx} {c : Cfg} (hK : c.g.K = X.K) : OpN c (rMaxA X.K) maxAN := by
  intro F S σ τ H xs ts z Q A hx hz k
  unfold maxAN at hz
  split at hz
  · obtain ⟨ns, h1, h2⟩ := Option.bind_eq_some_iff.mp hz
    cases ns with
    | nil => cases h2
    | cons n ns =>
      cases h2
      obtain ⟨v, rfl, h⟩ := hx.one
      obtain ⟨p, vs, rfl, h3, r⟩ := h.lst A.a.fh
      rw [intsT_of h1] at r
      rw [r.ints] at h3
      exact ⟨p, n, ns, rfl, .inl (.inl (.inl h3)), by rw [maxOf_eq]; exact fin_sh A k (.int _)⟩
  · obtain ⟨ns, h1, h2⟩ := Option.bind_eq_some_iff.mp hz
    cases ns with
    | nil => cases h2
    | cons n ns =>
      cases h2
      obtain ⟨v, rfl, h⟩ := hx.one
      obtain ⟨p, vs, rfl, h3, r⟩ := h.tup A.a.fh
      rw [intsT_of h1] at r
      rw [r.ints, hK] at h3
      exact ⟨p, n, ns, rfl, .inr h3, by rw [maxOf_eq]; exact fin_sh A k (.int _)⟩
  · cases hz
end TL

end
section
set_option Elab.async false
set_option linter.all false
set_option maxRecDepth 100000
set_option autoImplicit false
/-! TL11: running the semantic functions -/
open PySem PySem.Spec PyProof.Rows L2
namespace TL
@[simp] theorem R.bind_exc {α β : Type} (e : Ex) (S : Sta) (k : α → Sta → R β) : (R.exc e S).bind k = R.exc e S := rfl
section
variable (S : Sta) (i j k n np nk : Nat) (a b d : OF) (e e' e'' : EF) (t u : TF) (f g : SF) (r r' : AF) (it : IF) (tg : Tg) (p p' : T → T → Option Slot) (q : T → Option Slot) (ql : List T → Option Slot) (fn : Fn) (x y : T) (ts : List T)
@[simp] theorem con_ap : con x S = .ok (.sh x) S := rfl
@[simp] theorem opE_ap : opE e S = (e S).bind fun x S1 => match x.tree with
  | some t => .ok (.val t) S1
  | none => .stuck := rfl
@[simp] theorem nilA_ap : nilA S = .ok [] S := rfl
@[simp] theorem consA_ap : consA a r S = (a S).bind fun o S1 => (r S1).bind fun os S2 => .ok (o :: os) S2 := rfl
@[simp] theorem op2_ap : op2 p a b S = (a S).bind fun o S1 => (b S1).bind fun o' S2 => match o.get S2, o'.get S2 with
  | some t, some u => res (p t u) S2
  | _, _ => .stuck := rfl
@[simp] theorem op1_ap : op1 q a S = (a S).bind fun o S1 => match o.get S1 with
  | some t => res (q t) S1
  | _ => .stuck := rfl
@[simp] theorem opN_ap : opN ql r S = (r S).bind fun os S1 => match gets S1 os with
  | some ts => res (ql ts) S1
  | _ => .stuck := rfl
@[simp] theorem res_some (z : Slot) : res (some z) S = .ok z S := rfl
@[simp] theorem tst_ap : tst e S = (e S).bind fun x S1 => match x with
  | .sh (.bl b) => .ok b S1
  | _ => .stuck := rfl
@[simp] theorem chn_ap : chn p p' a b d S = (a S).bind fun o S1 => (b S1).bind fun o' S2 => match o.get S2, o'.get S2 with
  | some t, some u => match p t u with
    | some (.sh (.bl true)) => (d S2).bind fun o'' S3 => match o'.get S3, o''.get S3 with
      | some u, some w => res (p' u w) S3
      | _, _ => .stuck
    | some (.sh (.bl false)) => .ok (.sh (.bl false)) S2
    | _ => .stuck
  | _, _ => .stuck := rfl
@[simp] theorem andT_ap : andT t u S = (t S).bind fun k S1 => if k = true then u S1 else .ok false S1 := rfl
@[simp] theorem orT_ap : orT t u S = (t S).bind fun k S1 => if k = true then .ok true S1 else u S1 := rfl
@[simp] theorem notT_ap : notT t S = (t S).bind fun k S1 => .ok (!k) S1 := rfl
@[simp] theorem andE_ap : andE e e' S = (e S).bind fun x S1 => match x with
  | .sh (.bl true) => e' S1
  | .sh (.bl false) => .ok (.sh (.bl false)) S1
  | _ => .stuck := rfl
@[simp] theorem orE_ap : orE e e' S = (e S).bind fun x S1 => match x with
  | .sh (.bl false) => e' S1
  | .sh (.bl true) => .ok (.sh (.bl true)) S1
  | _ => .stuck := rfl
@[simp] theorem notE_ap : notE e S = (e S).bind fun x S1 => match x with
  | .sh (.bl k) => .ok (.sh (.bl (!k))) S1
  | _ => .stuck := rfl
@[simp] theorem ite3_ap : ite3 t e e' S = (t S).bind fun k S1 => if k = true then e S1 else e' S1 := rfl
@[simp] theorem lstF_ap : lstF r S = (r S).bind fun os S1 => match vals os with
  | some ts => if ts.length ≤ sz then .ok (.ow (.lst ts)) S1 else .stuck
  | none => .stuck := rfl
@[simp] theorem tupF_ap : tupF r S = (r S).bind fun os S1 => match vals os with
  | some ts => if ts.length ≤ sz then .ok (.sh (.tup ts)) S1 else .stuck
  | none => .stuck := rfl
@[simp] theorem seqF_ap : seqF f g S = (f S).bind fun fl S1 => match fl with
  | .nx => g S1
  | .rt x => .ok (.rt x) S1
  | .bk => .ok .bk S1
  | .ct => .ok .ct S1 := rfl
@[simp] theorem nxF_ap : nxF S = .ok .nx S := rfl
@[simp] theorem retF_ap : retF e S = (e S).bind fun x S1 => .ok (.rt x) S1 := rfl
@[simp] theorem retNF_ap : retNF S = .ok (.rt (.sh .non)) S := rfl
@[simp] theorem dropF_ap : dropF e S = (e S).bind fun _ S1 => .ok .nx S1 := rfl
@[simp] theorem ifF_ap : ifF t f g S = (t S).bind fun k S1 => if k = true then f S1 else g S1 := rfl
@[simp] theorem setF_ap : setF i e S = (e S).bind fun x S1 => if i < S1.lo.length then .ok .nx (S1.put i x) else .stuck := rfl
@[simp] theorem asgF_ap : asgF tg a S = (a S).bind fun o S1 => match o with
  | .val t => match tg.put t S1 with
    | some S2 => .ok .nx S2
    | none => .stuck
  | _ => .stuck := rfl
@[simp] theorem forF_ap : forF it tg f S = (it S).bind fun ts S1 => forL tg f ts S1 := rfl
@[simp] theorem forL_nil : forL tg f [] S = .ok .nx S := rfl
theorem forL_cons : forL tg f (x :: ts) S = match tg.put x S with
    | none => .stuck
    | some S1 => (f S1).bind fun fl S2 => match fl with
      | .nx => forL tg f ts S2
      | .ct => forL tg f ts S2
      | .bk => .ok .nx S2
      | .rt x => .ok (.rt x) S2 := rfl
@[simp] theorem callF_ap : callF np fn r S = (r S).bind fun os S1 => match vals os with
  | some ts => if ts.length = np then match fn ts S1.nb with
    | .ok x n => .ok x { S1 with nb := n }
    | .exc e n => .exc e { S1 with nb := n }
    | .stuck => .stuck
    else .stuck
  | none => .stuck := rfl
@[simp] theorem callKF_ap (pm : List Nat) : callKF np nk pm fn r r' S = (r S).bind fun os S1 => (r' S1).bind fun us S2 => match vals os, vals us with
  | some ts, some zs => if ts.length + zs.length = np ∧ zs.length = nk then match fn (ts ++ prm pm zs) S2.nb with
    | .ok x n => .ok x { S2 with nb := n }
    | .exc e n => .exc e { S2 with nb := n }
    | .stuck => .stuck
    else .stuck
  | _, _ => .stuck := rfl
@[simp] theorem seqI_ap : seqI a S = (a S).bind fun o S1 => match o with
  | .val (.lst ts) => .ok ts S1
  | .val (.tup ts) => .ok ts S1
  | _ => .stuck := rfl
@[simp] theorem enumI_ap : enumI a S = (a S).bind fun o S1 => match o with
  | .val (.lst ts) => .ok (enumT 0 ts) S1
  | .val (.tup ts) => .ok (enumT 0 ts) S1
  | _ => .stuck := rfl
@[simp] theorem rngI1_ap : rngI1 a S = (a S).bind fun o S1 => match o with
  | .val (.int n) => if -(2 ^ 62) ≤ n ∧ n < 2 ^ 62 then .ok (rgT 0 n) S1 else .stuck
  | _ => .stuck := rfl
@[simp] theorem yesT_ap : yesT S = .ok true S := rfl
@[simp] theorem slot_tree_sh : (Slot.sh x).tree = some x := rfl
@[simp] theorem slot_tree_ow : (Slot.ow x).tree = some x := rfl
@[simp] theorem opd_val : (Opd.val x).get S = some x := rfl
@[simp] theorem vals_nil : vals [] = some [] := rfl
@[simp] theorem vals_cons (os : List Opd) : vals (.val x :: os) = (vals os).map (x :: ·) := rfl
@[simp] theorem gets_nil : gets S [] = some [] := rfl
@[simp] theorem gets_cons (o : Opd) (os : List Opd) : gets S (o :: os) = (o.get S).bind fun t => (gets S os).map (t :: ·) := rfl
end
/-! the state as a literal -/
section
variable (l : List Slot) (gh : List Slot) (nb : Nib) (i : Nat) (t : T)
theorem var_sh (h : l[i]? = some (.sh t)) : var i ⟨l, gh, nb⟩ = .ok (.val t) ⟨l, gh, nb⟩ := by unfold var; simp [h]
theorem var_ow (h : l[i]? = some (.ow t)) : var i ⟨l, gh, nb⟩ = .ok (.pl i) ⟨l, gh, nb⟩ := by unfold var; simp [h]
theorem get_ow (h : l[i]? = some (.ow t)) : (Opd.pl i).get ⟨l, gh, nb⟩ = some t := by show (l[i]?).bind Slot.tree = _; rw [h]; rfl
theorem varE_sh (h : l[i]? = some (.sh t)) : varE i ⟨l, gh, nb⟩ = .ok (.sh t) ⟨l, gh, nb⟩ := by unfold varE; simp [h]
theorem varE_ow (h : l[i]? = some (.ow t)) : varE i ⟨l, gh, nb⟩ = .ok (.sh t) ⟨l.set i (.sh t), gh, nb⟩ := by unfold varE; simp [h, Sta.put]
theorem varR_sh (h : l[i]? = some (.sh t)) : varR i ⟨l, gh, nb⟩ = .ok (.sh t) ⟨l, gh, nb⟩ := by unfold varR; simp [h]
theorem varR_ow (h : l[i]? = some (.ow t)) : varR i ⟨l, gh, nb⟩ = .ok (.ow t) ⟨l.set i .no, gh, nb⟩ := by unfold varR; simp [h, Sta.put]
@[simp] theorem put_lit (x : Slot) : (Sta.mk l gh nb).put i x = ⟨l.set i x, gh, nb⟩ := rfl
@[simp] theorem push_lit (x : Slot) : (Sta.mk l gh nb).push x = ⟨l, gh ++ [x], nb⟩ := rfl
@[simp] theorem wipe_lit (own : List Nat) : (Sta.mk l gh nb).wipe own = ⟨noes l own, gh, nb⟩ := rfl
@[simp] theorem noes_nil : noes l [] = l := rfl
@[simp] theorem noes_cons (is : List Nat) : noes l (i :: is) = (noes l is).set i .no := rfl
@[simp] theorem put_nm : (Tg.nm i).put t ⟨l, gh, nb⟩ = if i < l.length then some ⟨l.set i (.sh t), gh, nb⟩ else none := rfl
@[simp] theorem put_tp (is : List Nat) (ts : List T) (S : Sta) : (Tg.tp is).put (.tup ts) S = putAll is ts S := rfl
@[simp] theorem put_tpw (is : List Nat) (ts : List T) (S : Sta) : (Tg.tp is).put (.wtp ts) S = putAll is ts S := rfl
@[simp] theorem put_tpl (is : List Nat) (ts : List T) (S : Sta) : (Tg.tp is).put (.lst ts) S = putAll is ts S := rfl
@[simp] theorem putAll_nil (S : Sta) : putAll [] [] S = some S := rfl
@[simp] theorem putAll_cons (is : List Nat) (ts : List T) : putAll (i :: is) (t :: ts) ⟨l, gh, nb⟩ = if i < l.length then putAll is ts ⟨l.set i (.sh t), gh, nb⟩ else none := rfl
end
/-! comprehensions -/
def compStep (own : List Nat) (tg : Tg) (tt : TF) (te : EF) (t : T) (S : Sta) : R (Option T) := match tg.put t S with
  | none => .stuck
  | some S1 => (tt S1).bind fun b S2 => if b = true then (te S2).bind fun x S3 => match x.tree with
      | none => .stuck
      | some y => .ok (some y) (S3.wipe own)
    else .ok none (S2.wipe own)
theorem compL_step {own : List Nat} {tg : Tg} {tt : TF} {te : EF} {t : T} {ts : List T} {S S' : Sta} {acc : List T} {v : Option T}
    (h : compStep own tg tt te t (S.push (.ow (.lst acc))) = .ok v (S'.push (.ow (.lst acc)))) (hw : S'.wipe own = S') (hl : acc.length < sz) :
    compL own tg tt te (t :: ts) (S.push (.ow (.lst acc))) = compL own tg tt te ts (S'.push (.ow (.lst (acc ++ v.toList)))) := by
  unfold compStep at h
  rw [compL]
  cases e : tg.put t (S.push (.ow (.lst acc))) with
  | none => rw [e] at h; cases h
  | some S1 =>
    rw [e] at h
    dsimp only at h ⊢
    cases e2 : tt S1 with
    | ok b S2 =>
      rw [e2] at h
      rw [R.bind_ok] at h ⊢
      cases b with
      | false =>
        rw [if_neg Bool.false_ne_true] at h ⊢
        injection h with h1 h2
        subst h1
        rw [h2]
        simp
      | true =>
        rw [if_pos rfl] at h ⊢
        cases e3 : te S2 with
        | ok x S3 =>
          rw [e3] at h
          rw [R.bind_ok] at h ⊢
          cases e4 : x.tree with
          | none => rw [e4] at h; cases h
          | some y =>
            rw [e4] at h
            dsimp only at h ⊢
            injection h with h1 h2
            subst h1
            have h3 : S3.gh = S'.gh ++ [.ow (.lst acc)] := congrArg Sta.gh h2
            have h4 : S3.popG = some (.ow (.lst acc), ⟨S3.lo, S'.gh, S3.nb⟩) := by
              unfold Sta.popG
              rw [h3]
              simp
            rw [h4]
            dsimp only
            rw [if_pos hl]
            have h5 : noes S3.lo own = S'.lo := congrArg Sta.lo h2
            have h6 : S3.nb = S'.nb := by have := congrArg Sta.nb h2; exact this
            show compL own tg tt te ts ⟨noes S3.lo own, S'.gh ++ _, S3.nb⟩ = _
            rw [h5, h6]
            rfl
        | exc => rw [e3] at h; cases h
        | stuck => rw [e3] at h; cases h
    | exc => rw [e2] at h; cases h
    | stuck => rw [e2] at h; cases h
theorem compL_run {own : List Nat} {tg : Tg} {tt : TF} {te : EF} {S : Sta} {v : T → Option T} (hw : S.wipe own = S) : ∀ (ts acc : List T), acc.length + ts.length ≤ sz →
    (∀ t ∈ ts, ∀ acc, compStep own tg tt te t (S.push (.ow (.lst acc))) = .ok (v t) (S.push (.ow (.lst acc)))) →
    compL own tg tt te ts (S.push (.ow (.lst acc))) = .ok () (S.push (.ow (.lst (acc ++ ts.filterMap v))))
  | [], acc, _, _ => by rw [List.filterMap_nil, List.append_nil]; rfl
  | t :: ts, acc, hl, h => by
    rw [List.length_cons] at hl
    rw [compL_step (h t List.mem_cons_self acc) hw (by omega), compL_run hw ts _ (by rw [List.length_append]; cases v t <;> simp <;> omega) fun t ht => h t (List.mem_cons_of_mem _ ht)]
    rw [List.filterMap_cons]
    cases v t <;> simp
theorem noes_noes (l : List Slot) (own : List Nat) : noes (noes l own) own = noes l own := by
  apply List.ext_getElem?
  intro j
  by_cases hj : j ∈ own
  · by_cases hl : j < l.length
    · have h1 : ∀ l : List Slot, j < l.length → (noes l own)[j]? = some .no := fun l hl => by
        have hl2 : j < (noes l own).length := by rw [noes_length]; exact hl
        rcases noes_get l (List.getElem?_eq_getElem hl2) with ⟨_, b⟩ | ⟨a, _⟩
        · rw [List.getElem?_eq_getElem hl2, b]
        · exact absurd hj a
      rw [h1 _ (by rw [noes_length]; exact hl), h1 _ hl]
    · rw [List.getElem?_eq_none (by rw [noes_length, noes_length]; omega), List.getElem?_eq_none (by rw [noes_length]; omega)]
  · by_cases hl : j < l.length
    · have h1 : ∀ l : List Slot, j < l.length → (noes l own)[j]? = l[j]? := fun l hl => by
        have hl2 : j < (noes l own).length := by rw [noes_length]; exact hl
        rcases noes_get l (List.getElem?_eq_getElem hl2) with ⟨a, _⟩ | ⟨_, b⟩
        · exact absurd a hj
        · rw [List.getElem?_eq_getElem hl2, b]
      rw [h1 _ (by rw [noes_length]; exact hl)]
    · rw [List.getElem?_eq_none (by rw [noes_length, noes_length]; omega), List.getElem?_eq_none (by rw [noes_length]; omega)]
theorem backs_noes (l : List Slot) (own : List Nat) : backs (noes l own) l own = l := by
  apply List.ext_getElem?
  intro j
  by_cases hl : j < l.length
  · have hl2 : j < (backs (noes l own) l own).length := by rw [backs_length, noes_length]; exact hl
    rcases backs_get (noes l own) l (List.getElem?_eq_getElem hl2) with ⟨a, b⟩ | ⟨a, b⟩
    · rw [List.getElem?_eq_getElem hl2, b, List.getD_eq_getElem?_getD, List.getElem?_eq_getElem hl]; rfl
    · rw [List.getElem?_eq_getElem hl2, ← b]
      have hl3 : j < (noes l own).length := by rw [noes_length]; exact hl
      rcases noes_get l (List.getElem?_eq_getElem hl3) with ⟨c, _⟩ | ⟨_, d⟩
      · exact absurd c a
      · rw [List.getElem?_eq_getElem hl3, d]
  · rw [List.getElem?_eq_none (by rw [backs_length, noes_length]; omega), List.getElem?_eq_none (by omega)]
theorem wipe_wipe (S : Sta) (own : List Nat) : (S.wipe own).wipe own = S.wipe own := by unfold Sta.wipe; rw [noes_noes]
theorem wipe_back (S : Sta) (own : List Nat) : (S.wipe own).back S own = S := by unfold Sta.wipe Sta.back; rw [backs_noes]
theorem compF_run {own : List Nat} {it : IF} {tg : Tg} {tt : TF} {te : EF} {S S1 : Sta} {ts : List T} (v : T → Option T) (hi : it S = .ok ts S1) (hf : (own.all fun i => Slot.free S1.lo[i]?) = true) (hs : (tg.slots.all fun i => own.contains i) = true) (hl : ts.length ≤ sz)
    (h : ∀ t ∈ ts, ∀ acc, compStep own tg tt te t ((S1.wipe own).push (.ow (.lst acc))) = .ok (v t) ((S1.wipe own).push (.ow (.lst acc)))) :
    compF own it tg tt te S = .ok (.ow (.lst (ts.filterMap v))) S1 := by
  unfold compF
  rw [hi, R.bind_ok, hf, hs, compL_run (wipe_wipe S1 own) ts [] (by simpa using hl) h]
  simp [wipe_back]
end TL
namespace TL
/-! rows of naturals -/
def tn (p : List Nat) : List T := p.map fun (n : Nat) => T.int (n : Int)
@[simp] theorem tn_length (p : List Nat) : (tn p).length = p.length := List.length_map _
@[simp] theorem tn_nil : tn [] = [] := rfl
@[simp] theorem tn_cons (a : Nat) (p : List Nat) : tn (a :: p) = .int (a : Int) :: tn p := rfl
theorem tn_append (p q : List Nat) : tn (p ++ q) = tn p ++ tn q := List.map_append
theorem atI_n {α : Type} {xs : List α} {i : Nat} {x : α} (h : xs[i]? = some x) : atI xs (i : Int) = some x := by
  have hi : i < xs.length := (List.getElem?_eq_some_iff.mp h).1
  unfold atI ixN
  rw [if_pos (by omega), if_pos (by omega)]
  simpa using h
theorem tn_get {p : List Nat} {i n : Nat} (h : p[i]? = some n) : (tn p)[i]? = some (.int (n : Int)) := by
  unfold tn
  rw [List.getElem?_map, h]
  rfl
theorem ix_tup {ts : List T} {i : Nat} {t : T} (h : ts[i]? = some t) : ixT (.tup ts) (.int (i : Int)) = some (.sh t) := by
  show (atI ts (i : Int)).map Slot.sh = _
  rw [atI_n h]; rfl
theorem ix_lst {ts : List T} {i : Nat} {t : T} (h : ts[i]? = some t) : ixT (.lst ts) (.int (i : Int)) = some (.sh t) := by
  show (atI ts (i : Int)).map Slot.sh = _
  rw [atI_n h]; rfl
theorem eqv_int (a b : Int) : PyData.eqv (.int a) (.int b) = decide (a = b) := by
  show (a == b) = _
  rw [Bool.eq_iff_iff]; simp
theorem okTs_tn (p : List Nat) (n : Nat) : T.okTs (tn p) n = true := by
  induction p with
  | nil => rfl
  | cons a p ih => rw [tn_cons, T.okTs, T.okT, ih]; rfl
theorem eqvAll_tn : ∀ p q : List Nat, PyData.eqvAll (T.dAll (tn p)) (T.dAll (tn q)) = decide (p = q)
  | [], [] => by simp [T.dAll, PyData.eqvAll]
  | [], _ :: _ => by simp [T.dAll, PyData.eqvAll]
  | _ :: _, [] => by simp [T.dAll, PyData.eqvAll]
  | a :: p, b :: q => by
    simp only [tn_cons, T.dAll, T.d, PyData.eqvAll, eqvAll_tn p q, eqv_int]
    rw [Bool.eq_iff_iff]
    simp only [Bool.and_eq_true, decide_eq_true_eq, List.cons.injEq]
    constructor
    · rintro ⟨h1, h2⟩; exact ⟨by omega, h2⟩
    · rintro ⟨h1, h2⟩; exact ⟨by omega, h2⟩
theorem eq_int (a b : Int) : eqT (.int a) (.int b) = some (.sh (.bl (decide (a = b)))) := by
  unfold eqT
  rw [if_pos ⟨rfl, rfl⟩]
  show some (Slot.sh (T.bl (PyData.eqv (.int a) (.int b)))) = _
  rw [eqv_int]
theorem ne_int (a b : Int) : neT (.int a) (.int b) = some (.sh (.bl (!decide (a = b)))) := by
  unfold neT
  rw [if_pos ⟨rfl, rfl⟩]
  show some (Slot.sh (T.bl (!PyData.eqv (.int a) (.int b)))) = _
  rw [eqv_int]
theorem eqD_tup (p q : List Nat) : eqD (.tup (tn p)) (.tup (tn q)) = decide (p = q) := by
  show PyData.eqvAll _ _ = _
  exact eqvAll_tn p q
theorem eqD_lst (p q : List Nat) : eqD (.lst (tn p)) (.lst (tn q)) = decide (p = q) := by
  show PyData.eqvAll _ _ = _
  exact eqvAll_tn p q
theorem okD_tup (p : List Nat) (n : Nat) : T.okD (n + 1) (.tup (tn p)) = true := by show T.okTs (tn p) n = true; exact okTs_tn p n
theorem okD_lst (p : List Nat) (n : Nat) : T.okD (n + 1) (.lst (tn p)) = true := by show T.okTs (tn p) n = true; exact okTs_tn p n
theorem eq_tup (p q : List Nat) : eqT (.tup (tn p)) (.tup (tn q)) = some (.sh (.bl (decide (p = q)))) := by
  unfold eqT
  rw [if_pos ⟨okD_tup p 59, okD_tup q 59⟩, eqD_tup]
theorem eq_lst (p q : List Nat) : eqT (.lst (tn p)) (.lst (tn q)) = some (.sh (.bl (decide (p = q)))) := by
  unfold eqT
  rw [if_pos ⟨okD_lst p 59, okD_lst q 59⟩, eqD_lst]
theorem ne_tup (p q : List Nat) : neT (.tup (tn p)) (.tup (tn q)) = some (.sh (.bl (!decide (p = q)))) := by
  unfold neT
  rw [if_pos ⟨okD_tup p 59, okD_tup q 59⟩, eqD_tup]
/-- lists of rows -/
def tr (ps : List (List Nat)) : List T := ps.map fun p => T.tup (tn p)
@[simp] theorem tr_length (p : List (List Nat)) : (tr p).length = p.length := List.length_map _
theorem okTs_tr (ps : List (List Nat)) (n : Nat) : T.okTs (tr ps) (n + 1) = true := by
  induction ps with
  | nil => rfl
  | cons a p ih =>
    show (T.okT (.tup (tn a)) (n + 1) && T.okTs (tr p) (n + 1)) = true
    rw [ih]
    exact (Bool.and_true _).trans (okD_tup a n)
theorem any_tr (q : List Nat) (ps : List (List Nat)) : ((tr ps).any fun y => eqD y (.tup (tn q))) = decide (q ∈ ps) := by
  induction ps with
  | nil => simp [tr]
  | cons a p ih =>
    show (eqD (.tup (tn a)) (.tup (tn q)) || (tr p).any fun y => eqD y (.tup (tn q))) = _
    rw [ih, eqD_tup, Bool.eq_iff_iff]
    simp only [Bool.or_eq_true, decide_eq_true_eq, List.mem_cons]
    exact ⟨fun h => h.elim (fun h => .inl h.symm) .inr, fun h => h.elim (fun h => .inl h.symm) .inr⟩
theorem any_tn (b : Nat) (p : List Nat) : ((tn p).any fun y => eqD y (.int (b : Int))) = decide (b ∈ p) := by
  induction p with
  | nil => simp
  | cons a p ih =>
    show (PyData.eqv (.int (a : Int)) (.int (b : Int)) || (tn p).any fun y => eqD y (.int (b : Int))) = _
    rw [ih, eqv_int, Bool.eq_iff_iff]
    simp only [Bool.or_eq_true, decide_eq_true_eq, List.mem_cons]
    exact ⟨fun h => h.elim (fun h => .inl (by omega)) .inr, fun h => h.elim (fun h => .inl (by omega)) .inr⟩
theorem rg_tn (n : Nat) : rgT 0 (n : Int) = tn (List.range n) := by
  unfold rgT tn
  simp
theorem isN_int_int (z : Int) : isN ["int"] (.int z) = some (.sh (.bl true)) := by
  simp only [isN, tyN, Option.bind_some, show kitN "int" ["int"] = some true by decide +kernel]; rfl
theorem isN_int_bool (z : Int) : isN ["bool"] (.int z) = some (.sh (.bl false)) := by
  simp only [isN, tyN, Option.bind_some, show kitN "int" ["bool"] = some false by decide +kernel]; rfl
theorem isN_lst (z : List T) : isN ["list", "tuple"] (.lst z) = some (.sh (.bl true)) := by
  simp only [isN, tyN, Option.bind_some, show kitN "list" ["list", "tuple"] = some true by decide +kernel]; rfl
theorem isN_tup (z : List T) : isN ["list", "tuple"] (.tup z) = some (.sh (.bl true)) := by
  simp only [isN, tyN, Option.bind_some, show kitN "tuple" ["list", "tuple"] = some true by decide +kernel]; rfl
theorem filterMap_const {α β : Type} (b : β) : ∀ l : List α, (l.filterMap fun _ => some b) = List.replicate l.length b
  | [] => rfl
  | _ :: l => by rw [List.filterMap_cons]; simp [filterMap_const b l, List.replicate_succ]
theorem boolsT_rep (n : Nat) : boolsT (List.replicate n (T.bl true)) = some (List.replicate n true) := by
  have := boolsT_map (List.replicate n true)
  rwa [List.map_replicate] at this
theorem allN_rep (n : Nat) : allN [.lst (List.replicate n (T.bl true))] = some (.sh (.bl true)) := by
  show (boolsT _).map _ = _
  rw [boolsT_rep]
  simp
end TL
namespace TL
@[simp] theorem setIF_ap (i : Nat) (fv fi : OF) (S : Sta) : setIF i fv fi S = (fv S).bind fun o S1 => match S1.lo[i]? with
  | some (.ow (.lst _)) => (fi S1).bind fun o' S2 => match o, o', S2.lo[i]? with
    | .val t, .val (.int k), some (.ow (.lst ts)) => match ixN ts.length k with
      | some j => .ok .nx (S2.put i (.ow (.lst (ts.set j t))))
      | none => .stuck
    | _, _, _ => .stuck
  | _ => .stuck := rfl
@[simp] theorem methF_ap (i : Nat) (p : List T → List T → Option (List T × T)) (fa : AF) (S : Sta) : methF i p fa S = match S.lo[i]? with
  | some (.ow (.lst _)) => (fa S).bind fun os S1 => match vals os, S1.lo[i]? with
    | some us, some (.ow (.lst ts)) => match p ts us with
      | some (ts', z) => .ok (.sh z) (S1.put i (.ow (.lst ts')))
      | none => .stuck
    | _, _ => .stuck
  | _ => .stuck := rfl
@[simp] theorem parF_ap (i j : Nat) (f g : EF) (S : Sta) : parF i j f g S = (f S).bind fun x S1 => match g (S1.push x) with
  | .ok y S2 => match S2.popG with
    | some (x', S3) => if i < S3.lo.length ∧ j < S3.lo.length then .ok .nx ((S3.put j y).put i x') else .stuck
    | none => .stuck
  | .exc e S2 => match S2.popG with
    | some (_, S3) => .exc e S3
    | none => .stuck
  | .stuck => .stuck := rfl
theorem ixN_n {n i : Nat} (h : i < n) : ixN n (i : Int) = some i := by
  unfold ixN
  rw [if_pos (by omega), if_pos (by omega)]
  simp
theorem tn_set (p : List Nat) (i n : Nat) : (tn p).set i (.int (n : Int)) = tn (p.set i n) := by
  unfold tn
  rw [List.map_set]
@[simp] theorem popG_snoc (l gh : List Slot) (nb : Nib) (x : Slot) : Sta.popG ⟨l, gh ++ [x], nb⟩ = some (x, ⟨l, gh, nb⟩) := Sta.popG_push ⟨l, gh, nb⟩ x
@[simp] theorem popG_one (l : List Slot) (nb : Nib) (x : Slot) : Sta.popG ⟨l, [x], nb⟩ = some (x, ⟨l, [], nb⟩) := Sta.popG_push ⟨l, [], nb⟩ x
theorem ap_ok {ts : List T} {t : T} (h : ts.length < sz) : apP ts [t] = some (ts ++ [t], .non) := by
  show (if ts.length < sz then some (ts ++ [t], T.non) else none) = _
  rw [if_pos h]
theorem ex_ok {ts us : List T} (h : ts.length + us.length ≤ sz) : exP ts [.lst us] = some (ts ++ us, .non) := by
  show (if ts.length + us.length ≤ sz then some (ts ++ us, T.non) else none) = _
  rw [if_pos h]
theorem gt_nat (a b : Nat) : gtA (.int (a : Int)) (.int (b : Int)) = some (.sh (.bl (decide (b < a)))) := by
  show some (Slot.sh (T.bl (decide ((b : Int) < a)))) = _
  simp
end TL
namespace TL
theorem rngI1_n {a : OF} {S S1 : Sta} {n : Nat} (h : a S = .ok (.val (.int (n : Int))) S1) (hn : n ≤ 1000000) : rngI1 a S = .ok (tn (List.range n)) S1 := by
  unfold rngI1
  rw [h, R.bind_ok]
  show (if -(2 ^ 62) ≤ (n : Int) ∧ (n : Int) < 2 ^ 62 then R.ok (rgT 0 (n : Int)) S1 else R.stuck) = _
  rw [if_pos ⟨by omega, by omega⟩, rg_tn]
theorem len_sz {n : Nat} (h : n ≤ 100000) : n ≤ sz := Nat.le_trans h (by decide)
theorem lt_sz {n : Nat} (h : n ≤ 100000) : n < sz := Nat.lt_of_le_of_lt h (by decide)
end TL

end
section
set_option Elab.async false
set_option linter.all false
set_option maxRecDepth 100000
set_option autoImplicit false
/-! TL12: a number is drawn -/
open PySem PySem.Spec PyProof.Rows L2
namespace TL
@[simp] theorem nibGet_ap (i k : Nat) (S : Sta) : nibGet i k S = match S.lo[i]? with
  | some (.sh .nib) => match S.nb.get k with
    | some t => .ok (.sh t) S
    | none => .stuck
  | _ => .stuck := rfl
@[simp] theorem nibSet_ap (i k : Nat) (f : OF) (S : Sta) : nibSet i k f S = (f S).bind fun o S1 => match o, S1.lo[i]? with
  | .val (.int z), some (.sh .nib) => match S1.nb.set k z with
    | some n => .ok .nx { S1 with nb := n }
    | none => .stuck
  | _, _ => .stuck := rfl
theorem lg {x : Int} {k : Nat} (h : x.natAbs < 2 ^ k) : x.natAbs.log2 ≤ k := by
  by_cases h0 : x.natAbs = 0
  · rw [h0]; exact Nat.zero_le _
  · exact Nat.le_of_lt ((Nat.log2_lt h0).mpr h)
theorem mul_ok {i j : Int} (h : i.natAbs.log2 + j.natAbs.log2 < 134000000) : mulT (.int i) (.int j) = some (.sh (.int (i * j))) := by
  show (if i.natAbs.log2 + j.natAbs.log2 < 134000000 then some (Slot.sh (T.int (i * j))) else none) = _
  rw [if_pos h]
theorem mul_sm {i j : Int} {a b : Nat} (ha : i.natAbs < 2 ^ a) (hb : j.natAbs < 2 ^ b) (h : a + b < 134000000) : mulT (.int i) (.int j) = some (.sh (.int (i * j))) :=
  mul_ok (by have := lg ha; have := lg hb; omega)
theorem mod_ok {i j : Int} (h : 0 < j) : modT (.int i) (.int j) = some (.sh (.int (i % j))) := by
  show (if 0 < j then some (Slot.sh (T.int (i % j))) else none) = _
  rw [if_pos h]
theorem fdiv_ok {i j : Int} (h : 0 < j) (h2 : j.natAbs < 2 ^ 8000) : fdivT (.int i) (.int j) = some (.sh (.int (i / j))) := by
  show (if 0 < j ∧ j.natAbs.log2 < 9000 then some (Slot.sh (T.int (i / j))) else none) = _
  rw [if_pos ⟨h, by have := lg h2; omega⟩]
theorem pow_ok {i : Int} {j : Nat} (h : i.natAbs < 2 ^ 64) (h2 : j ≤ 100) : powT (.int i) (.int (j : Int)) = some (.sh (.int (i ^ j))) := by
  show (if 0 ≤ (j : Int) ∧ (j : Int) ≤ 1000000 ∧ i.natAbs < 2 ^ 64 then some (Slot.sh (T.int (i ^ (j : Int).toNat))) else none) = _
  rw [if_pos ⟨by omega, by omega, h⟩]
  simp
def drawMix (b1 c1 p1 p2 e a2 c2 p3 : Int) : SF := (seqF (setF 5 (op2 modT (opE (opN intN (consA (opE (op2 powT (opE (op2 addT (opE (op2 addT (opE (op2 modT (opE (opN intN (consA (var 4) (nilA)))) (opE (con (.int p1))))) (opE (op2 mulT (opE (con (.int c1))) (var 3))))) (opE (con (.int b1))))) (opE (con (.int 5))))) (nilA)))) (opE (con (.int p2))))) (seqF (setF 5 (op2 modT (opE (opN intN (consA (opE (op2 powT (opE (op2 addT (opE (op2 addT (opE (op2 mulT (var 5) (opE (op2 addT (opE (op2 mulT (opE (con (.int 2))) (var 3))) (opE (con (.int e))))))) (opE (op2 mulT (opE (op2 mulT (opE (con (.int a2))) (var 3))) (var 3))))) (opE (con (.int c2))))) (opE (con (.int 3))))) (nilA)))) (opE (con (.int p3))))) (retF (op2 modT (opE (opN intN (consA (opE (op2 fdivT (var 5) (opE (con (.int 64))))) (nilA)))) (var 1)))))
def drawHeld : SF := (seqF (setF 2 (op2 addT (opE (op2 mulT (opE (con (.int 2))) (opE (op2 subT (opE (opN absN (consA (var 4) (nilA)))) (opE (op2 powT (opE (con (.int 10))) (opE (con (.int 18))))))))) (opE (opN intN (consA (opE (op2 ltA (var 4) (opE (con (.int 0))))) (nilA)))))) (seqF (nibSet 0 2 (opE (op2 fdivT (opE (opN intN (consA (var 2) (nilA)))) (var 1)))) (retF (op2 modT (opE (opN intN (consA (var 2) (nilA)))) (var 1)))))
def drawB (a b p1 c1 b1 p2 e a2 c2 p3 : Int) : SF := seqF (ifF (tst (op2 gtA (opE (nibGet 0 2)) (opE (con (.int 0))))) (seqF (setF 2 (nibGet 0 2)) (seqF (nibSet 0 2 (opE (op2 fdivT (opE (opN intN (consA (var 2) (nilA)))) (var 1)))) (retF (op2 modT (opE (opN intN (consA (var 2) (nilA)))) (var 1))))) (nxF)) (seqF (setF 3 (nibGet 0 1)) (seqF (nibSet 0 1 (opE (op2 addT (var 3) (opE (con (.int 1)))))) (seqF (setF 4 (op2 addT (opE (op2 mulT (opE (con (.int a))) (var 3))) (opE (con (.int b))))) (seqF (ifF (tst (op2 neT (opE (nibGet 0 0)) (opE (lstF (nilA))))) (setF 4 (op2 ixT (opE (nibGet 0 0)) (opE (op2 modT (opE (opN intN (consA (var 3) (nilA)))) (opE (opN lenN (consA (opE (nibGet 0 0)) (nilA)))))))) (nxF)) (seqF (ifF (andT (tst (op2 ltA (var 3) (opE (opN lenN (consA (opE (nibGet 0 0)) (nilA)))))) (tst (op2 geT (opE (opN absN (consA (var 4) (nilA)))) (opE (op2 powT (opE (con (.int 10))) (opE (con (.int 18)))))))) drawHeld (nxF)) (drawMix b1 c1 p1 p2 e a2 c2 p3))))))
structure NbOk (k : Nat) (nb : Nib) : Prop where
  t0 : 0 ≤ nb.turn
  tk : nb.turn ≤ k
  r0 : 0 ≤ nb.rest
  bits : ∀ z ∈ nb.cells, Builtin.Int.intBits z ≤ 1048576
theorem NbOk.mono {k j : Nat} {nb : Nib} (h : NbOk k nb) (hj : k ≤ j) : NbOk j nb := ⟨h.t0, by have := h.tk; omega, h.r0, h.bits⟩
theorem mod_nat {i : Int} {m : Nat} (h : 0 < m) : ∃ r : Nat, i % (m : Int) = (r : Int) ∧ r < m := by
  have h1 : 0 ≤ i % (m : Int) := Int.emod_nonneg _ (by omega)
  have h2 : i % (m : Int) < m := Int.emod_lt_of_pos _ (by omega)
  exact ⟨(i % (m : Int)).toNat, by omega, by omega⟩
theorem run_mix {b1 c1 p1 p2 e a2 c2 p3 : Int} {m : Nat} {x y : Slot} {t cell : Int} {nb : Nib} (hm : 0 < m) (ht0 : 0 ≤ t) (ht : t < 2 ^ 18)
    (hb1 : 0 ≤ b1 ∧ b1 < 2 ^ 20) (hc1 : 0 ≤ c1 ∧ c1 < 2 ^ 20) (hp1 : 0 < p1 ∧ p1 < 2 ^ 32) (hp2 : 0 < p2 ∧ p2 < 2 ^ 32) (he : 0 ≤ e ∧ e < 2 ^ 20) (ha2 : 0 ≤ a2 ∧ a2 < 2 ^ 20) (hc2 : 0 ≤ c2 ∧ c2 < 2 ^ 20) (hp3 : 0 < p3) :
    ∃ (r : Nat) (S : Sta), r < m ∧ S.nb = nb ∧ drawMix b1 c1 p1 p2 e a2 c2 p3 ⟨[.sh .nib, .sh (.int (m : Int)), x, .sh (.int t), .sh (.int cell), y], [], nb⟩ = .ok (.rt (.sh (.int (r : Int)))) S := by
  obtain ⟨i1, h1⟩ : ∃ z, z = cell % p1 := ⟨_, rfl⟩
  have h1a : 0 ≤ i1 := by rw [h1]; exact Int.emod_nonneg _ (by omega)
  have h1b : i1 < p1 := by rw [h1]; exact Int.emod_lt_of_pos _ hp1.1
  have h2 : 0 ≤ c1 * t := Int.mul_nonneg hc1.1 ht0
  have h2b : c1 * t ≤ 2 ^ 20 * 2 ^ 18 := Int.mul_le_mul (by omega) (by omega) ht0 (by omega)
  obtain ⟨m1, h3⟩ : ∃ z, z = (i1 + c1 * t + b1) ^ 5 % p2 := ⟨_, rfl⟩
  have h3a : 0 ≤ m1 := by rw [h3]; exact Int.emod_nonneg _ (by omega)
  have h3b : m1 < p2 := by rw [h3]; exact Int.emod_lt_of_pos _ hp2.1
  have h4 : 0 ≤ m1 * (2 * t + e) := Int.mul_nonneg h3a (by omega)
  have h4b : m1 * (2 * t + e) ≤ 2 ^ 32 * 2 ^ 22 := Int.mul_le_mul (by omega) (by omega) (by omega) (by omega)
  have h5 : 0 ≤ a2 * t := Int.mul_nonneg ha2.1 ht0
  have h5b : a2 * t ≤ 2 ^ 20 * 2 ^ 18 := Int.mul_le_mul (by omega) (by omega) ht0 (by omega)
  have h6 : 0 ≤ a2 * t * t := Int.mul_nonneg h5 ht0
  have h6b : a2 * t * t ≤ 2 ^ 38 * 2 ^ 18 := Int.mul_le_mul (by omega) (by omega) ht0 (by omega)
  obtain ⟨m2, h7⟩ : ∃ z, z = (m1 * (2 * t + e) + a2 * t * t + c2) ^ 3 % p3 := ⟨_, rfl⟩
  obtain ⟨r, hr, hrm⟩ := mod_nat (i := m2 / 64) hm
  refine ⟨r, ⟨[.sh .nib, .sh (.int (m : Int)), x, .sh (.int t), .sh (.int cell), .sh (.int m2)], [], nb⟩, hrm, rfl, ?_⟩
  have e1 := mul_sm (i := c1) (j := t) (a := 64) (b := 64) (by omega) (by omega) (by omega)
  have e2 : powT (.int (i1 + c1 * t + b1)) (.int 5) = some (.sh (.int ((i1 + c1 * t + b1) ^ 5))) := pow_ok (i := i1 + c1 * t + b1) (j := 5) (by omega) (by omega)
  have e3 := mul_sm (i := 2) (j := t) (a := 64) (b := 64) (by omega) (by omega) (by omega)
  have e4 := mul_sm (i := m1) (j := 2 * t + e) (a := 64) (b := 64) (by omega) (by omega) (by omega)
  have e5 := mul_sm (i := a2) (j := t) (a := 64) (b := 64) (by omega) (by omega) (by omega)
  have e6 := mul_sm (i := a2 * t) (j := t) (a := 64) (b := 64) (by omega) (by omega) (by omega)
  have e7 : powT (.int (m1 * (2 * t + e) + a2 * t * t + c2)) (.int 3) = some (.sh (.int ((m1 * (2 * t + e) + a2 * t * t + c2) ^ 3))) := pow_ok (i := m1 * (2 * t + e) + a2 * t * t + c2) (j := 3) (by omega) (by omega)
  have e8 := fdiv_ok (i := m2) (j := 64) (by omega) (Nat.lt_of_lt_of_le (show (64 : Int).natAbs < 2 ^ 7 by decide) (Nat.pow_le_pow_right (by omega) (by omega)))
  have e9 := mod_ok (i := cell) hp1.1
  have e10 := mod_ok (i := (i1 + c1 * t + b1) ^ 5) hp2.1
  have e11 := mod_ok (i := (m1 * (2 * t + e) + a2 * t * t + c2) ^ 3) hp3
  have e12 := mod_ok (i := m2 / 64) (j := (m : Int)) (by omega)
  rw [← h1] at e9
  rw [← h3] at e10
  rw [← h7] at e11
  rw [hr] at e12
  simp [drawMix, var_sh, varE_sh, intN, e9, e1, addT, e2, e10, e3, e4, e5, e6, e7, e11, e8, e12]

theorem run_held {m : Nat} {x y : Slot} {t cell : Int} {nb : Nib} (hm : 0 < m) (hm2 : m ≤ 1000000000) (hb : Builtin.Int.intBits cell ≤ 1048576) (h18 : 10 ^ 18 ≤ (if cell < 0 then -cell else cell)) :
    ∃ (r : Nat) (S : Sta) (z : Int), r < m ∧ 0 ≤ z ∧ S.nb = { nb with rest := z } ∧ drawHeld ⟨[.sh .nib, .sh (.int (m : Int)), x, .sh (.int t), .sh (.int cell), y], [], nb⟩ = .ok (.rt (.sh (.int (r : Int)))) S := by
  obtain ⟨w, hw⟩ : ∃ w : Int, w = (if cell < 0 then -cell else cell) := ⟨_, rfl⟩
  have hw2 : w.natAbs = cell.natAbs := by rw [hw]; split <;> omega
  obtain ⟨u, hu⟩ : ∃ u : Int, u = (if cell < 0 then 1 else 0) := ⟨_, rfl⟩
  have hu2 : 0 ≤ u := by rw [hu]; split <;> omega
  rw [← hw] at h18
  have hn : cell.natAbs < 2 ^ 1048576 := PySem.intBits_le_iff.mp hb
  have e1 : powT (.int 10) (.int 18) = some (.sh (.int (10 ^ 18))) := pow_ok (i := 10) (j := 18) (by omega) (by omega)
  have e2 : mulT (.int 2) (.int (w - 10 ^ 18)) = some (.sh (.int (2 * (w - 10 ^ 18)))) := mul_sm (a := 2) (b := 1048576) (by decide) (Nat.lt_of_le_of_lt (by omega) hn) (by omega)
  have hz : 0 ≤ 2 * (w - 10 ^ 18) + u := by omega
  obtain ⟨r, hr, hrm⟩ := mod_nat (i := 2 * (w - 10 ^ 18) + u) hm
  have e3 := mod_ok (i := 2 * (w - 10 ^ 18) + u) (j := (m : Int)) (by omega)
  rw [hr] at e3
  have e4 := fdiv_ok (i := 2 * (w - 10 ^ 18) + u) (j := (m : Int)) (by omega) (Nat.lt_of_lt_of_le (show (m : Int).natAbs < 2 ^ 30 by omega) (Nat.pow_le_pow_right (by omega) (by omega)))
  have e5 : absN [.int cell] = some (.sh (.int w)) := by rw [hw]; rfl
  have e6 : ltA (.int cell) (.int 0) = some (.sh (.bl (decide (cell < 0)))) := rfl
  have e7 : intN [.bl (decide (cell < 0))] = some (.sh (.int u)) := by
    rw [hu]
    show some (Slot.sh (T.int (if decide (cell < 0) = true then 1 else 0))) = _
    simp
  refine ⟨r, ⟨[.sh .nib, .sh (.int (m : Int)), .sh (.int (2 * (w - 10 ^ 18) + u)), .sh (.int t), .sh (.int cell), y], [], { nb with rest := (2 * (w - 10 ^ 18) + u) / m }⟩, _, hrm, Int.ediv_nonneg hz (by omega), rfl, ?_⟩
  have e8 : intN [.int (2 * (w - 10 ^ 18) + u)] = some (.sh (.int (2 * (w - 10 ^ 18) + u))) := rfl
  generalize (10 : Int) ^ 18 = T18 at *
  simp [drawHeld, var_sh, varE_sh, e5, e1, subT, e2, e6, e7, addT, e8, e4, e3, Nib.set]
theorem eqvAll_nil (xs : List T) : PyData.eqvAll (T.dAll xs) (T.dAll []) = decide (xs = []) := by
  cases xs <;> simp [T.dAll, PyData.eqvAll]
theorem okTs_ints (ns : List Int) (n : Nat) : T.okTs (ns.map T.int) n = true := by
  induction ns with
  | nil => rfl
  | cons a p ih => rw [List.map_cons, T.okTs, T.okT, ih]; rfl
theorem ne_nil (ns : List Int) : neT (.lst (ns.map T.int)) (.lst []) = some (.sh (.bl (!decide (ns = [])))) := by
  unfold neT
  rw [if_pos ⟨by show T.okTs _ 59 = true; exact okTs_ints ns 59, rfl⟩]
  show some (Slot.sh (T.bl (!PyData.eqvAll (T.dAll (ns.map T.int)) (T.dAll [])))) = _
  rw [eqvAll_nil]
  cases ns <;> simp
theorem run_draw {a b p1 c1 b1 p2 e a2 c2 p3 : Int} {m k : Nat} {x2 x3 x4 x5 : Slot} {nb : Nib} (h : NbOk k nb) (hk : k ≤ 100000) (hm : 0 < m) (hm2 : m ≤ 1000000000) (ha : 0 ≤ a ∧ a < 2 ^ 20)
    (hb1 : 0 ≤ b1 ∧ b1 < 2 ^ 20) (hc1 : 0 ≤ c1 ∧ c1 < 2 ^ 20) (hp1 : 0 < p1 ∧ p1 < 2 ^ 32) (hp2 : 0 < p2 ∧ p2 < 2 ^ 32) (he : 0 ≤ e ∧ e < 2 ^ 20) (ha2 : 0 ≤ a2 ∧ a2 < 2 ^ 20) (hc2 : 0 ≤ c2 ∧ c2 < 2 ^ 20) (hp3 : 0 < p3) :
    ∃ (r : Nat) (S : Sta), r < m ∧ NbOk (k + 1) S.nb ∧ drawB a b p1 c1 b1 p2 e a2 c2 p3 ⟨[.sh .nib, .sh (.int (m : Int)), x2, x3, x4, x5], [], nb⟩ = .ok (.rt (.sh (.int (r : Int)))) S := by
  obtain ⟨cells, turn, rest⟩ := nb
  obtain ⟨t0, tk, r0, bits⟩ := h
  dsimp only at t0 tk r0 bits
  by_cases hr : 0 < rest
  · obtain ⟨r, hr1, hrm⟩ := mod_nat (i := rest) hm
    have e3 := mod_ok (i := rest) (j := (m : Int)) (by omega)
    rw [hr1] at e3
    have e4 := fdiv_ok (i := rest) (j := (m : Int)) (by omega) (Nat.lt_of_lt_of_le (show (m : Int).natAbs < 2 ^ 30 by omega) (Nat.pow_le_pow_right (by omega) (by omega)))
    refine ⟨r, ⟨[.sh .nib, .sh (.int (m : Int)), .sh (.int rest), x3, x4, x5], [], ⟨cells, turn, rest / m⟩⟩, hrm, ⟨t0, by dsimp only; omega, Int.ediv_nonneg r0 (by omega), bits⟩, ?_⟩
    have e5 : gtA (.int rest) (.int 0) = some (.sh (.bl true)) := by
      show some (Slot.sh (T.bl (decide ((0 : Int) < rest)))) = _
      rw [decide_eq_true hr]
    simp [drawB, var_sh, varE_sh, e5, e4, e3, Nib.set, Nib.get, intN]
  · have e5 : gtA (.int rest) (.int 0) = some (.sh (.bl false)) := by
      show some (Slot.sh (T.bl (decide ((0 : Int) < rest)))) = _
      rw [decide_eq_false hr]
    have hr0 : rest = 0 := by omega
    subst hr0
    have e6 := mul_sm (i := a) (j := turn) (a := 64) (b := 64) (by omega) (by omega) (by omega)
    have ok1 : NbOk (k + 1) ⟨cells, turn + 1, 0⟩ := ⟨by dsimp only; omega, by dsimp only; omega, Int.le_refl 0, bits⟩
    by_cases hc : cells = []
    · subst hc
      have e7 : neT (.lst (([] : List Int).map T.int)) (.lst []) = some (.sh (.bl false)) := ne_nil []
      rw [List.map_nil] at e7
      obtain ⟨r, S, hrm, hS, eS⟩ := run_mix (x := x2) (y := x5) (t := turn) (cell := a * turn + b) (nb := ⟨[], turn + 1, 0⟩) hm t0 (by omega) hb1 hc1 hp1 hp2 he ha2 hc2 hp3
      refine ⟨r, S, hrm, hS ▸ ok1, ?_⟩
      have e8 : ltA (.int turn) (.int 0) = some (.sh (.bl false)) := by
        show some (Slot.sh (T.bl (decide (turn < 0)))) = _
        rw [decide_eq_false (by omega)]
      simp [drawB, var_sh, varE_sh, e5, e6, Nib.set, Nib.get, addT, e7, lenN, e8, eS]
    · have hl : 0 < cells.length := List.length_pos_iff.mpr hc
      have e7 : neT (.lst (cells.map T.int)) (.lst []) = some (.sh (.bl true)) := by rw [ne_nil, decide_eq_false hc]; rfl
      obtain ⟨j, hj, hjm⟩ := mod_nat (i := turn) hl
      have e9 := mod_ok (i := turn) (j := (cells.length : Int)) (by omega)
      rw [hj] at e9
      have g : cells[j]? = some cells[j] := List.getElem?_eq_getElem hjm
      have g2 : (cells.map T.int)[j]? = some (.int cells[j]) := by rw [List.getElem?_map, g]; rfl
      have e10 := ix_lst g2
      have hbit := bits _ (List.getElem_mem hjm)
      generalize cells[j] = cell at g g2 e10 hbit
      have e8 : ltA (.int turn) (.int (cells.length : Int)) = some (.sh (.bl (decide (turn < cells.length)))) := rfl
      have e11 : powT (.int 10) (.int 18) = some (.sh (.int (10 ^ 18))) := pow_ok (i := 10) (j := 18) (by omega) (by omega)
      obtain ⟨r, S, hrm, hS, eS⟩ := run_mix (x := x2) (y := x5) (t := turn) (cell := cell) (nb := ⟨cells, turn + 1, 0⟩) hm t0 (by omega) hb1 hc1 hp1 hp2 he ha2 hc2 hp3
      have e12 : absN [.int cell] = some (.sh (.int (if cell < 0 then -cell else cell))) := rfl
      by_cases h1 : turn < cells.length
      · by_cases h2 : 10 ^ 18 ≤ (if cell < 0 then -cell else cell)
        · obtain ⟨r, S, z, hrm, hz, hS, eS⟩ := run_held (x := x2) (y := x5) (t := turn) (cell := cell) (nb := ⟨cells, turn + 1, 0⟩) hm hm2 hbit h2
          refine ⟨r, S, hrm, hS ▸ ⟨ok1.t0, ok1.tk, hz, bits⟩, ?_⟩
          have e13 : geT (.int (if cell < 0 then -cell else cell)) (.int (10 ^ 18)) = some (.sh (.bl true)) := by
            show some (Slot.sh (T.bl (decide ((10 : Int) ^ 18 ≤ _)))) = _
            rw [decide_eq_true h2]
          generalize (if cell < 0 then -cell else cell) = W at *
          generalize (10 : Int) ^ 18 = T18 at *
          rw [decide_eq_true h1] at e8
          simp [drawB, var_sh, varE_sh, e5, e6, Nib.set, Nib.get, addT, e7, lenN, e8, intN, e9, e10, e12, e11, e13, eS]
        · refine ⟨r, S, hrm, hS ▸ ok1, ?_⟩
          have e13 : geT (.int (if cell < 0 then -cell else cell)) (.int (10 ^ 18)) = some (.sh (.bl false)) := by
            show some (Slot.sh (T.bl (decide ((10 : Int) ^ 18 ≤ _)))) = _
            rw [decide_eq_false h2]
          generalize (if cell < 0 then -cell else cell) = W at *
          generalize (10 : Int) ^ 18 = T18 at *
          rw [decide_eq_true h1] at e8
          simp [drawB, var_sh, varE_sh, e5, e6, Nib.set, Nib.get, addT, e7, lenN, e8, intN, e9, e10, e12, e11, e13, eS]
      · refine ⟨r, S, hrm, hS ▸ ok1, ?_⟩
        rw [decide_eq_false h1] at e8
        simp [drawB, var_sh, varE_sh, e5, e6, Nib.set, Nib.get, addT, e7, lenN, e8, intN, e9, e10, eS]
end TL
namespace TL
@[simp] theorem slF_ap (p : T → Option Int → Option Int → Option Slot) (fa : OF) (lo hi : BF) (S : Sta) : slF p fa lo hi S = (fa S).bind fun o S1 => (lo S1).bind fun l S2 => (hi S2).bind fun u S3 => match o.get S3 with
  | some t => res (p t l u) S3
  | none => .stuck := rfl
@[simp] theorem noB_ap (S : Sta) : noB S = .ok none S := rfl
@[simp] theorem someB_ap (f : OF) (S : Sta) : someB f S = (f S).bind fun o S1 => match o with
  | .val (.int i) => .ok (some i) S1
  | _ => .stuck := rfl
theorem cutT_take (xs : List T) (m : Nat) : cutT xs none (some (m : Int)) = xs.take m := by
  unfold cutT
  rw [HT.sIx_none, HT.sIx_nat, List.drop_zero, Nat.sub_zero]
  by_cases h : m ≤ xs.length
  · rw [Nat.min_eq_left h]
  · rw [Nat.min_eq_right (by omega), List.take_of_length_le (Nat.le_refl _), List.take_of_length_le (by omega)]
theorem tn_take (p : List Nat) (i : Nat) : (tn p).take i = tn (p.take i) := by unfold tn; rw [List.map_take]
end TL
namespace TL
theorem compL_map {α : Type} {own : List Nat} {tg : Tg} {tt : TF} {te : EF} {S : Sta} {f : α → T} {v : α → Option T} (hw : S.wipe own = S) : ∀ (l : List α) (acc : List T), acc.length + l.length ≤ sz →
    (∀ a ∈ l, ∀ acc, compStep own tg tt te (f a) (S.push (.ow (.lst acc))) = .ok (v a) (S.push (.ow (.lst acc)))) →
    compL own tg tt te (l.map f) (S.push (.ow (.lst acc))) = .ok () (S.push (.ow (.lst (acc ++ l.filterMap v))))
  | [], acc, _, _ => by rw [List.filterMap_nil, List.append_nil]; rfl
  | t :: ts, acc, hl, h => by
    rw [List.length_cons] at hl
    rw [List.map_cons, compL_step (h t List.mem_cons_self acc) hw (by omega), compL_map hw ts _ (by rw [List.length_append]; cases v t <;> simp <;> omega) fun t ht => h t (List.mem_cons_of_mem _ ht)]
    rw [List.filterMap_cons]
    cases v t <;> simp
theorem compF_map {α : Type} {own : List Nat} {it : IF} {tg : Tg} {tt : TF} {te : EF} {S S1 : Sta} (l : List α) (f : α → T) (v : α → Option T) (hi : it S = .ok (l.map f) S1) (hf : (own.all fun i => Slot.free S1.lo[i]?) = true) (hs : (tg.slots.all fun i => own.contains i) = true) (hl : l.length ≤ sz)
    (h : ∀ a ∈ l, ∀ acc, compStep own tg tt te (f a) ((S1.wipe own).push (.ow (.lst acc))) = .ok (v a) ((S1.wipe own).push (.ow (.lst acc)))) :
    compF own it tg tt te S = .ok (.ow (.lst (l.filterMap v))) S1 := by
  unfold compF
  rw [hi, R.bind_ok, hf, hs, compL_map (wipe_wipe S1 own) l [] (by simpa using hl) h]
  simp [wipe_back]
theorem filterMap_if {α β : Type} (p : α → Bool) (f : α → β) : ∀ l : List α, (l.filterMap fun a => if p a = true then some (f a) else none) = (l.filter p).map f
  | [] => rfl
  | a :: l => by
    rw [List.filterMap_cons, List.filter_cons, filterMap_if p f l]
    by_cases h : p a = true
    · rw [if_pos h, if_pos h]; rfl
    · rw [if_neg h, if_neg h]
end TL

end
section
set_option Elab.async false
set_option linter.all false
set_option maxRecDepth 100000
set_option autoImplicit false
open PySem PySem.Spec PyProof.Rows L2
namespace TL
theorem compStep_filter {own : List Nat} {tg : Tg} {tt : TF} {te : EF} {t y : T} {S S1 W : Sta} {k : Bool} (h1 : tg.put t S = some S1) (h2 : tt S1 = .ok k S1) (h3 : te S1 = .ok (.sh y) S1) (h4 : S1.wipe own = W) : compStep own tg tt te t S = .ok (if k = true then some y else none) W := by
  unfold compStep
  rw [h1]
  dsimp only
  rw [h2, R.bind_ok]
  cases k with
  | true =>
    rw [if_pos rfl, if_pos rfl, h3, R.bind_ok, ← h4]
    rfl
  | false =>
    rw [if_neg Bool.false_ne_true, if_neg Bool.false_ne_true, ← h4]
theorem compStep_map {own : List Nat} {tg : Tg} {te : EF} {t y : T} {S S1 S2 W : Sta} {x : Slot} (h1 : tg.put t S = some S1) (h3 : te S1 = .ok x S2) (hx : x.tree = some y) (h4 : S2.wipe own = W) : compStep own tg yesT te t S = .ok (some y) W := by
  unfold compStep
  rw [h1]
  dsimp only
  rw [yesT_ap, R.bind_ok, if_pos rfl, h3, R.bind_ok, hx, ← h4]
theorem consA_run {f : OF} {r : AF} {S S1 S2 : Sta} {o : Opd} {os : List Opd} (h : f S = .ok o S1) (hr : r S1 = .ok os S2) : consA f r S = .ok (o :: os) S2 := by rw [consA_ap, h, R.bind_ok, hr, R.bind_ok]
theorem argV {l gh : List Slot} {nb : Nib} {i : Nat} {t : T} (h : l[i]? = some (.sh t)) : opE (varE i) ⟨l, gh, nb⟩ = .ok (.val t) ⟨l, gh, nb⟩ := by rw [opE_ap, varE_sh _ _ _ _ _ h]; rfl
theorem opE_run {e : EF} {S S1 : Sta} {x : Slot} {t : T} (h : e S = .ok x S1) (hx : x.tree = some t) : opE e S = .ok (.val t) S1 := by rw [opE_ap, h, R.bind_ok, hx]
theorem callF_run {np : Nat} {fn : Fn} {r : AF} {S S1 : Sta} {os : List Opd} {ts : List T} {x : Slot} {n : Nib} (h : r S = .ok os S1) (hv : vals os = some ts) (hl : ts.length = np) (hf : fn ts S1.nb = .ok x n) : callF np fn r S = .ok x { S1 with nb := n } := by
  rw [callF_ap, h, R.bind_ok, hv]
  dsimp only
  rw [if_pos hl, hf]
theorem setF_run {i : Nat} {e : EF} {S S1 : Sta} {x : Slot} (h : e S = .ok x S1) (hi : i < S1.lo.length) : setF i e S = .ok .nx (S1.put i x) := by rw [setF_ap, h, R.bind_ok, if_pos hi]
theorem op2_run {p : T → T → Option Slot} {a b : OF} {S S1 S2 : Sta} {o o' : Opd} {t u : T} {z : Slot} (h : a S = .ok o S1) (h' : b S1 = .ok o' S2) (g : o.get S2 = some t) (g' : o'.get S2 = some u) (hp : p t u = some z) : op2 p a b S = .ok z S2 := by
  rw [op2_ap, h, R.bind_ok, h', R.bind_ok, g, g']
  dsimp only
  rw [hp, res_some]
end TL

end
section
set_option Elab.async false
set_option linter.all false
set_option maxRecDepth 100000
set_option autoImplicit false
/-! TL15: the runner -/
open PySem PySem.Spec PyProof.Rows L2
namespace TL
section
variable (S : Sta) (i j k n np nk : Nat) (a b d : OF) (e e' e'' : EF) (t u : TF) (f g : SF) (r r' : AF) (it : IF) (tg : Tg) (p p' : T → T → Option Slot) (q : T → Option Slot) (ql : List T → Option Slot) (fn : Fn) (x y : T) (z : Slot) (ts us : List T) (o o' : Opd) (os os' : List Opd)
theorem w_okB {α β : Type} (a : α) (S : Sta) (k : α → Sta → R β) : (R.ok a S).bind k = k a S := rfl
theorem w_con : con x S = .ok (.sh x) S := rfl
def kOpE : Slot → Sta → R Opd := fun x S1 => match x.tree with
  | some t => .ok (.val t) S1
  | none => .stuck
theorem w_opE : opE e S = (e S).bind kOpE := rfl
theorem kOpE_sh : kOpE (.sh x) S = .ok (.val x) S := rfl
theorem kOpE_ow : kOpE (.ow x) S = .ok (.val x) S := rfl
theorem w_nilA : nilA S = .ok [] S := rfl
def kCons (r : AF) : Opd → Sta → R (List Opd) := fun o S1 => (r S1).bind fun os S2 => .ok (o :: os) S2
def kCons2 (o : Opd) : List Opd → Sta → R (List Opd) := fun os S2 => .ok (o :: os) S2
theorem w_consA : consA a r S = (a S).bind (kCons r) := rfl
theorem kCons_ap : kCons r o S = (r S).bind (kCons2 o) := rfl
theorem kCons2_ap : kCons2 o os S = .ok (o :: os) S := rfl
def gOp2 (p : T → T → Option Slot) (o o' : Option T) (S : Sta) : R Slot := match o, o' with
  | some t, some u => res (p t u) S
  | _, _ => .stuck
def kOp2 (p : T → T → Option Slot) (b : OF) : Opd → Sta → R Slot := fun o S1 => (b S1).bind fun o' S2 => match o.get S2, o'.get S2 with
  | some t, some u => res (p t u) S2
  | _, _ => .stuck
def kOp2' (p : T → T → Option Slot) (o : Opd) : Opd → Sta → R Slot := fun o' S2 => match o.get S2, o'.get S2 with
  | some t, some u => res (p t u) S2
  | _, _ => .stuck
theorem w_op2 : op2 p a b S = (a S).bind (kOp2 p b) := rfl
theorem kOp2_ap : kOp2 p b o S = (b S).bind (kOp2' p o) := rfl
theorem kOp2'_ap : kOp2' p o o' S = gOp2 p (o.get S) (o'.get S) S := rfl
theorem gOp2_ap : gOp2 p (some x) (some y) S = res (p x y) S := rfl
def gOp1 (q : T → Option Slot) (o : Option T) (S : Sta) : R Slot := match o with
  | some t => res (q t) S
  | _ => .stuck
def kOp1 (q : T → Option Slot) : Opd → Sta → R Slot := fun o S1 => gOp1 q (o.get S1) S1
theorem w_op1 : op1 q a S = (a S).bind (kOp1 q) := rfl
theorem kOp1_ap : kOp1 q o S = gOp1 q (o.get S) S := rfl
theorem gOp1_ap : gOp1 q (some x) S = res (q x) S := rfl
def gOpN (ql : List T → Option Slot) (o : Option (List T)) (S : Sta) : R Slot := match o with
  | some ts => res (ql ts) S
  | _ => .stuck
def kOpN (ql : List T → Option Slot) : List Opd → Sta → R Slot := fun os S1 => gOpN ql (gets S1 os) S1
theorem w_opN : opN ql r S = (r S).bind (kOpN ql) := rfl
theorem kOpN_ap : kOpN ql os S = gOpN ql (gets S os) S := rfl
theorem gOpN_ap : gOpN ql (some ts) S = res (ql ts) S := rfl
theorem w_res : res (some z) S = .ok z S := rfl
def kTst : Slot → Sta → R Bool := fun x S1 => match x with
  | .sh (.bl b) => .ok b S1
  | _ => .stuck
theorem w_tst : tst e S = (e S).bind kTst := rfl
theorem kTst_ap (b : Bool) : kTst (.sh (.bl b)) S = .ok b S := rfl
def gChn2 (p' : T → T → Option Slot) (o o' : Option T) (S : Sta) : R Slot := gOp2 p' o o' S
def kChn3 (p' : T → T → Option Slot) (o' : Opd) : Opd → Sta → R Slot := fun o'' S3 => gOp2 p' (o'.get S3) (o''.get S3) S3
def hChn (p' : T → T → Option Slot) (d : OF) (o' : Opd) (S2 : Sta) : Option Slot → R Slot := fun z => match z with
    | some (.sh (.bl true)) => (d S2).bind (kChn3 p' o')
    | some (.sh (.bl false)) => .ok (.sh (.bl false)) S2
    | _ => .stuck
def gChn (p p' : T → T → Option Slot) (d : OF) (o' : Opd) (x y : Option T) (S2 : Sta) : R Slot := match x, y with
  | some t, some u => hChn p' d o' S2 (p t u)
  | _, _ => .stuck
def kChn (p p' : T → T → Option Slot) (b d : OF) : Opd → Sta → R Slot := fun o S1 => (b S1).bind fun o' S2 => gChn p p' d o' (o.get S2) (o'.get S2) S2
def kChn2 (p p' : T → T → Option Slot) (d : OF) (o : Opd) : Opd → Sta → R Slot := fun o' S2 => gChn p p' d o' (o.get S2) (o'.get S2) S2
theorem w_chn : chn p p' a b d S = (a S).bind (kChn p p' b d) := by
  unfold chn kChn gChn hChn kChn3 gOp2
  rfl
theorem kChn_ap : kChn p p' b d o S = (b S).bind (kChn2 p p' d o) := rfl
theorem kChn2_ap : kChn2 p p' d o o' S = gChn p p' d o' (o.get S) (o'.get S) S := rfl
theorem gChn_ap : gChn p p' d o (some x) (some y) S = hChn p' d o S (p x y) := rfl
theorem hChn_t : hChn p' d o S (some (.sh (.bl true))) = (d S).bind (kChn3 p' o) := rfl
theorem hChn_f : hChn p' d o S (some (.sh (.bl false))) = .ok (.sh (.bl false)) S := rfl
theorem kChn3_ap : kChn3 p' o o' S = gOp2 p' (o.get S) (o'.get S) S := rfl
def kAndT (u : TF) : Bool → Sta → R Bool := fun k S1 => if k = true then u S1 else .ok false S1
def kOrT (u : TF) : Bool → Sta → R Bool := fun k S1 => if k = true then .ok true S1 else u S1
def kNotT : Bool → Sta → R Bool := fun k S1 => .ok (!k) S1
theorem w_andT : andT t u S = (t S).bind (kAndT u) := rfl
theorem kAndT_t : kAndT u true S = u S := rfl
theorem kAndT_f : kAndT u false S = .ok false S := rfl
theorem w_orT : orT t u S = (t S).bind (kOrT u) := rfl
theorem kOrT_t : kOrT u true S = .ok true S := rfl
theorem kOrT_f : kOrT u false S = u S := rfl
theorem w_notT : notT t S = (t S).bind kNotT := rfl
theorem kNotT_ap (b : Bool) : kNotT b S = .ok (!b) S := rfl
def kAndE (e' : EF) : Slot → Sta → R Slot := fun x S1 => match x with
  | .sh (.bl true) => e' S1
  | .sh (.bl false) => .ok (.sh (.bl false)) S1
  | _ => .stuck
def kOrE (e' : EF) : Slot → Sta → R Slot := fun x S1 => match x with
  | .sh (.bl false) => e' S1
  | .sh (.bl true) => .ok (.sh (.bl true)) S1
  | _ => .stuck
def kNotE : Slot → Sta → R Slot := fun x S1 => match x with
  | .sh (.bl k) => .ok (.sh (.bl (!k))) S1
  | _ => .stuck
theorem w_andE : andE e e' S = (e S).bind (kAndE e') := rfl
theorem kAndE_t : kAndE e' (.sh (.bl true)) S = e' S := rfl
theorem kAndE_f : kAndE e' (.sh (.bl false)) S = .ok (.sh (.bl false)) S := rfl
theorem w_orE : orE e e' S = (e S).bind (kOrE e') := rfl
theorem kOrE_t : kOrE e' (.sh (.bl true)) S = .ok (.sh (.bl true)) S := rfl
theorem kOrE_f : kOrE e' (.sh (.bl false)) S = e' S := rfl
theorem w_notE : notE e S = (e S).bind kNotE := rfl
theorem kNotE_ap (b : Bool) : kNotE (.sh (.bl b)) S = .ok (.sh (.bl (!b))) S := rfl
def kIte3 (e e' : EF) : Bool → Sta → R Slot := fun k S1 => if k = true then e S1 else e' S1
theorem w_ite3 : ite3 t e e' S = (t S).bind (kIte3 e e') := rfl
theorem kIte3_t : kIte3 e e' true S = e S := rfl
theorem kIte3_f : kIte3 e e' false S = e' S := rfl
def gLst (o : Option (List T)) (S : Sta) : R Slot := match o with
  | some ts => if ts.length ≤ sz then .ok (.ow (.lst ts)) S else .stuck
  | none => .stuck
def gTup (o : Option (List T)) (S : Sta) : R Slot := match o with
  | some ts => if ts.length ≤ sz then .ok (.sh (.tup ts)) S else .stuck
  | none => .stuck
def kLst : List Opd → Sta → R Slot := fun os S1 => gLst (vals os) S1
def kTup : List Opd → Sta → R Slot := fun os S1 => gTup (vals os) S1
theorem w_lstF : lstF r S = (r S).bind kLst := rfl
theorem kLst_ap : kLst os S = gLst (vals os) S := rfl
theorem w_tupF : tupF r S = (r S).bind kTup := rfl
theorem kTup_ap : kTup os S = gTup (vals os) S := rfl
theorem gLst_ap (h : ts.length ≤ 100000) : gLst (some ts) S = .ok (.ow (.lst ts)) S := if_pos (len_sz h)
theorem gTup_ap (h : ts.length ≤ 100000) : gTup (some ts) S = .ok (.sh (.tup ts)) S := if_pos (len_sz h)
def kSeq (g : SF) : Flow → Sta → R Flow := fun fl S1 => match fl with
  | .nx => g S1
  | .rt x => .ok (.rt x) S1
  | .bk => .ok .bk S1
  | .ct => .ok .ct S1
theorem w_seq : seqF f g S = (f S).bind (kSeq g) := rfl
theorem kSeq_nx : kSeq g .nx S = g S := rfl
theorem kSeq_rt : kSeq g (.rt z) S = .ok (.rt z) S := rfl
theorem kSeq_bk : kSeq g .bk S = .ok .bk S := rfl
theorem kSeq_ct : kSeq g .ct S = .ok .ct S := rfl
theorem w_nxF : nxF S = .ok .nx S := rfl
theorem w_bkF : bkF S = .ok .bk S := rfl
theorem w_ctF : ctF S = .ok .ct S := rfl
def kRet : Slot → Sta → R Flow := fun x S1 => .ok (.rt x) S1
theorem w_retF : retF e S = (e S).bind kRet := rfl
theorem kRet_ap : kRet z S = .ok (.rt z) S := rfl
theorem w_retNF : retNF S = .ok (.rt (.sh .non)) S := rfl
def kDrop : Slot → Sta → R Flow := fun _ S1 => .ok .nx S1
theorem w_dropF : dropF e S = (e S).bind kDrop := rfl
theorem kDrop_ap : kDrop z S = .ok .nx S := rfl
def kIfF (f g : SF) : Bool → Sta → R Flow := fun k S1 => if k = true then f S1 else g S1
theorem w_ifF : ifF t f g S = (t S).bind (kIfF f g) := rfl
theorem kIfF_t : kIfF f g true S = f S := rfl
theorem kIfF_f : kIfF f g false S = g S := rfl
def kSet (i : Nat) : Slot → Sta → R Flow := fun x S1 => if i < S1.lo.length then .ok .nx (S1.put i x) else .stuck
theorem w_setF : setF i e S = (e S).bind (kSet i) := rfl
theorem kSet_ap (l gh : List Slot) (nb : Nib) : kSet i z ⟨l, gh, nb⟩ = if i < l.length then .ok .nx ⟨l.set i z, gh, nb⟩ else .stuck := rfl
def gAsg (o : Option Sta) : R Flow := match o with
  | some S2 => .ok .nx S2
  | none => .stuck
def kAsg (tg : Tg) : Opd → Sta → R Flow := fun o S1 => match o with
  | .val t => gAsg (tg.put t S1)
  | _ => .stuck
theorem w_asgF : asgF tg a S = (a S).bind (kAsg tg) := rfl
theorem kAsg_ap : kAsg tg (.val x) S = gAsg (tg.put x S) := rfl
theorem gAsg_ap : gAsg (some S) = .ok .nx S := rfl
def kFor (tg : Tg) (f : SF) : List T → Sta → R Flow := fun ts S1 => forL tg f ts S1
theorem w_forF : forF it tg f S = (it S).bind (kFor tg f) := rfl
theorem kFor_ap : kFor tg f ts S = forL tg f ts S := rfl
def kForL (tg : Tg) (f : SF) (ts : List T) : Flow → Sta → R Flow := fun fl S2 => match fl with
      | .nx => forL tg f ts S2
      | .ct => forL tg f ts S2
      | .bk => .ok .nx S2
      | .rt x => .ok (.rt x) S2
def gForL (tg : Tg) (f : SF) (ts : List T) (o : Option Sta) : R Flow := match o with
    | none => .stuck
    | some S1 => (f S1).bind (kForL tg f ts)
theorem w_forL : forL tg f (x :: ts) S = gForL tg f ts (tg.put x S) := rfl
theorem w_forL0 : forL tg f [] S = .ok .nx S := rfl
theorem gForL_ap : gForL tg f ts (some S) = (f S).bind (kForL tg f ts) := rfl
theorem kForL_nx : kForL tg f ts .nx S = forL tg f ts S := rfl
theorem kForL_ct : kForL tg f ts .ct S = forL tg f ts S := rfl
theorem kForL_bk : kForL tg f ts .bk S = .ok .nx S := rfl
theorem kForL_rt : kForL tg f ts (.rt z) S = .ok (.rt z) S := rfl
def gFR (S1 : Sta) (o : FR) : R Slot := match o with
    | .ok x n => .ok x { S1 with nb := n }
    | .exc e n => .exc e { S1 with nb := n }
    | .stuck => .stuck
def gCall (np : Nat) (fn : Fn) (o : Option (List T)) (S1 : Sta) : R Slot := match o with
  | some ts => if ts.length = np then gFR S1 (fn ts S1.nb) else .stuck
  | none => .stuck
def kCall (np : Nat) (fn : Fn) : List Opd → Sta → R Slot := fun os S1 => gCall np fn (vals os) S1
theorem w_callF : callF np fn r S = (r S).bind (kCall np fn) := rfl
theorem kCall_ap : kCall np fn os S = gCall np fn (vals os) S := rfl
theorem gCall_ap (l gh : List Slot) (nb : Nib) (h : ts.length = np) : gCall np fn (some ts) ⟨l, gh, nb⟩ = gFR ⟨l, gh, nb⟩ (fn ts nb) := if_pos h
theorem gFR_ok (l gh : List Slot) (nb nb' : Nib) : gFR ⟨l, gh, nb⟩ (.ok z nb') = .ok z ⟨l, gh, nb'⟩ := rfl
theorem gFR_exc (l gh : List Slot) (nb nb' : Nib) (ex : Ex) : gFR ⟨l, gh, nb⟩ (.exc ex nb') = .exc ex ⟨l, gh, nb'⟩ := rfl
def gSeqI (o : Opd) (S1 : Sta) : R (List T) := match o with
  | .val (.lst ts) => .ok ts S1
  | .val (.tup ts) => .ok ts S1
  | _ => .stuck
def kSeqI : Opd → Sta → R (List T) := gSeqI
theorem w_seqI : seqI a S = (a S).bind kSeqI := rfl
theorem kSeqI_l : kSeqI (.val (.lst ts)) S = .ok ts S := rfl
theorem kSeqI_t : kSeqI (.val (.tup ts)) S = .ok ts S := rfl
def kEnumI : Opd → Sta → R (List T) := fun o S1 => match o with
  | .val (.lst ts) => .ok (enumT 0 ts) S1
  | .val (.tup ts) => .ok (enumT 0 ts) S1
  | _ => .stuck
theorem w_enumI : enumI a S = (a S).bind kEnumI := rfl
theorem kEnumI_l : kEnumI (.val (.lst ts)) S = .ok (enumT 0 ts) S := rfl
theorem kEnumI_t : kEnumI (.val (.tup ts)) S = .ok (enumT 0 ts) S := rfl
def kZip (b : OF) : Opd → Sta → R (List T) := fun o S1 => (b S1).bind fun o' S2 => match o, o' with
  | .val (.lst ts), .val (.lst us) => .ok (zipT ts us) S2
  | .val (.tup ts), .val (.tup us) => .ok (zipT ts us) S2
  | _, _ => .stuck
def kZip2 (o : Opd) : Opd → Sta → R (List T) := fun o' S2 => match o, o' with
  | .val (.lst ts), .val (.lst us) => .ok (zipT ts us) S2
  | .val (.tup ts), .val (.tup us) => .ok (zipT ts us) S2
  | _, _ => .stuck
theorem w_zipI : zipI a b S = (a S).bind (kZip b) := rfl
theorem kZip_ap : kZip b o S = (b S).bind (kZip2 o) := rfl
theorem kZip2_l : kZip2 (.val (.lst ts)) (.val (.lst us)) S = .ok (zipT ts us) S := rfl
theorem kZip2_t : kZip2 (.val (.tup ts)) (.val (.tup us)) S = .ok (zipT ts us) S := rfl
def kRng : Opd → Sta → R (List T) := fun o S1 => match o with
  | .val (.int n) => if -(2 ^ 62) ≤ n ∧ n < 2 ^ 62 then .ok (rgT 0 n) S1 else .stuck
  | _ => .stuck
theorem w_rngI1 : rngI1 a S = (a S).bind kRng := rfl
theorem kRng_n (h : n ≤ 1000000) : kRng (.val (.int (n : Int))) S = .ok (tn (List.range n)) S := by
  unfold kRng
  dsimp only
  rw [if_pos ⟨by omega, by omega⟩, rg_tn]
theorem w_yesT : yesT S = .ok true S := rfl
end
section
variable (l : List Slot) (gh : List Slot) (nb : Nib) (i : Nat) (t : T)
def gVar (i : Nat) (s : Option Slot) (S : Sta) : R Opd := match s with
  | some (.sh t) => .ok (.val t) S
  | some (.ow _) => .ok (.pl i) S
  | _ => .stuck
def gVarE (i : Nat) (s : Option Slot) (S : Sta) : R Slot := match s with
  | some (.sh t) => .ok (.sh t) S
  | some (.ow t) => .ok (.sh t) (S.put i (.sh t))
  | _ => .stuck
def gVarR (i : Nat) (s : Option Slot) (S : Sta) : R Slot := match s with
  | some (.sh t) => .ok (.sh t) S
  | some (.ow t) => .ok (.ow t) (S.put i .no)
  | _ => .stuck
theorem w_var : var i ⟨l, gh, nb⟩ = gVar i l[i]? ⟨l, gh, nb⟩ := rfl
theorem w_varE : varE i ⟨l, gh, nb⟩ = gVarE i l[i]? ⟨l, gh, nb⟩ := rfl
theorem w_varR : varR i ⟨l, gh, nb⟩ = gVarR i l[i]? ⟨l, gh, nb⟩ := rfl
theorem gVar_sh (S : Sta) : gVar i (some (.sh t)) S = .ok (.val t) S := rfl
theorem gVar_ow (S : Sta) : gVar i (some (.ow t)) S = .ok (.pl i) S := rfl
theorem gVarE_sh (S : Sta) : gVarE i (some (.sh t)) S = .ok (.sh t) S := rfl
theorem gVarE_ow : gVarE i (some (.ow t)) ⟨l, gh, nb⟩ = .ok (.sh t) ⟨l.set i (.sh t), gh, nb⟩ := rfl
theorem gVarR_sh (S : Sta) : gVarR i (some (.sh t)) S = .ok (.sh t) S := rfl
theorem gVarR_ow : gVarR i (some (.ow t)) ⟨l, gh, nb⟩ = .ok (.ow t) ⟨l.set i .no, gh, nb⟩ := rfl
theorem get_pl : (Opd.pl i).get ⟨l, gh, nb⟩ = (l[i]?).bind Slot.tree := rfl
theorem get_val (S : Sta) : (Opd.val t).get S = some t := rfl
theorem tree_sh : (some (Slot.sh t)).bind Slot.tree = some t := rfl
theorem tree_ow : (some (Slot.ow t)).bind Slot.tree = some t := rfl
def gMeth (i : Nat) (p : List T → List T → Option (List T × T)) (us : Option (List T)) (s : Option Slot) (S1 : Sta) : R Slot := match us, s with
    | some us, some (.ow (.lst ts)) => match p ts us with
      | some (ts', z) => .ok (.sh z) (S1.put i (.ow (.lst ts')))
      | none => .stuck
    | _, _ => .stuck
def kMeth (i : Nat) (p : List T → List T → Option (List T × T)) : List Opd → Sta → R Slot := fun os S1 => gMeth i p (vals os) S1.lo[i]? S1
def gMeth0 (i : Nat) (p : List T → List T → Option (List T × T)) (fa : AF) (S : Sta) (s : Option Slot) : R Slot := match s with
  | some (.ow (.lst _)) => (fa S).bind (kMeth i p)
  | _ => .stuck
theorem w_methF (p : List T → List T → Option (List T × T)) (fa : AF) : methF i p fa ⟨l, gh, nb⟩ = gMeth0 i p fa ⟨l, gh, nb⟩ l[i]? := by
  rw [methF_ap]
  dsimp only
  generalize l[i]? = s
  match s with
  | none => rfl
  | some .no => rfl
  | some .fu => rfl
  | some (.sh _) => rfl
  | some (.ow (.lst _)) => rfl
  | some (.ow .non) => rfl
  | some (.ow (.bl _)) => rfl
  | some (.ow (.int _)) => rfl
  | some (.ow (.str _)) => rfl
  | some (.ow (.tup _)) => rfl
  | some (.ow (.wtp _)) => rfl
  | some (.ow (.dic _)) => rfl
  | some (.ow (.obj _ _)) => rfl
  | some (.ow (.exo _ _)) => rfl
  | some (.ow (.fn _)) => rfl
  | some (.ow .nib) => rfl
theorem gMeth0_ap (p : List T → List T → Option (List T × T)) (fa : AF) (ts : List T) : gMeth0 i p fa ⟨l, gh, nb⟩ (some (.ow (.lst ts))) = (fa ⟨l, gh, nb⟩).bind (kMeth i p) := rfl
theorem kMeth_ap (p : List T → List T → Option (List T × T)) (os : List Opd) : kMeth i p os ⟨l, gh, nb⟩ = gMeth i p (vals os) l[i]? ⟨l, gh, nb⟩ := rfl
def hMeth (i : Nat) (S1 : Sta) (o : Option (List T × T)) : R Slot := match o with
      | some (ts', z) => .ok (.sh z) (S1.put i (.ow (.lst ts')))
      | none => .stuck
theorem gMeth_ap (p : List T → List T → Option (List T × T)) (us ts : List T) (S : Sta) : gMeth i p (some us) (some (.ow (.lst ts))) S = hMeth i S (p ts us) := rfl
theorem hMeth_ap (ts : List T) (z : T) : hMeth i ⟨l, gh, nb⟩ (some (ts, z)) = .ok (.sh z) ⟨l.set i (.ow (.lst ts)), gh, nb⟩ := rfl
def gSetI (i : Nat) (v x : Opd) (s : Option Slot) (S2 : Sta) : R Flow := match v, x, s with
    | .val t, .val (.int k), some (.ow (.lst ts)) => match ixN ts.length k with
      | some j => .ok .nx (S2.put i (.ow (.lst (ts.set j t))))
      | none => .stuck
    | _, _, _ => .stuck
def kSetI2 (i : Nat) (v : Opd) : Opd → Sta → R Flow := fun o' S2 => gSetI i v o' S2.lo[i]? S2
def gSetI0 (i : Nat) (fi : OF) (v : Opd) (s : Option Slot) (S1 : Sta) : R Flow := match s with
  | some (.ow (.lst _)) => (fi S1).bind (kSetI2 i v)
  | _ => .stuck
def kSetI (i : Nat) (fi : OF) : Opd → Sta → R Flow := fun o S1 => gSetI0 i fi o S1.lo[i]? S1
theorem w_setIF (fv fi : OF) (S : Sta) : setIF i fv fi S = (fv S).bind (kSetI i fi) := by
  unfold setIF kSetI gSetI0 kSetI2 gSetI
  rfl
theorem kSetI_ap (fi : OF) (o : Opd) : kSetI i fi o ⟨l, gh, nb⟩ = gSetI0 i fi o l[i]? ⟨l, gh, nb⟩ := rfl
theorem gSetI0_ap (fi : OF) (o : Opd) (ts : List T) (S : Sta) : gSetI0 i fi o (some (.ow (.lst ts))) S = (fi S).bind (kSetI2 i o) := rfl
theorem kSetI2_ap (o o' : Opd) : kSetI2 i o o' ⟨l, gh, nb⟩ = gSetI i o o' l[i]? ⟨l, gh, nb⟩ := rfl
def hSetI (i : Nat) (t : T) (ts : List T) (S2 : Sta) (o : Option Nat) : R Flow := match o with
      | some j => .ok .nx (S2.put i (.ow (.lst (ts.set j t))))
      | none => .stuck
theorem gSetI_ap (k : Int) (ts : List T) (S : Sta) : gSetI i (.val t) (.val (.int k)) (some (.ow (.lst ts))) S = hSetI i t ts S (ixN ts.length k) := rfl
theorem hSetI_ap (ts : List T) (j : Nat) : hSetI i t ts ⟨l, gh, nb⟩ (some j) = .ok .nx ⟨l.set i (.ow (.lst (ts.set j t))), gh, nb⟩ := rfl
def gPar2 (i j : Nat) (y : Slot) (o : Option (Slot × Sta)) : R Flow := match o with
    | some (x', S3) => if i < S3.lo.length ∧ j < S3.lo.length then .ok .nx ((S3.put j y).put i x') else .stuck
    | none => .stuck
def gParX (e : Ex) (o : Option (Slot × Sta)) : R Flow := match o with
    | some (_, S3) => .exc e S3
    | none => .stuck
def gPar (i j : Nat) (r : R Slot) : R Flow := match r with
  | .ok y S2 => gPar2 i j y S2.popG
  | .exc e S2 => gParX e S2.popG
  | .stuck => .stuck
def kPar (i j : Nat) (g : EF) : Slot → Sta → R Flow := fun x S1 => gPar i j (g (S1.push x))
theorem w_parF (j : Nat) (f g : EF) (S : Sta) : parF i j f g S = (f S).bind (kPar i j g) := by
  unfold parF kPar gPar gPar2 gParX
  rfl
theorem kPar_ap (j : Nat) (g : EF) (x : Slot) : kPar i j g x ⟨l, gh, nb⟩ = gPar i j (g ⟨l, gh ++ [x], nb⟩) := rfl
theorem gPar_ap (j : Nat) (y x : Slot) : gPar i j (.ok y ⟨l, gh ++ [x], nb⟩) = if i < l.length ∧ j < l.length then .ok .nx ⟨(l.set j y).set i x, gh, nb⟩ else .stuck := by
  show gPar2 i j y (Sta.popG ⟨l, gh ++ [x], nb⟩) = _
  rw [popG_snoc]; rfl
theorem gPar_exc (j : Nat) (e : Ex) (x : Slot) : gPar i j (.exc e ⟨l, gh ++ [x], nb⟩) = .exc e ⟨l, gh, nb⟩ := by
  show gParX e (Sta.popG ⟨l, gh ++ [x], nb⟩) = _
  rw [popG_snoc]; rfl
theorem gPar_exc1 (j : Nat) (e : Ex) (x : Slot) : gPar i j (.exc e ⟨l, [x], nb⟩) = .exc e ⟨l, [], nb⟩ := gPar_exc l [] nb i j e x
theorem gPar_one (j : Nat) (y x : Slot) : gPar i j (.ok y ⟨l, [x], nb⟩) = if i < l.length ∧ j < l.length then .ok .nx ⟨(l.set j y).set i x, [], nb⟩ else .stuck := gPar_ap l [] nb i j y x
theorem nil_app (x : Slot) : ([] : List Slot) ++ [x] = [x] := rfl
end
end TL

end
section
set_option Elab.async false
set_option linter.all false
set_option maxRecDepth 100000
set_option autoImplicit false
set_option maxHeartbeats 2000000
/-! TL16: raise, try, errors as values -/
open PySem PySem.Spec PyProof.Rows L2
namespace TL
theorem exv_ok {P : Program} {w : World} {H : Hp} {h : Heap} {a C d : Addr} {oe : Obj} {vs : Array Value} (e : h.get? a = some oe) (z : Zc (.ref C) (some d) oe) (hd : oe.data = .fields vs) : ObjOk P w H h a (EXV C d a) :=
  ⟨⟨oe, vs, e, z, hd⟩, ⟨oe, e⟩, fun _ _ ⟨o, v, q, r⟩ k => ⟨o, v, k o q, r⟩⟩
section
variable {X : Cx} {pins : List (Addr × Obj)} {σ : L2.St} {H : Hp} {s : Shared}
/-- a standing object is tracked from now on -/
theorem inv_track {a : Addr} {o : HO} (I : Inv X pins σ H s) (na : H a = none) (n0 : X.s_0.heap.get? a = none) (nL : X.env.locals ≠ a) (nC : ∀ y c, X.env.cells.lookup y = some c → c ≠ a) (nP : ∀ p ∈ X.pn ++ pins, p.1 ≠ a)
    (new : ObjOk X.prog X.w (upd H a o) s.heap a o) : Inv X pins σ (upd H a o) s := by
  have ne0 : ∀ b u, X.s_0.heap.get? b = some u → b ≠ a := fun b u e z => by
    rw [z, n0] at e
    cases e
  refine ⟨I.ok, I.os, I.bare, ⟨I.base.keep, I.base.slot, fun b u e n hq => ?_, I.base.there, fun b xs e => ?_, fun b u xs e => ?_, fun b ps e => ?_⟩, I.loc, I.cell, ?_, fun x c e => ?_, fun p hp => ?_, HOk.laidN I.hok (fun _ _ q => q) na new, I.len⟩
  · rw [upd_ne (ne0 b u e)]
    exact I.base.free b u e n hq
  · have q := I.base.tups b xs e
    rw [upd_ne (ne_of_none q na)]
    exact q
  · have q := I.base.frzs b u xs e
    rw [upd_ne (ne_of_none q na)]
    exact q
  · obtain ⟨m, q⟩ := I.base.tbls b ps e
    exact ⟨m, by rw [upd_ne (ne_of_none q na)]; exact q⟩
  · rw [upd_ne nL]
    exact I.free
  · rw [upd_ne (nC x c e)]
    exact I.freeC x c e
  · obtain ⟨e, n, ne, nf, d⟩ := I.pin p hp
    exact ⟨e, by rw [upd_ne (nP p hp)]; exact n, ne, nf, d⟩
def wAsT (K : PySem.W.Frag) (c : Value) (i : Nat) (ts : TS) (Wout : WX) (D : Ends) : WX := fun cls d σ H =>
  ∃ b, PySem.W.exmOne K cls c = some b ∧ (b = true → ∃ C dd, cls = .ref C ∧ d = some dd ∧ ∀ a, H a = none → ts { nx := fun σ' H' => D.nx (σ'.set i none) H', rt := D.rt, bk := fun σ' H' => D.bk (σ'.set i none) H', ct := fun σ' H' => D.ct (σ'.set i none) H' } (σ.set i (some (.ref a))) (upd H a (EXV C dd a))) ∧
    (b = false → Wout cls d σ H)
variable {x n : Str} {c : Value} {i : Nat} {body suite : List Stmt} {b₀ : Stmt} {np pos pos' : Pos} {tb : WX → TS} {ts : TS} {Wout : WX}
/-- try: .. except x as n: suite, the error tracked from the suite on -/
theorem ps_try_asT (hs : X.stack = X.env :: X.outer) (hf : X.env.frame = some X.env.locals) (hex : X.ex = []) (hN : X.N.Nodup) (hi : X.N[i]? = some n) (hln : X.env.kindOf n = some .local) (hc : Names X x c) (tk : Takes X Wout)
    (hb : ∀ (W : WX) (pn : List (Addr × Obj)) (xe : Value → Shared → Prop), Takes (X.tr pn xe) W → PassesOwn (model X.prog X.w) X.A X.env xe → PSs (X.tr pn xe) body (tb W))
    (hsu : ∀ (a : Addr) (pn : List (Addr × Obj)), PSs (X.suite a pn) (b₀ :: suite) ts) :
    PS X (.Try body [.ExceptHandler (some (.Name x np)) (some n) (b₀ :: suite) pos'] [] [] pos) (fun D σ H => tb (wAsT X.K c i ts Wout D) D σ H) := by
  refine ⟨fun pins s σ H D I h => ?_⟩
  have ok := I.ok
  have hfr : X.A.frames = some (X.env :: X.outer) := by rw [ok.frames, hs]
  have hloc : Loc X.env.scope n := .inl hln
  refine wpAny_Try_except ?_
  refine wpAny_mono ((hb (wAsT X.K c i ts Wout D) (X.pn ++ pins) (fun e s₁ => wpAny (model X.prog X.w) X.A (noteFrame e X.env) (fun _ s₂ => wpAny (model X.prog X.w) X.A (setFlight e none) (fun _ s₃ =>
    wpAny (model X.prog X.w) X.A (handleBy e X.env [.ExceptHandler (some (.Name x np)) (some n) (b₀ :: suite) pos']) (SP X pins D) X.xe s₃) X.xe s₂) X.xe s₁) (fun u s' xx => ?_) PassesOwn.looking).run [] s σ H D (I.toTry _) h) (fun f s1 hsp => ?_) (fun e s1 he => he)
  · -- the catch
    obtain ⟨a, B, sI, pins', σ', H', cls, d, rfl, J', nb, up, sky, na, os, ag, b, hb1, hyes, hno⟩ := xx
    have J : Inv X pins σ' H' sI := J'.ofTry ok
    have sky' : Sky B (X.env :: X.outer) a (Zc cls d) X.env.locals s'.heap := by rw [← hs]; exact sky
    show wpAny (model X.prog X.w) X.A (noteFrame (.ref a) X.env) _ _ _
    refine Sky.land Zc.steady hfr hf sky' fun h3 fl3 up3 => ?_
    have J3 : Inv X pins σ' H' { s' with heap := h3 } := J.landed nb fl3.1 (up.trans up3) os ag
    obtain ⟨oe3, vs3, he3, hz3, hd3⟩ := fl3.there
    have notFr : ∀ {h : Heap} {o : Obj} {vs : Array Value}, h.FunFrames B (X.env :: X.outer) → h.get? a = some o → o.data = .fields vs → a ∉ frs (X.env :: X.outer) := fun {h o vs} ff e dd hm => by
      obtain ⟨_, o', e', hnf⟩ := ff.mem hm
      rw [e] at e'; cases e'
      exact hnf _ dd
    have nfr := notFr fl3.2.2.1 he3 hd3
    have nL : a ≠ X.env.locals := fun z => nfr (List.mem_filterMap.mpr ⟨X.env, List.mem_cons_self, by rw [hf, z]⟩)
    have nF : a ∉ X.fs := fun hm => by
      obtain ⟨e, he, q⟩ := List.mem_filterMap.mp hm
      exact nfr (List.mem_filterMap.mpr ⟨e, List.mem_cons_of_mem _ he, q⟩)
    have S3 := J3.suite he3 hd3 na nL nF
    have nfr' : a ∉ frs X.stack := by rw [hs]; exact nfr
    have nI : sI.heap.get? a = none := by
      cases e : sI.heap.get? a with
      | none => rfl
      | some o =>
        have := nb a o e nfr'
        rw [fl3.2.1] at this
        cases this
    have n0 : X.s_0.heap.get? a = none := by
      cases e : X.s_0.heap.get? a with
      | none => rfl
      | some o =>
        obtain ⟨o', q⟩ := J.base.there a o e (by rw [hex]; exact fun z => nomatch z)
        rw [nI] at q
        cases q
    refine wpAny_handleBy_cons (codeAny_handlers_test ?_) (by intro q; cases q)
    have LT : PySem.W.Looks (model X.prog X.w) h3 (typeOf (.ref a)) cls := fun A Q E s k q => wpAny_typeOf_ref (k _ _ he3) (by rw [hz3.1]; exact q)
    have LM := PySem.W.exm_one (M := model X.prog X.w) (J3.kIn) LT hb1
    have test : ∀ {Q : Value → Shared → Prop} {E : Value → Shared → Prop}, Q c { s' with heap := h3 } → wpAny (model X.prog X.w) (X.A.mark (some (.ref a))) (eval (.Name x np) X.env) Q E { s' with heap := h3 } := fun {Q E} q => by
      obtain ⟨hg, hdbg, hm | ⟨hm, hv, hnn⟩⟩ := hc
      · exact ld_glob (X := X.suite a ((a, oe3) :: (X.pn ++ pins))) S3 hg hm q hdbg
      · exact ld_blt (X := X.suite a ((a, oe3) :: (X.pn ++ pins))) S3 hg hm hv q hnn hdbg
    refine test (LM.here ?_)
    cases b with
    | true =>
      refine codeAny_handlers_suite_as ?_
      refine HandSPX.lands_againZ fl3 fun h4 fl4 up4 => ?_
      have J4 : Inv X pins σ' H' { s' with heap := h4 } := J.landed nb fl4.1 ((up.trans up3).trans up4) os ag
      obtain ⟨oe4, vs4, he4, hz4, hd4⟩ := fl4.there
      obtain ⟨C, dd, ec, ed, hyes2⟩ := hyes rfl
      subst ec
      subst ed
      have T4 : Inv X pins σ' (upd H' a (EXV C dd a)) { s' with heap := h4 } := inv_track J4 na n0 (Ne.symm nL) (fun y c0 e z => by
          obtain ⟨v, o, ho, hdv⟩ := J4.cell y c0 e
          rw [z] at ho
          rw [show ({ s' with heap := h4 } : Shared).heap.get? a = h4.get? a from rfl, he4] at ho
          cases ho
          rw [hd4] at hdv
          cases hdv) (fun p hp z => by
          obtain ⟨e, _⟩ := J.pin p hp
          rw [z, nI] at e
          cases e) (exv_ok he4 hz4 hd4)
      have S4 : Inv (X.suite a (X.pn ++ pins)) [] σ' (upd H' a (EXV C dd a)) { s' with heap := h4 } :=
        ⟨T4.ok.suite _ _, T4.os, T4.bare, T4.base, T4.loc, T4.cell, T4.free, T4.freeC, fun p hp => T4.pin p (by rw [List.append_nil] at hp; exact hp), T4.hok, T4.len⟩
      refine store_ok (X := X.suite a (X.pn ++ pins)) (v := .ref a) S4 hN hi hloc rfl (fun s5 S5 => ?_) (.inr hln)
      refine wpAny_mono ((hsu a (X.pn ++ pins)).run [] s5 _ _ _ S5 (hyes2 a na)) (fun f s6 hsp => ?_) (fun _ _ z => False.elim z)
      have end_ : ∀ {σ6 : L2.St} {H6 : Hp} {Q : Shared → Prop}, Inv (X.suite a (X.pn ++ pins)) [] σ6 H6 s6 → (∀ s7, Inv X pins (σ6.set i none) H6 s7 → Q s7) →
          wpAny (model X.prog X.w) X.A (do bindName X.env n .none; unbindBehindTheSuite X.env n pos') (fun _ s7 => Q s7) X.xe s6 := fun {σ6 H6 Q} S6 hq =>
            gone_ok (X := X) (pins := pins) ⟨ok, S6.os, S6.bare, S6.base, S6.loc, S6.cell, S6.free, S6.freeC, fun p hp => S6.pin p (List.mem_append_left _ hp), S6.hok, S6.len⟩ hN hi hln hq
      cases f with
      | next =>
        obtain ⟨σ6, H6, S6, q6⟩ := hsp
        exact end_ S6 fun s7 J7 => ⟨_, _, J7, q6⟩
      | brk =>
        obtain ⟨σ6, H6, S6, q6⟩ := hsp
        exact end_ S6 fun s7 J7 => ⟨_, _, J7, q6⟩
      | cont =>
        obtain ⟨σ6, H6, S6, q6⟩ := hsp
        exact end_ S6 fun s7 J7 => ⟨_, _, J7, q6⟩
      | ret u =>
        obtain ⟨v6, σ6, H6, S6, r6, q6⟩ := hsp
        exact end_ S6 fun s7 J7 => ⟨_, _, _, J7, r6, q6⟩
    | false =>
      show wpAny _ X.A (handleBy (.ref a) X.env []) _ _ _
      refine wpAny_handleBy_nil ?_
      obtain ⟨k1, k2, k3, oe, vs, T, oT, ts', he, hz, hd, h1, hr⟩ := id fl3
      unfold PySem.passOn
      refine wpAny_bind (wpAny_field he hd h1 ?_)
      rw [if_neg (show ¬ ((Value.ref T == Value.none) = true) from by simp)]
      have fin : wpAny (model X.prog X.w) X.A (setFlight (.ref a) X.env.frame) (fun _ s4 => wpAny (model X.prog X.w) X.A (throw (.ref a) : Sem PySem.Flow) (SP X pins D) X.xe s4) X.xe { s' with heap := h3 } := by
        rw [hf]
        refine HandSPX.setFlight_upZ fl3 fun h4 hh4 up4 => wpAny_throw (tk _ _ ?_)
        exact ⟨a, B, sI, pins, σ', H', cls, d, rfl, J, nb, (up.trans up3).trans up4, .inr (.inr (by rw [hs]; exact hh4)), na, os, ag, hno rfl⟩
      first
        | exact wpAny_bind (wpAny_pure (wpAny_bind fin))
        | exact wpAny_bind fin
  · cases f with
    | next =>
      obtain ⟨σ', H', J', q⟩ := hsp
      exact wpAny_execs_nil ⟨σ', H', J'.ofTry ok, q⟩
    | brk =>
      obtain ⟨σ', H', J', q⟩ := hsp
      exact ⟨σ', H', J'.ofTry ok, q⟩
    | cont =>
      obtain ⟨σ', H', J', q⟩ := hsp
      exact ⟨σ', H', J'.ofTry ok, q⟩
    | ret u =>
      obtain ⟨v, σ', H', J', r, q⟩ := hsp
      exact ⟨v, σ', H', J'.ofTry ok, r, q⟩
end
end TL

end
section
set_option Elab.async false
set_option linter.all false
set_option maxRecDepth 100000
set_option autoImplicit false
set_option maxHeartbeats 2000000
/-! TL16b: readings of raise, try; isinstance and fields of errors -/
open PySem PySem.Spec PyProof.Rows L2
namespace TL
section
variable {c : Cfg} {F F' H H' : Hp} {S : Sta} {σ τ : List (Option V)} {i : Nat} {o : Option V}
/-- what is new in the heap alone -/
theorem AbsX.st (A : AbsX c F S σ τ H) (st : Same H H') : AbsX c F S σ τ H' := by
  obtain ⟨cc, n1, n2⟩ := A.a.nib
  refine ⟨⟨A.a.fh.trans st, A.a.fn, ⟨cc, st _ _ n1, n2⟩, fun a w q n0 n => st _ _ (A.a.keep a w q n0 n), A.a.fre, A.a.ext.st st, A.a.len, fun i s q h1 h2 => ?_, A.a.ds⟩, A.l⟩
  have h := A.a.sl i s q h1 h2
  cases s with
  | no => trivial
  | fu => exact h
  | sh t => exact h
  | ow t1 =>
    obtain ⟨a, e, ⟨w, hw, mk⟩, r⟩ := h
    exact ⟨a, e, ⟨w, st _ _ hw, mk⟩, r⟩
theorem AbsX.clear (A : AbsX c F S σ τ H) : AbsX c F (S.put i .no) (σ.set i o) τ H := by
  have l : (S.put i .no).lo.length = (σ.set i o).length := by show (S.lo.set i .no).length = _; rw [List.length_set, List.length_set, A.l]
  refine ⟨A.a.mix rfl ?_ fun j s q h1 h2 => ?_, l⟩
  · show ((S.put i .no).lo ++ S.gh).length = _
    rw [List.length_append, List.length_append, l, A.gl]
  · have h1 : (S.lo.set i .no ++ S.gh)[j]? = some s := h1
    by_cases hj : j < S.lo.length
    · rw [List.getElem?_append_left (by rw [List.length_set]; exact hj)] at h1
      rw [List.getElem?_append_left (by rw [List.length_set, ← A.l]; exact hj)] at h2
      by_cases e : i = j
      · subst e
        rw [List.getElem?_set_self hj] at h1
        cases h1
        exact .inl ⟨(fun t z => nomatch z), trivial⟩
      · rw [List.getElem?_set_ne e] at h1 h2
        refine .inr ⟨?_, ?_⟩
        · show (S.lo ++ S.gh)[j]? = _
          rw [List.getElem?_append_left hj]; exact h1
        · rw [List.getElem?_append_left (by rw [← A.l]; exact hj)]; exact h2
    · rw [List.getElem?_append_right (by rw [List.length_set]; omega), List.length_set] at h1
      rw [List.getElem?_append_right (by rw [List.length_set, ← A.l]; omega), List.length_set] at h2
      refine .inr ⟨?_, ?_⟩
      · show (S.lo ++ S.gh)[j]? = _
        rw [List.getElem?_append_right (by omega)]; exact h1
      · rw [List.getElem?_append_right (by rw [← A.l]; omega)]; exact h2
theorem AbsX.cfg {c' : Cfg} (A : AbsX c F S σ τ H) (hg : c'.g = c.g) (hb : c'.B = c.B) : AbsX c' F S σ τ H := by
  refine ⟨?_, A.l⟩
  rw [hg, hb]
  exact A.a
/-- an error caught: its dict and itself are frozen -/
theorem AbsX.caught {e : Ex} {C d a : Addr} (A : AbsX c F S σ τ H) (r : ExRel c.g c.B.H F H e (.ref C) (some d)) (na : H a = none) : ∃ F', Same F F' ∧ AbsX c F' (S.push (.sh (.exo e.cls e.fs))) σ (τ ++ [some (.ref a)]) (upd H a (EXV C d a)) := by
  obtain ⟨h1, d', fs, h2, h3, h4, h5⟩ := r
  cases h2
  have hC : C = c.g.ca e.cls := by cases h1; rfl
  subst hC
  have grown : ∃ F1, Same F F1 ∧ F1 d = some (.xd fs) ∧ AbsX c F1 S σ τ H := by
    cases hd : F d with
    | some u =>
      have := A.a.fh _ _ hd
      rw [h4] at this
      cases this
      exact ⟨F, Same.refl F, hd, A⟩
    | none =>
      have s1 : Same F (upd F d (.xd fs)) := fun b w q => by rw [upd_ne (ne_of_none q hd)]; exact q
      have s2 : Same (upd F d (.xd fs)) H := fun b w q => by
        by_cases hb : b = d
        · subst hb; rw [upd_same] at q; cases q; exact h4
        · rw [upd_ne hb] at q; exact A.a.fh b w q
      obtain ⟨cc, n1, n2⟩ := A.a.nib
      have nd : d ≠ c.g.nb := fun z => by
        rw [← z, h4] at n1
        cases n1
      refine ⟨_, s1, upd_same, ?_, A.l⟩
      refine A.a.grow s1 s2 (by rw [upd_ne (Ne.symm nd)]; exact A.a.fn) (nt_upd A.a.ext.nt fun _ z => nomatch z) (fun b q1 q2 => ?_) fun i t b g1 g2 => ?_
      · by_cases hb : b = d
        · subst hb; exact h3
        · rw [upd_ne hb] at q2; exact absurd q1 q2
      · obtain ⟨b', e', ⟨w, hw, mk⟩, f, _⟩ := A.a.sl i _ _ g1 g2
        cases e'
        rw [upd_ne (fun z => by rw [z, h4] at hw; cases hw; cases mk)]
        exact f
  obtain ⟨F1, s1, hd, A1⟩ := grown
  obtain ⟨F2, s2, A2⟩ := A1.a.newT (u := EXV (c.g.ca e.cls) d a) (t := .exo e.cls e.fs) (fun F' s q => .exo q (s _ _ hd) ((h5.mono s1).mono s)) (fun _ z => by unfold EXV at z; cases z) na
  exact ⟨F2, s1.trans s2, .mk' A2 A1.l⟩
end
/-- try: b except .. as (slot i): h -/
def tryF (ctch : Nat → Option Bool) (i : Nat) (b h : SF) : SF := fun S => match b S with
  | .ok fl S1 => .ok fl S1
  | .exc e S1 => match ctch e.cls with
    | some true => if i < S1.lo.length then match h (S1.put i (.sh (.exo e.cls e.fs))) with
        | .ok fl S2 => .ok fl (S2.put i .no)
        | _ => .stuck
      else .stuck
    | some false => .exc e S1
    | none => .stuck
  | .stuck => .stuck
section
variable {X : Cx} {c : Cfg} {x n : Str} {cv : Value} {i : Nat} {body suite : List Stmt} {b₀ : Stmt} {np pos pos' : Pos} {b h : SF} {ctch : Nat → Option Bool}
def Cfg.tr (c : Cfg) (W : WX) : Cfg := { c with E := fun σ cls d H => W cls d σ H }
theorem ds_try (hs : X.stack = X.env :: X.outer) (hf : X.env.frame = some X.env.locals) (hex : X.ex = []) (hN : X.N.Nodup) (hi : X.N[i]? = some n) (hln : X.env.kindOf n = some .local) (hc : Names X x cv)
    (hcat : ∀ k b, ctch k = some b → PySem.W.exmOne X.K (.ref (c.g.ca k)) cv = some b) (tk : Takes X (fun cls d σ H => c.E σ cls d H))
    (hb : ∀ (W : WX) (pn : List (Addr × Obj)) (xe : Value → Shared → Prop), Takes (X.tr pn xe) W → PassesOwn (model X.prog X.w) X.A X.env xe → PSs (X.tr pn xe) body (rdS (c.tr W) b))
    (hsu : ∀ (a : Addr) (pn : List (Addr × Obj)), PSs (X.suite a pn) (b₀ :: suite) (rdS c.c0 h)) :
    PS X (.Try body [.ExceptHandler (some (.Name x np)) (some n) (b₀ :: suite) pos'] [] [] pos) (rdS c (tryF ctch i b h)) := by
  refine ps_imp (ps_try_asT (tb := fun W => rdS (c.tr W) b) (ts := rdS c.c0 h) (Wout := fun cls d σ H => c.E σ cls d H) hs hf hex hN hi hln hc tk hb hsu) fun D σ H q => ?_
  obtain ⟨F, S, A, q⟩ := q
  refine ⟨F, S, A.cfg rfl rfl, ?_⟩
  unfold tryF at q
  cases e : b S with
  | ok fl S1 =>
    rw [e] at q
    intro H' F' s
    have q := q H' F' s
    cases fl with
    | nx => exact fun σ' A' => q σ' (A'.cfg rfl rfl)
    | rt x => exact fun v σ' A' => q v σ' (A'.cfg rfl rfl)
    | bk => exact fun σ' A' => q σ' (A'.cfg rfl rfl)
    | ct => exact fun σ' A' => q σ' (A'.cfg rfl rfl)
  | stuck => rw [e] at q; exact q.elim
  | exc ex S1 =>
    rw [e] at q
    dsimp only at q
    intro cls d σ1 H' F' s A1 er
    have A1 : AbsX c F' S1 σ1 [] H' := A1.cfg rfl rfl
    split at q
    · rename_i ec
      obtain ⟨g1, d', fs, g2, g3, g4, g5⟩ := id er
      refine ⟨true, by rw [g1]; exact hcat _ _ ec, fun _ => ⟨c.g.ca ex.cls, d', g1, g2, fun a na => ?_⟩, fun z => nomatch z⟩
      subst g1
      subst g2
      split at q
      · rename_i hi2
        obtain ⟨F2, s2, A2⟩ := A1.caught er na
        have A3 := A2.assign (i := i) (by rw [← A1.l]; exact hi2)
        refine ⟨F2, _, A3.cfg rfl rfl, ?_⟩
        split at q
        · rename_i fl S2 e2
          rw [e2]
          intro H3 F3 s3
          have q := q H3 F3 ((s.trans s2).trans s3)
          cases fl with
          | nx => exact fun σ' A' => q _ ((A'.cfg (c' := c) rfl rfl).clear)
          | rt x =>
            refine fun v σ' A' => q v (σ'.set i none) ?_
            have A4 : AbsX c F3 (S2.push x) σ' ([] ++ [some v]) H3 := A'.cfg rfl rfl
            have A5 := A4.clear (i := i) (o := none)
            exact A5
          | bk => exact fun σ' A' => q _ ((A'.cfg (c' := c) rfl rfl).clear)
          | ct => exact fun σ' A' => q _ ((A'.cfg (c' := c) rfl rfl).clear)
        · exact q.elim
      · exact q.elim
    · rename_i ec
      obtain ⟨g1, _⟩ := id er
      exact ⟨false, by rw [g1]; exact hcat _ _ ec, (fun z => nomatch z), fun _ => q cls d σ1 H' F' s A1 er⟩
    · exact q.elim
end

/-! ### raise C(e, ..) -/
/-- C's __init__ stores its parameters in the fields of these names -/
def spInit (K : PySem.W.Frag) (C : Addr) (fl : List Str) : Sp := fun vs H Q _ => ∃ (a : Addr) (ys : List V), vs = .ref a :: ys ∧ ys.length = fl.length ∧ H a = some (exo a C none) ∧
  ∀ (d : Addr) (H' : Hp), H d = none → d ≠ a → H' a = some (exo a C (some d)) → H' d = some (exd d (fl.zip ys).reverse) → (∀ b, b ≠ a → b ≠ d → H' b = H b) → Q .non H'
theorem init1_read {K : PySem.W.Frag} {C : Addr} {f : Str} {N : List Str} {vs : List V} {H : Hp} {Q : VK} {E : XK} (T : OexC K C) (hno : PySem.W.findIn K (.ref C) f = some none) (h : spInit K C [f] vs H Q E) :
    tOst K f (tVar 0) (tVar 1) { nx := fun _ H' => Q .non H', rt := Q } (start N vs) H := by
  obtain ⟨a, ys, rfl, hl, ha, q⟩ := h
  match ys, hl with
  | [y], _ =>
    refine ⟨y, rfl, .ref a, rfl, a, C, rfl, T, hno, .inl ⟨ha, fun dx n ne => ?_⟩⟩
    exact q dx _ n ne upd_same (by rw [upd_ne ne, upd_same]; rfl) fun b h1 h2 => by rw [upd_ne h1, upd_ne h2]
theorem init2_read {K : PySem.W.Frag} {C : Addr} {f f2 : Str} {N : List Str} {vs : List V} {H : Hp} {Q : VK} {E : XK} (T : OexC K C) (hno : PySem.W.findIn K (.ref C) f = some none) (hno2 : PySem.W.findIn K (.ref C) f2 = some none) (h : spInit K C [f, f2] vs H Q E) :
    tSeq (tOst K f (tVar 0) (tVar 1)) (tOst K f2 (tVar 0) (tVar 2)) { nx := fun _ H' => Q .non H', rt := Q } (start N vs) H := by
  obtain ⟨a, ys, rfl, hl, ha, q⟩ := h
  match ys, hl with
  | [y, y2], _ =>
    refine ⟨y, rfl, .ref a, rfl, a, C, rfl, T, hno, .inl ⟨ha, fun dx n ne => ?_⟩⟩
    refine ⟨y2, rfl, .ref a, rfl, a, C, rfl, T, hno2, .inr ⟨dx, [(f, y)], upd_same, by rw [upd_ne ne, upd_same], by show 1 ≤ 900; decide, ?_⟩⟩
    exact q dx _ n ne (by rw [upd_ne (Ne.symm ne), upd_same]) (by rw [upd_same]; rfl) fun b h1 h2 => by rw [upd_ne h2, upd_ne h1, upd_ne h2]
theorem repF_zip {g : Ga} {F : Hp} : ∀ {fl : List Str} {vs : List V} {ts : List T}, RepAll g F vs ts → RepF g F (fl.zip vs) (fl.zip ts)
  | [], _, _, _ => .nil
  | _ :: _, _, _, .nil => .nil
  | _ :: fl, _, _, .cons a b => .cons a (repF_zip b)
theorem RepF.app {g : Ga} {F : Hp} : ∀ {vs ws : List (Str × V)} {ts us : List (Str × T)}, RepF g F vs ts → RepF g F ws us → RepF g F (vs ++ ws) (ts ++ us)
  | _, _, _, _, .nil, q => q
  | _, _, _, _, .cons a b, q => .cons a (RepF.app b q)
theorem RepF.rev {g : Ga} {F : Hp} : ∀ {vs : List (Str × V)} {ts : List (Str × T)}, RepF g F vs ts → RepF g F vs.reverse ts.reverse
  | _, _, .nil => .nil
  | _, _, .cons a b => by
    rw [List.reverse_cons, List.reverse_cons]
    exact (RepF.rev b).app (.cons a .nil)
def raiseF (k : Nat) (fl : List Str) (a : AF) : SF := fun S => (a S).bind fun os S1 => match vals os with
  | some ts => if ts.length = fl.length then .exc ⟨k, (fl.zip ts).reverse⟩ S1 else .stuck
  | none => .stuck
/-- what the written part says of an error class at C whose __init__ at fI stores the fields fl -/
structure ExcT (K : PySem.W.Frag) (mg : Str → Option Value) (x : Str) (C fI : Addr) : Prop where
  gC : mg x = some (.ref C)
  oex : OexC K C
  exc : ExcC K C
  iC : PySem.W.findIn K (.ref C) "__init__" = some (some (.ref fI))
  tI : PySem.W.typeIn K (.ref fI) = some (.type "function")
section
variable {X : Cx} {c : Cfg} {x : Str} {C fI : Addr} {e : Expr} {es : List Expr} {p pos pos2 : Pos} {fa : AF} {fl ps : List Str} {fd : FuncData} {k : Nat}
theorem ds_raise (hcalm : X.calm = true) (tk : Takes X (fun cls d σ H => c.E σ cls d H)) (T : ExcT X.K X.mg x C fI) (hC : C = c.g.ca k) (F1 : FnOk X.prog X.w X.K X.mg X.base (L2.CX X.prog X.w) 1 fI fd ps (spInit X.K C fl)) (hr : Room 2 X.A) (hb : Binds X.K fd ps [])
    (hx : Passes (L2.CX X.prog X.w) X (fun _ _ _ => False)) (hg : Gl X x) (ha : PA X (e :: es) (rdA c fa)) (hn : fl.length ≤ 1000 := by decide)
    (hdb : (x == ("__debug__" : Str)) = false := by decide) (he : starEach (e :: es) X.env = (false, eval e X.env) :: starEach es X.env := by rfl) (hpl : (backTo pos (starEach es X.env)).any (·.1) = false := by rfl) :
    PS X (.Raise (some (.Call (.Name x p) (e :: es) [] pos)) none pos2) (rdS c (raiseF k fl fa)) := by
  refine ps_imp (ps_raise hcalm tk (pmk_oex (dvs := []) T.oex T.iC T.tI F1 hr hb .nil hx hg T.gC ha hdb he hpl)) fun D σ H q => ?_
  obtain ⟨F, S, A, q⟩ := q
  refine ⟨[], F, S, A, sOut.bind q fun os S1 F1 H1 s1 q1 vs A1 r1 => ?_⟩
  split at q1
  · rename_i ts e1
    split at q1
    · rename_i hl
      have rv := r1.vals e1
      refine ⟨by rw [rv.length, hl]; exact hn, fun a na => ?_⟩
      rw [List.append_nil]
      refine ⟨a, vs, rfl, by rw [rv.length]; exact hl, upd_same, fun d H' nd ne ea ed hk => ?_⟩
      rw [upd_ne ne] at nd
      refine ⟨rfl, d, _, ea, ed, nd, ?_⟩
      have st : Same H1 (upd (L2.del H' a) d (.xd (fl.zip vs).reverse)) := fun b w q => by
        have hbd : b ≠ d := ne_of_none q nd
        have hba : b ≠ a := ne_of_none q na
        rw [upd_ne hbd, del_ne hba, hk b hba hbd, upd_ne hba]
        exact q
      have A2 := A1.st st
      exact q1 _ _ σ _ F1 (Same.refl F1) A2 ⟨by rw [hC], d, _, rfl, A1.a.fresh nd, upd_same, (repF_zip rv).rev⟩
    · exact q1.elim
  · exact q1.elim
end
end TL

end
section
set_option Elab.async false
set_option linter.all false
set_option maxRecDepth 100000
set_option autoImplicit false
set_option maxHeartbeats 4000000
/-! TL16c: isinstance of errors, their fields -/
open PySem PySem.Spec PyProof.Rows L2
namespace TL
section
open PySem.W PySem.Calls
variable {prog : Program} {w : World} {A : Around} {E : Value → Shared → Prop} {s : Shared} {K : Frag} {x D : Addr} {ox : Obj} {od : Option Obj}
theorem findObj_dataD {C : Addr} {name : Str} {a g : Value} (hc : (clsIn K C).isSome = true) (ha : findIn K (.ref C) name = some (some a)) (hg : specialIn K a "__get__" = some (some g)) (ht : takesIn K a = some true) : findObj K C od name = some (.bind g a) := by
  obtain ⟨cd, hc⟩ := Option.isSome_iff_exists.mp hc
  unfold findObj
  rw [hc, Option.bind_some, ha, Option.bind_some]
  simp [hg, ht]
theorem kin_classD {Q : Option Value → Shared → Prop} (hga : findIn K (.ref D) "__getattribute__" = some (some (.builtin "BaseException.__getattribute__"))) (hgt : findIn K (.ref D) "__getattr__" = some none) (hsub : subIn K (.ref D) (.type "BaseException") = some true)
    (hdct : hasDictIn K D = true) (ha : findIn K (.ref D) "__class__" = some (some (.builtin "object.__class__")))
    (hn : specialIn K (.builtin "object.__class__") "__get__" = some (some (.builtin "getset_descriptor.__get__"))) (htk : takesIn K (.builtin "object.__class__") = some true) (hm : mroIn K D (.type "object") = some true)
    (X : K.In s.heap) (I : InstAt s.heap x ox D od) (h : Q (some (.ref D)) { s with toks := s.toks + 1 }) : wpAny (model prog w) A (getAttr? (.ref x) "__class__") Q E s := by
  have hf : findObj K D od "__class__" = some (.bind (.builtin "getset_descriptor.__get__") (.builtin "object.__class__")) := findObj_dataD (by obtain ⟨cd, hc, _⟩ := any_some hdct; rw [hc]; rfl) ha hn htk
  obtain ⟨hp, g, d, t, os⟩ := s
  have L0 := I.type (M := model prog w)
  have L1 := looks_findIn (M := model prog w) X hga
  have L2 := looks_findIn (M := model prog w) X hgt
  have L3 := looks_find (M := model prog w) X I hf
  have sub : Looks (model prog w) hp (isInstance (.ref x) (.type "BaseException")) true := L0.andThen (looks_subIn X hsub)
  have hx0 : (false && onTheHeap (Value.builtin "BaseException.__getattribute__")) = false := rfl
  have hx2 : (Value.builtin "BaseException.__getattribute__" == Value.builtin "object.__getattribute__") = false := by decide +kernel
  have hx1 : (onTheHeap (Value.ref D) && Value.builtin "BaseException.__getattribute__" == Value.builtin "object.__getattribute__") = false := by rw [hx2]; rfl
  unfold getAttr? getAttrBy? getAttrBy
  refine wpAny_bind (wpAny_mkText (wpAny_bind (wpAny_attempt (wpAny_holding (wpAny_bind (L0.at (wpAny_bind (L1.at ?_))))))))
  show wpAny _ _ (if (onTheHeap (Value.ref D) && Value.builtin "BaseException.__getattribute__" == Value.builtin "object.__getattribute__") = true then _ else _) _ _ _
  rw [hx1, if_neg Bool.false_ne_true]
  unfold getAttrByItsOwn hookBefore
  refine wpAny_bind ?_
  rw [if_pos (show onTheHeap (Value.ref D) = true from rfl)]
  refine L2.at ?_
  refine wpAny_bind (wpAny_attempt (wpAny_holding ?_))
  unfold callGetattribute
  rw [hx0, if_neg Bool.false_ne_true]
  unfold boundAndCalled
  rw [PySem.F.excAttr_ValueError.ga.bind (.ref x)]
  refine wpAny_bind (wpAny_pure ?_)
  show wpAny _ _ (call (.builtin "BaseException.__getattribute__") [.ref x, .str "__class__" t]) _ _ _
  refine wpAny_call (codeAny_call_builtin PySem.F.excAttr_ValueError.ga.plain PySem.F.entry_bexc_ga ?_)
  refine @check_slot (model prog w) _ _ ⟨hp, g, d, t + 1, os⟩ "BaseException.__getattribute__" "BaseException" "__getattribute__" (.ref x) [.str "__class__" t] [] _ (by decide +kernel) (by decide +kernel) sub (PySem.F.args_bexc_ga (.ref x) (.str "__class__" t)) ?_
  unfold Builtin.«object.__getattribute__»
  refine wpAny_bind (wpAny_of_eq (a := ((Value.ref x : Value), [Value.str "__class__" t])) (by first | rfl | (simp only [slotArgs]; rfl)) ?_)
  refine wpAny_bind (wpAny_pure (wpAny_bind (L0.at (wpAny_bind (L3.at ?_)))))
  show wpAny _ _ (holding [Value.builtin "object.__class__"] (call (.builtin "getset_descriptor.__get__") [.builtin "object.__class__", .ref x, .ref D]) >>= ret) _ _ _
  refine wpAny_bind (wpAny_holding (wpAny_call (class_get (s := ⟨hp, g, d, t + 1, os⟩) (ox := ox) (od := od) X I hm ?_)))
  refine wpAny_pure ?_
  show wpAny _ _ (handedOut (.ref D)) _ _ _
  rw [handedOut_of (v := .ref D) rfl]
  first
    | exact wpAny_pure (wpAny_pure h)
    | exact wpAny_pure h
    | exact wpAny_pure (wpAny_bind (wpAny_pure (wpAny_pure h)))
theorem kitx_excD (C : ExcC K D) : KitX K (.ref x) (.ref D) (fun h => InstAt h x ox D od) where
  ty := fun _ _ _ I => I.type
  it := fun _ _ X _ => by
    obtain ⟨cdD, hcD, _⟩ := any_some C.hd
    unfold clsIn at hcD
    split at hcD
    · rename_i c' d' cd' sl' ho
      intro A' Q' E' s' k q
      unfold isType loadHead
      exact wpAny_bind (wpAny_loadPart (k _ _ (X _ _ ho)) (wpAny_pure q))
    · cases hcD
  ne := fun h tp dd its n sl X htp => by
    obtain ⟨cdD, hcD, _⟩ := any_some C.hd
    refine Bool.eq_false_iff.mpr fun q => ?_
    have e : D = tp := Value.ref.inj (beq_iff_eq.mp q)
    subst e
    unfold clsIn at hcD
    split at hcD
    · rename_i c' d' cd' sl' ho
      have z := (X _ _ ho).symm.trans htp
      cases z
    · cases hcD
  ca := fun X I k => kin_classD C.hg C.hk C.hs C.hd C.ha C.hn C.ht C.hm X I k
end
section
variable {X : Cx} {pins : List (Addr × Obj)} {σ : L2.St} {H : Hp} {s : Shared}
theorem exv_inst {a C d : Addr} {fs : List (Str × V)} (I : Inv X pins σ H s) (ea : H a = some (EXV C d a)) (ed : H d = some (.xd fs)) : ∃ (oe od : Obj) (mA : Str → Option Value), PySem.W.InstAt s.heap a oe C (some od) ∧ (∀ name, PySem.W.lookIn name od = some (mA name)) ∧ ∀ f, RelO (fs.lookup f) (mA f) := by
  have x : ObjOk X.prog X.w H s.heap a (.ext fun h => ∃ (oe : Obj) (vs : Array Value), h.get? a = some oe ∧ Zc (.ref C) (some d) oe ∧ oe.data = .fields vs) := I.hok a _ ea
  obtain ⟨oe, vs, ha, hz, hd⟩ := x.1
  have y : ObjOk X.prog X.w H s.heap d (.xd fs) := I.hok d _ ed
  obtain ⟨mA, hns, hr⟩ := y
  obtain ⟨od, ho, hl⟩ := lookIn_ns hns
  exact ⟨oe, od, mA, ⟨ha, hz.1, by unfold PySem.W.notCls; rw [hd] <;> rfl, by rw [hz.2]; exact ho⟩, hl, hr⟩
/-- what isinstance asks of a value, errors among them -/
def TyE (K : PySem.W.Frag) (H : Hp) (x : V) (us : List Value) (b : Bool) : Prop := (∃ t, TyX K H x t ∧ PySem.W.kitAny K t us = some b) ∨
  ∃ (a C d : Addr) (fs : List (Str × V)), x = .ref a ∧ H a = some (EXV C d a) ∧ H d = some (.xd fs) ∧ ExcC K C ∧ PySem.W.kitAny K (.ref C) us = some b
theorem tyE_kit {x : V} {u : Value} {us : List Value} {b : Bool} (I : Inv X pins σ H s) (rx : RelV x u) (h : TyE X.K H x us b) : ∃ (t : Value) (P : Heap → Prop), PySem.W.KitX X.K u t P ∧ P s.heap ∧ u ≠ .builtin "__main__.__loader__#opaque" ∧ PySem.W.kitAny X.K t us = some b := by
  rcases h with ⟨t, ty, e⟩ | ⟨a, C, d, fs, rfl, ea, ed, T, e⟩
  · obtain ⟨P, Z, p, hx⟩ := kit_of I rx ty
    exact ⟨t, P, Z, p, hx, e⟩
  · cases (show u = Value.ref a from rx)
    obtain ⟨oe, od, mA, J, _⟩ := exv_inst I ea ed
    exact ⟨.ref C, _, kitx_excD T, J, (fun z => nomatch z), e⟩
theorem kitAny_one {K : PySem.W.Frag} {t u : Value} {b : Bool} (h : PySem.W.kitAny K t [u] = some b) : PySem.W.kitOne K t u = some b := by
  unfold PySem.W.kitAny at h
  cases e : PySem.W.kitOne K t u with
  | none => rw [e] at h; cases h
  | some r =>
    rw [e] at h
    cases r with
    | true => exact h
    | false => exact h
/-- isinstance(x, c) -/
theorem call_isE1 : CallR X (.builtin "isinstance") (fun xs H Q => ∃ (x c : V) (u : Value) (b : Bool), xs = [x, c] ∧ ClsV c u ∧ TyE X.K H x [u] b ∧ Q (.bl b) H) := by
  intro pins s σ H xs us Q I r h
  obtain ⟨x, c, u, b, rfl, k, ty, q⟩ := h
  obtain ⟨u1, u2, rfl, r1, r2⟩ := vals2 r
  have e2 := k.eq r2
  subst e2
  obtain ⟨t, P, Z, p, hx, e⟩ := tyE_kit I r1 ty
  exact PySem.W.kia_one Z I.kIn p (kitAny_one e) hx fun tk => ⟨.bl b, H, I.tok tk, rfl, q⟩
/-- isinstance(x, (c1, ..)) -/
theorem call_isET : CallR X (.builtin "isinstance") (fun xs H Q => ∃ (x : V) (tp : Addr) (cs : List V) (us : List Value) (b : Bool), xs = [x, .ref tp] ∧ H tp = some (.tup cs) ∧ Paired ClsV cs us ∧ TyE X.K H x us b ∧ Q (.bl b) H) := by
  intro pins s σ H xs us Q I r h
  obtain ⟨x, tp, cs, ws, b, rfl, hT, k, ty, q⟩ := h
  obtain ⟨u1, u2, rfl, r1, r2⟩ := vals2 r
  cases (show u2 = Value.ref tp from r2)
  obtain ⟨t, P, Z, p, hx, e⟩ := tyE_kit I r1 ty
  obtain ⟨_, its, rv, o, h1, h2, n, h3⟩ := (show ObjOk X.prog X.w H s.heap tp (.tup cs) from I.hok tp _ hT)
  have e3 := ClsV.all k rv
  subst e3
  obtain ⟨oc, od, dt, sl⟩ := o
  simp only at h2 h3
  subst h2 h3
  exact PySem.W.kia_tup Z I.kIn p h1 e hx fun tk => ⟨.bl b, H, I.tok tk, rfl, q⟩
end
def isX (own : Nat → Option Bool) (bt : String → Option Bool) (t : T) : Option Slot := match t with
  | .exo k _ => (own k).map fun b => .sh (.bl b)
  | t => (tyN t).bind fun n => (bt n).map fun b => .sh (.bl b)
theorem PRep.exo {g : Ga} {F H : Hp} {v : V} {k : Nat} {ts : List (Str × T)} (s : Same F H) (h : PRep g F H v (.exo k ts)) : ∃ (a d : Addr) (fs : List (Str × V)), v = .ref a ∧ H a = some (EXV (g.ca k) d a) ∧ H d = some (.xd fs) ∧ RepF g F fs ts := by
  rcases h with h | ⟨a, u, e, hu, h⟩
  · cases h with
    | exo e1 e2 r => exact ⟨_, _, _, rfl, s _ _ e1, s _ _ e2, r⟩
  · cases h
section
variable {X : Cx} {c : Cfg} {a ce : Expr} {pos p' : Pos} {fa : OF} {own : Nat → Option Bool} {bt : String → Option Bool} {us : List Value}
structure IsOk (K : PySem.W.Frag) (ca : Nat → Addr) (own : Nat → Option Bool) (bt : String → Option Bool) (us : List Value) : Prop where
  own : ∀ k b, own k = some b → ExcC K (ca k) ∧ PySem.W.kitAny K (.ref (ca k)) us = some b
  bt : ∀ n b, bt n = some b → PySem.W.kitAny K (.type n) us = some b
theorem isX_ty {F H : Hp} {S : Sta} {σ τ : List (Option V)} {x : V} {t : T} {z : Slot} (A : AbsX c F S σ τ H) (hK : c.g.K = X.K) (ok : IsOk X.K c.g.ca own bt us) (hx : PRep c.g F H x t) (hz : isX own bt t = some z) : ∃ b, z = .sh (.bl b) ∧ TyE X.K H x us b := by
  unfold isX at hz
  split at hz
  · obtain ⟨b, h1, h2⟩ := Option.map_eq_some_iff.mp hz
    obtain ⟨a, d, fs, rfl, e1, e2, _⟩ := hx.exo A.a.fh
    obtain ⟨T, k⟩ := ok.own _ _ h1
    exact ⟨b, h2.symm, .inr ⟨a, _, d, fs, rfl, e1, e2, T, k⟩⟩
  · obtain ⟨n, h1, h2⟩ := Option.bind_eq_some_iff.mp hz
    obtain ⟨b, h3, h4⟩ := Option.map_eq_some_iff.mp h2
    exact ⟨b, h4.symm, .inl ⟨_, hx.ty hK A.a.fh h1, ok.bt _ _ h3⟩⟩
theorem de_isE {cv : V} {u : Value} (hK : c.g.K = X.K) (hg : Gl X "isinstance") (hm : X.mg "isinstance" = none) (ha : PE X a (rdO c fa)) (hce : PE X ce (tC cv)) (hcv : ClsV cv u) (ok : IsOk X.K c.g.ca own bt [u])
    (he : starEach [a, ce] X.env = (false, eval a X.env) :: starEach [ce] X.env := by rfl) (he2 : starEach [ce] X.env = (false, eval ce X.env) :: starEach [] X.env := by rfl) (hpl : (backTo pos (starEach [ce] X.env)).any (·.1) = false := by rfl) : PE X (.Call (.Name "isinstance" p') [a, ce] [] pos) (rdE c (op1 (isX own bt) fa)) := by
  refine PE.imp (pe_callB call_isE1 hg hm (by decide +kernel) (pa_cons ha (pa_cons hce pa_nil he2) he) (by decide) (by decide) he hpl) fun σ H Q q => op1_out (r := fun x H1 Q => ∃ (x' c : V) (u : Value) (b : Bool), [x, cv] = [x', c] ∧ ClsV c u ∧ TyE X.K H1 x' [u] b ∧ Q (.bl b) H1) ?_ q
  intro F S σ τ H x t z Q A hx hz k
  obtain ⟨b, e, ty⟩ := isX_ty A hK ok hx hz
  subst e
  exact ⟨x, cv, u, b, rfl, hcv, ty, fin_sh A k (.bl _)⟩
theorem de_isET {cvs : List V} (hK : c.g.K = X.K) (hg : Gl X "isinstance") (hm : X.mg "isinstance" = none) (ha : PE X a (rdO c fa)) (hce : PE X ce (fun _ H Q => cvs.length ≤ sizeLine ∧ ∀ p, H p = none → Q (.ref p) (upd H p (.tup cvs)))) (hcv : Paired ClsV cvs us) (ok : IsOk X.K c.g.ca own bt us) (hl : cvs.length ≤ 1000 := by decide)
    (he : starEach [a, ce] X.env = (false, eval a X.env) :: starEach [ce] X.env := by rfl) (he2 : starEach [ce] X.env = (false, eval ce X.env) :: starEach [] X.env := by rfl) (hpl : (backTo pos (starEach [ce] X.env)).any (·.1) = false := by rfl) : PE X (.Call (.Name "isinstance" p') [a, ce] [] pos) (rdE c (op1 (isX own bt) fa)) := by
  refine PE.imp (pe_callB call_isET hg hm (by decide +kernel) (pa_cons ha (pa_cons hce pa_nil he2) he) (by decide) (by decide) he hpl) fun σ H Q q => op1_out (r := fun x H1 Q => cvs.length ≤ sizeLine ∧ ∀ p, H1 p = none → ∃ (x' : V) (tp : Addr) (cs : List V) (us : List Value) (b : Bool), [x, .ref p] = [x', .ref tp] ∧ upd H1 p (.tup cvs) tp = some (.tup cs) ∧ Paired ClsV cs us ∧ TyE X.K (upd H1 p (.tup cvs)) x' us b ∧ Q (.bl b) (upd H1 p (.tup cvs))) ?_ q
  intro F S σ τ H x t z Q A hx hz k
  refine ⟨by rw [sizeLine_eq]; omega, fun p np => ?_⟩
  have st : Same H (upd H p (.tup cvs)) := fun b w q => by rw [upd_ne (ne_of_none q np)]; exact q
  have A2 := A.st st
  have hx2 : PRep c.g F (upd H p (.tup cvs)) x t := by
    rcases hx with hx | ⟨a, u, e, hu, mk⟩
    · exact .inl hx
    · exact .inr ⟨a, u, e, st _ _ hu, mk⟩
  obtain ⟨b, e, ty⟩ := isX_ty A2 hK ok hx2 hz
  subst e
  exact ⟨x, p, cvs, us, b, rfl, upd_same, hcv, ty, fin_sh A2 k (.bl _)⟩
/-! fields of errors -/
def attrT (okc : Nat → Bool) (f : Str) : T → Option Slot
  | .exo k fs => if okc k = true then (fs.lookup f).map .sh else none
  | _ => none
theorem RepF.look {g : Ga} {F : Hp} {f : Str} {t : T} : ∀ {fs : List (Str × V)} {ts : List (Str × T)}, RepF g F fs ts → ts.lookup f = some t → ∃ v, fs.lookup f = some v ∧ Rep g F v t
  | _, _, .nil, h => by cases h
  | (k, v) :: fs, (_, u) :: ts, .cons a b, h => by
    rw [List.lookup_cons] at h ⊢
    cases e : f == k with
    | true =>
      rw [e] at h
      cases h
      exact ⟨v, rfl, a⟩
    | false =>
      rw [e] at h
      exact RepF.look b h
theorem pe_exv {o : Expr} {te : TE} {f : Str} (ho : PE X o te) (hb : attributeBase o f X.env (eval o X.env) = eval o X.env := by rfl) :
    PE X (.Attribute o f pos) (fun σ H Q => te σ H fun x H1 => ∃ (a C d : Addr) (fs : List (Str × V)) (v : V), x = .ref a ∧ H1 a = some (EXV C d a) ∧ H1 d = some (.xd fs) ∧ fs.lookup f = some v ∧ ExcC X.K C ∧ PySem.W.findIn X.K (.ref C) f = some none ∧ Q v H1) := by
  refine ⟨fun pins s σ H Q I h => ?_⟩
  refine attr_of hb (thn (ho.run pins s σ H _ I h) fun u s1 hh => ?_)
  obtain ⟨x, H1, I1, rx, a, C, d, fs, v, rfl, ea, ed, hl, T, hno, q⟩ := hh
  obtain rfl : u = Value.ref a := rx
  obtain ⟨oe, od, mA, J, hlk, hr⟩ := exv_inst I1 ea ed
  obtain ⟨u, hu, ru⟩ := RelO.some_of (v := v) (o := mA f) (by rw [← hl]; exact hr f)
  exact HandSPX.exc_get I1.kIn J T.hg T.hk T.hs (PySem.W.findObj_own T.hd hno rfl (by rw [hlk, hu])) (handed_of ru) ⟨v, H1, I1.tok _, ru, q⟩
theorem de_attr {o : Expr} {okc : Nat → Bool} {f : Str} (hK : c.g.K = X.K) (ho : PE X o (rdO c fa)) (ok : ∀ k, okc k = true → ExcC X.K (c.g.ca k) ∧ PySem.W.findIn X.K (.ref (c.g.ca k)) f = some none) (hb : attributeBase o f X.env (eval o X.env) = eval o X.env := by rfl) :
    PE X (.Attribute o f pos) (rdE c (op1 (attrT okc f) fa)) := by
  refine PE.imp (pe_exv ho hb) fun σ H Q q => op1_out (r := fun x H1 Q => ∃ (a C d : Addr) (fs : List (Str × V)) (v : V), x = .ref a ∧ H1 a = some (EXV C d a) ∧ H1 d = some (.xd fs) ∧ fs.lookup f = some v ∧ ExcC X.K C ∧ PySem.W.findIn X.K (.ref C) f = some none ∧ Q v H1) ?_ q
  intro F S σ τ H x t z Q A hx hz k
  unfold attrT at hz
  split at hz
  · split at hz
    · rename_i hok
      obtain ⟨t', h1, h2⟩ := Option.map_eq_some_iff.mp hz
      subst h2
      obtain ⟨a, d, fs, rfl, e1, e2, r⟩ := hx.exo A.a.fh
      obtain ⟨v, h3, h4⟩ := r.look h1
      obtain ⟨T, hno⟩ := ok _ hok
      exact ⟨a, _, d, fs, v, rfl, e1, e2, h3, T, hno, fin_sh A k h4⟩
    · cases hz
  · cases hz
end
end TL

end
section
set_option Elab.async false
set_option linter.all false
set_option maxRecDepth 100000
set_option autoImplicit false
set_option maxHeartbeats 2000000
/-! TL17: f(lambda: e), f a def that calls it in a try -/
open PySem PySem.Spec PyProof.Rows L2
namespace TL
def frz1 (i : Nat) (S : Sta) : Option Sta := match S.lo[i]? with
  | some (.sh _) => some S
  | some (.ow t) => some (S.put i (.sh t))
  | _ => none
def frzs : List Nat → Sta → Option Sta
  | [], S => some S
  | i :: is, S => (frz1 i S).bind (frzs is)
def noOw : Slot → Slot
  | .ow _ => .no
  | .fu => .no
  | s => s
def askEnd : R Slot → FR
  | .ok .fu _ => .stuck
  | .ok x S => .ok x S.nb
  | .exc e S => .exc e S.nb
  | .stuck => .stuck
def askOf (fe : EF) (lo : List Slot) : Nib → FR := fun n => askEnd (fe ⟨lo.map noOw, [], n⟩)
abbrev HFn := (Nib → FR) → Nib → FR
def lamF (caps : List Nat) (fe : EF) (fh : HFn) : EF := fun S => match frzs caps S with
  | some S1 => match fh (askOf fe S1.lo) S1.nb with
    | .ok x n => .ok x { S1 with nb := n }
    | _ => .stuck
  | none => .stuck
/-- the call of what was handed in -/
def askF (i : Nat) (ask : Nib → FR) : EF := fun S => match S.lo[i]? with
  | some .fu => match ask S.nb with
    | .ok x n => .ok x { S with nb := n }
    | .exc e n => .exc e { S with nb := n }
    | .stuck => .stuck
  | _ => .stuck
section
variable {c : Cfg} {F F' H H' H1 : Hp} {S S1 : Sta} {σ τ : List (Option V)}
theorem frz1_ok (A : AbsX c F S σ τ H) {i : Nat} (h : frz1 i S = some S1) : ∃ F', Same F F' ∧ AbsX c F' S1 σ τ H := by
  unfold frz1 at h
  split at h
  · cases h; exact ⟨F, Same.refl F, A⟩
  · rename_i t e
    cases h
    exact A.freeze e
  · cases h
theorem frzs_ok : ∀ {is : List Nat} {F : Hp} {S : Sta}, AbsX c F S σ τ H → frzs is S = some S1 → ∃ F', Same F F' ∧ AbsX c F' S1 σ τ H
  | [], F, S, A, h => by cases h; exact ⟨F, Same.refl F, A⟩
  | i :: is, F, S, A, h => by
    obtain ⟨S2, h1, h2⟩ := Option.bind_eq_some_iff.mp h
    obtain ⟨F1, s1, A1⟩ := frz1_ok A h1
    obtain ⟨F2, s2, A2⟩ := frzs_ok A1 h2
    exact ⟨F2, s1.trans s2, A2⟩
theorem AbsX.extN (A : AbsX c F S σ τ H) (e : LamX.ExtN H H1) (t : LamX.Tabs c.g.tb H1) : AbsX c F S σ τ H1 := by
  obtain ⟨cc, n1, n2⟩ := A.a.nib
  refine ⟨⟨fun b o q => e _ _ (A.a.fh _ _ q) (A.a.ext.nt _ _ q), A.a.fn, ⟨cc, e _ _ n1 (fun _ z => nomatch z), n2⟩, fun a w q n0 n => e _ _ (A.a.keep a w q n0 n) n0, A.a.fre, ⟨A.a.ext.bs, A.a.ext.nt, t, fun c0 x0 y0 h0 => by
    obtain ⟨x1, y1, h1⟩ := A.a.ext.cel c0 x0 y0 h0
    exact ⟨x1, y1, e _ _ h1 (fun _ z => nomatch z)⟩⟩, A.a.len, fun i s q h1 h2 => ?_, A.a.ds⟩, A.l⟩
  have h := A.a.sl i s q h1 h2
  cases s with
  | no => trivial
  | fu => exact h
  | sh t => exact h
  | ow t1 =>
    obtain ⟨a, e', ⟨w, hw, mk⟩, r⟩ := h
    exact ⟨a, e', ⟨w, e _ _ hw mk.noT, mk⟩, r⟩
/-- the maker's slots as the lambda's body sees them -/
theorem AbsX.seen (A : AbsX c F S σ τ H) (E : XK) : AbsX ⟨c.g, ⟨H, F, .non⟩, fun _ => E⟩ F ⟨S.lo.map noOw, [], S.nb⟩ σ [] H := by
  have l : (S.lo.map noOw).length = σ.length := by rw [List.length_map, A.l]
  refine ⟨⟨A.a.fh, A.a.fn, A.a.nib, fun _ _ h _ _ => h, fun _ _ _ _ h => h, ⟨Same.refl F, A.a.ext.nt, A.a.ext.tabs, CelS.refl H⟩, ?_, fun i s o h1 h2 => ?_, fun i j t u a h1 _ _ _ => ?_⟩, l⟩
  · show (S.lo.map noOw ++ []).length = (σ ++ []).length
    rw [List.append_nil, List.append_nil, l]
  · have h1 : (S.lo.map noOw ++ [])[i]? = some s := h1
    rw [List.append_nil] at h1 h2
    rw [List.getElem?_map] at h1
    cases e : S.lo[i]? with
    | none => rw [e] at h1; cases h1
    | some s0 =>
      rw [e] at h1
      cases h1
      obtain ⟨o', ho, r⟩ := A.slot e
      rw [h2] at ho
      cases ho
      cases s0 with
      | no => trivial
      | fu => trivial
      | sh t => exact r
      | ow t => trivial
  · have h1 : (S.lo.map noOw ++ [])[i]? = some (.ow t) := h1
    rw [List.append_nil, List.getElem?_map] at h1
    cases e : S.lo[i]? with
    | none => rw [e] at h1; cases h1
    | some s0 =>
      rw [e] at h1
      cases s0 <;> cases h1
end
/-- what the def makes of the lambda that it is handed -/
def TTh (g : Ga) (fh : HFn) : (XK → Hp → VK → Prop) → Hp → VK → Prop := fun tl H Q => ∃ (F : Hp) (n : Nib) (ask : Nib → FR), Same F H ∧ F g.nb = none ∧ NibRel g F H n ∧ LamX.Tabs g.tb H ∧ (∀ a o, F a = some o → NT o) ∧
  (∀ F' H' n', Post g F H F' H' n' → ∀ (E : XK) (Q' : VK), spOut g F' H' Q' E (ask n') → tl E H' Q') ∧ spOut g F H Q (fun _ _ _ => False) (fh ask n)
section
variable {X : Cx} {pins : List (Addr × Obj)} {σ : L2.St} {H HZ : Hp} {s s1 : Shared}
/-- x(), in the def that got the lambda; what is raised is told of the very slots -/
theorem pe_actS {CXg : CXT} {Eg : XK} {Ng : List Str} {qg : Str} {sg : Scope} {g f c' : Addr} {cdg pm ctv : Value} {params : Arguments} {body : Expr} {scope : Scope} {k i : Nat} {a : Str} {pn : List (Addr × Obj)} {xe : Value → Shared → Prop} {W : WX} {tb : XK → TE} {p1 p2 : Pos}
    (I : Inv X pins σ H s) (L : LamX.LamS X.env.scope scope) (hf : s.heap.get? f = some (PySem.W.kla_obj "<lambda>" (X.env.qual ++ "<lambda>") params body scope (cloFrom X.env.cells scope.names []) pm c' ctv)) (hfn : H f = none) (hfr : f ∉ frs X.stack)
    (hbind : bindArgs (PySem.W.kla_fn "<lambda>" (X.env.qual ++ "<lambda>") params body scope (cloFrom X.env.cells scope.names []) pm (.ref c') ctv) ⟨[], []⟩ = pure [])
    (tk : Takes ((cxOf CXg X.prog X.w X.K X.mg X.base Ng qg sg g cdg X.A X.stack s H Eg).tr pn xe) W) (hr : Room (k + 1) (X.A.deeper (envOfC qg sg s.heap.objs.size g cdg)))
    (hbody : ∀ (E : XK) (A : Around) (outer : List Env) (s : Shared) (H : Hp), Room k (A.deeper (LamX.lamEnv X scope s.heap.objs.size f c')) → PE (LamX.lamCx X A outer s H E scope f c') body (tb E))
    (hN : Ng[i]? = some a) (hv : Vis sg a) (hd : (a == ("__debug__" : Str)) = false := by decide) (hcd : (a == ("__classdict__" : Str)) = false := by decide) :
    PE ((cxOf CXg X.prog X.w X.K X.mg X.base Ng qg sg g cdg X.A X.stack s H Eg).tr pn xe) (.Call (.Name a p1) [] [] p2)
      (fun σZ HZ Q => σZ[i]? = some (some (.ref f)) ∧ HZ c' = some (LamX.CodeO c' (X.env.qual ++ "<lambda>")) ∧ tb (fun cls d H => W cls d σZ H) σ HZ Q) := by
  refine ⟨fun pinsZ sZ σZ HZ Q IZ h => ?_⟩
  obtain ⟨hs, hc, ht⟩ := h
  refine wpAny_Call_Name_kw (thn ((pe_var (pos := p1) (i := i) hN hv hd hcd).run pinsZ sZ σZ HZ (fun v H1 => v = .ref f ∧ H1 = HZ) IZ ⟨.ref f, hs, rfl, rfl⟩) fun u s1 ⟨v, H1, I1, r1, q1⟩ => ?_)
  obtain ⟨ev, eH⟩ := q1
  subst ev
  rw [eH] at I1
  obtain rfl : u = Value.ref f := r1
  have of1 : s1.heap.get? f = some (PySem.W.kla_obj "<lambda>" (X.env.qual ++ "<lambda>") params body scope (cloFrom X.env.cells scope.names []) pm c' ctv) := I1.base.keep f _ hf hfn hfr (fun z => nomatch (show f ∈ ([] : List Addr) from z))
  refine PySem.W.callWith_F0 ⟨_, _, _, _, of1⟩ ?_
  have un : Un (frs X.stack) [] H HZ s.heap s1.heap := I1.base
  obtain ⟨⟨oc, vs, t, hoc, hdc, hvc⟩, _, _⟩ := I1.hok c' _ hc
  have rc : codeAny (model X.prog X.w) (X.A.deeper (envOfC qg sg s.heap.objs.size g cdg)) (.call (.ref f) ⟨[], []⟩) (CR (L2.CX X.prog X.w) (envOfC qg sg s.heap.objs.size g cdg :: X.stack) X.prog X.w HZ s1 Q (fun cls d H => W cls d σZ H)) s1 := by
    refine PySem.W.kla_callFunE hr.depth of1 rfl L.co L.gen rfl ⟨c', oc, vs, t, rfl, hoc, hdc, hvc⟩ ?_
    rw [hbind]
    refine wpAny_pure (wpAny_newFunctionEnv (fun y hy => (L.own y hy).2) (fun y hy => absurd hy (by simp)) (fun h₁ hns hsb => ⟨I1.nolimit.fresh _ hsb, ?_⟩) L.kind)
    show codeAny _ _ (.expr body (LamX.lamEnv X scope s1.heap.objs.size f c')) _ _
    have kp : ∀ b o, s1.heap.get? b = some o → h₁.get? b = some o := fun b o e => hsb.extBut b o (Nat.ne_of_lt (Heap.lt_size e)) (Heap.get?_push_of_some _ e)
    have J : Inv (LamX.lamCx X (X.A.deeper (envOfC qg sg s.heap.objs.size g cdg)) (envOfC qg sg s.heap.objs.size g cdg :: X.stack) s1 HZ (fun cls d H => W cls d σZ H) scope f c') [] σ HZ { s1 with heap := h₁, toks := s1.toks + ([] : List (Str × Value)).length } :=
      LamX.lam_start2 I L I1.env0 hr.hd un hns kp
    refine PySem.W.kla_codeExpr (wpAny_mono ((hbody _ _ _ s1 HZ (hr.deeper _)).run [] _ _ HZ Q J ht) (fun v s' hq => ?_) fun e s' hq => hq)
    obtain ⟨w', H', J', rv, q⟩ := hq
    exact ⟨w', H', J'.os, J'.bare, J'.base, J'.hok, rv, q⟩
  have hx := passAt tk σZ
  refine wpAny_call (codeAny_mono rc fun r s' hq => ?_)
  cases r with
  | error e => exact hx pinsZ HZ s1 e s' I1 hq
  | ok fl =>
    cases fl with
    | ret u => exact I1.after hq
    | next => exact False.elim hq
    | brk => exact False.elim hq
    | cont => exact False.elim hq
def GivesS (X : Cx) (Ng : List Str) (x : Str) (sg : Scope) (g : Addr) (cdg : Value) (bg : List Stmt) (a : Str) (q : Str) (TT : (XK → Hp → VK → Prop) → Hp → VK → Prop) : Prop :=
  ∀ (f c' : Addr) (s : Shared) (H : Hp) (Q : VK) (tl : XK → Hp → VK → Prop),
    (∀ (W : WX) (pn : List (Addr × Obj)) (xe : Value → Shared → Prop) (p1 p2 : Pos), Takes ((cxOf C8.CX0 X.prog X.w X.K X.mg X.base Ng x sg g cdg X.A X.stack s H C8.E0).tr pn xe) W →
      PE ((cxOf C8.CX0 X.prog X.w X.K X.mg X.base Ng x sg g cdg X.A X.stack s H C8.E0).tr pn xe) (.Call (.Name a p1) [] [] p2) (fun σZ HZ Q => σZ[0]? = some (some (.ref f)) ∧ HZ c' = some (LamX.CodeO c' q) ∧ tl (fun cls d H => W cls d σZ H) HZ Q)) →
    H c' = some (LamX.CodeO c' q) → TT tl H Q →
    ∃ t, PSs (cxOf C8.CX0 X.prog X.w X.K X.mg X.base Ng x sg g cdg X.A X.stack s H C8.E0).nox bg t ∧ t { nx := fun _ H' => Q .non H', rt := Q } (L2.start Ng [.ref f]) H
/-- x(lambda: body) -/
theorem pe_lamcallS {T : List (Addr × Str)} {TT : (XK → Hp → VK → Prop) → Hp → VK → Prop} {x a : Str} {g c P : Addr} {k : Nat} {pg : Arguments} {bg : List Stmt} {sg : Scope} {dV kV doc pm cdv ct oc : Value} {an od : Option Addr} {osl : Array (Option Value)} {Ng : List Str}
    {params : Arguments} {body : Expr} {scope : Scope} {t : XK → TE} {p lpos pos : Pos} (hg : Gl X x) (hm : X.mg x = some (.ref g)) (hk : PySem.W.keepIn X.K (.ref g) = true)
    (lk : X.K.lookup g = some ⟨oc, od, .func (PySem.W.fnOf x x pg bg sg dV kV doc pm an cdv ct), osl⟩) (hcg : PySem.W.codeIn X.K cdv x = true) (hb : L2.Binds X.K (PySem.W.fnOf x x pg bg sg dV kV doc pm an cdv ct) [a] []) (Sg : FnScope Ng [a] sg) (hNg : Ng[0]? = some a) (hva : Vis sg a)
    (hG : GivesS X Ng x sg g cdv bg a (X.env.qual ++ "<lambda>") TT)
    (TB : LamX.TabB X.base X.mg c P) (hcode : X.env.code = .ref c) (hmT : (P, X.env.qual ++ "<lambda>") ∈ T) (hu : ∀ p ∈ T, p.1 = P → p.2 = X.env.qual ++ "<lambda>") (hr : Room (k + 2) X.A) (L : LamX.LamS X.env.scope scope) (hdef : defaultsOf params X.env = ([], []))
    (hbind : ∀ (q : Str) (cl : List (Str × Addr)) (pm cv ctv : Value), bindArgs (PySem.W.kla_fn "<lambda>" q params body scope cl pm cv ctv) ⟨[], []⟩ = pure [])
    (hbody : ∀ (A : Around) (outer : List Env) (s : Shared) (H : Hp) (E : XK) (f c' : Addr), Room k (A.deeper (LamX.lamEnv X scope s.heap.objs.size f c')) → PE (LamX.lamCx X A outer s H E scope f c') body (t E))
    (hdb : (x == ("__debug__" : Str)) = false := by decide) (hd : (a == ("__debug__" : Str)) = false := by decide) (hcd : (a == ("__classdict__" : Str)) = false := by decide) :
    PE X (.Call (.Name x p) [.Lambda params body scope lpos] [] pos) (LamX.tLam T TT t) := by
  refine ⟨fun pins s σ H Q I h => ?_⟩
  obtain ⟨hT, h⟩ := h
  refine wpAny_Call_Name_kw (ld_glob I hg hm ?_ hdb)
  refine PySem.W.callWith_K (h₀ := X.base) I.ok.mod.kin hk ?_ (by rfl) (by rfl)
  show wpAny _ _ (spliced ((false, eval (.Lambda params body scope lpos) X.env) :: backTo pos (starEach [] X.env))) _ _ s
  refine Calls.spliced_cons (LamX.lam_make2 I TB hcode hmT hu hT hdef (L.has I.ok) fun f c' pm' ctv H1 s' I1 eN T1 hf hfn hfr hco => ?_)
  refine Calls.spliced_nil ⟨I1.kIn, ?_⟩
  have rc : codeAny (model X.prog X.w) X.A (.call (.ref g) ⟨[.ref f], []⟩) (CR C8.CX0 X.stack X.prog X.w H1 s' Q C8.E0) s' := by
    refine LamX.run_ofS (N := Ng) (ps := [a]) (us := [.ref f]) (vs := [.ref f]) lk hcg Sg hr I1.env0 (hb s' [.ref f] I1.kIn rfl) (.cons rfl .nil) rfl fun hr' => ?_
    obtain ⟨t', ht', hq'⟩ := hG f c' s' H1 Q (fun E H' Q' => t E σ H' Q') (fun W pn xe p1 p2 tk => pe_actS (i := 0) I1 L hf hfn hfr (hbind _ _ _ _ _) tk hr' (fun E A outer s H hr2 => hbody A outer s H E f c' hr2) hNg hva hd hcd) hco (h H1 eN T1)
    exact ⟨t', ht'.nox, hq'⟩
  refine wpAny_call (codeAny_mono rc fun r s2 hq => ?_)
  cases r with
  | error e => exact (show False from hq).elim
  | ok fl =>
    cases fl with
    | ret u => exact I1.after hq
    | next => exact False.elim hq
    | brk => exact False.elim hq
    | cont => exact False.elim hq
end
section
variable {X : Cx} {c : Cfg} {x a : Str} {gd cc P : Addr} {k : Nat} {st : Stmt} {fd : FuncData} {Ng : List Str}
    {params : Arguments} {body : Expr} {scope : Scope} {p lpos pos : Pos} {caps : List Nat} {fe : EF} {fh : HFn}
theorem de_lam (hg : Gl X x) (hm : X.mg x = some (.ref gd)) (Fh : L2.Fun X.K x x st gd fd) (hb : L2.Binds X.K fd [a] []) (Sg : FnScope Ng [a] (defScope st)) (hNg : Ng[0]? = some a) (hva : Vis (defScope st) a)
    (hG : ∀ cdv, GivesS X Ng x (defScope st) gd cdv (defBody st) a (X.env.qual ++ "<lambda>") (TTh c.g fh))
    (TB : LamX.TabB X.base X.mg cc P) (hcode : X.env.code = .ref cc) (hmT : (P, X.env.qual ++ "<lambda>") ∈ c.g.tb) (hu : ∀ p ∈ c.g.tb, p.1 = P → p.2 = X.env.qual ++ "<lambda>") (hr : Room (k + 2) X.A) (L : LamX.LamS X.env.scope scope) (hdef : defaultsOf params X.env = ([], []))
    (hbind : ∀ (q : Str) (cl : List (Str × Addr)) (pm cv ctv : Value), bindArgs (PySem.W.kla_fn "<lambda>" q params body scope cl pm cv ctv) ⟨[], []⟩ = pure [])
    (hbody : ∀ (A : Around) (outer : List Env) (s : Shared) (H : Hp) (E : XK) (f c' : Addr) (B : Bs), Room k (A.deeper (LamX.lamEnv X scope s.heap.objs.size f c')) → PE (LamX.lamCx X A outer s H E scope f c') body (rdE ⟨c.g, B, fun _ => E⟩ fe))
    (hdb : (x == ("__debug__" : Str)) = false := by decide) (hd : (a == ("__debug__" : Str)) = false := by decide) (hcd : (a == ("__classdict__" : Str)) = false := by decide) :
    PE X (.Call (.Name x p) [.Lambda params body scope lpos] [] pos) (rdE c (lamF caps fe fh)) := by
  obtain ⟨oc, od, kV, doc, pm, an, cdv, ct, osl, rfl, lk, hcg⟩ := Fh.ex
  refine PE.imp (pe_lamcallS (T := c.g.tb) (TT := TTh c.g fh) (t := fun E σ H Q => ∃ B, rdE ⟨c.g, B, fun _ => E⟩ fe σ H Q) hg hm Fh.kp lk hcg hb Sg hNg hva (hG cdv) TB hcode hmT hu hr L hdef hbind
    (fun A outer s H E f c' hr2 => ⟨fun pins s2 σ H2 Q I h => (let ⟨B, h⟩ := h; (hbody A outer s H E f c' B hr2).run pins s2 σ H2 Q I h)⟩) hdb hd hcd) fun σ H Q q => ?_
  obtain ⟨τ, F, S, A, q⟩ := q
  unfold lamF at q
  split at q
  · rename_i S1 e1
    obtain ⟨F1, s1, A1⟩ := frzs_ok A e1
    refine ⟨A.a.ext.tabs, fun H1 eN t1 => ?_⟩
    have A2 := A1.extN eN t1
    refine ⟨F1, S1.nb, askOf fe S1.lo, A2.a.fh, A2.a.fn, A2.a.nib, t1, A2.a.ext.nt, fun F' H' n' ps E Q' so => ?_, ?_⟩
    · have A3 := (ps.abs A2).seen E
      refine ⟨_, [], F', _, A3, ?_⟩
      unfold askOf at so
      have so : spOut c.g F' H' Q' E (askEnd (fe ⟨S1.lo.map noOw, [], n'⟩)) := so
      show rOut _ F' σ [] _ (fe ⟨S1.lo.map noOw, [], n'⟩)
      cases e : fe ⟨S1.lo.map noOw, [], n'⟩ with
      | ok x S' =>
        rw [e] at so
        intro H3 F3 s3 v A4
        cases x with
        | fu => exact so.elim
        | no => exact so (fun z => nomatch z) v F3 H3 A4.pop.post A4.as.top
        | sh t => exact so (fun z => nomatch z) v F3 H3 A4.pop.post A4.as.top
        | ow t => exact so (fun z => nomatch z) v F3 H3 A4.pop.post A4.as.top
      | exc ex S' =>
        rw [e] at so
        exact fun cls d H3 F3 s3 A4 er => so cls d F3 H3 A4.post er
      | stuck => rw [e] at so; exact so.elim
    · cases e : fh (askOf fe S1.lo) S1.nb with
      | ok x n =>
        rw [e] at q
        exact fun nf v F' H' ps r => q H' F' (s1.trans ps.sF) v (ps.res A2 nf r)
      | exc ex n => rw [e] at q; exact q.elim
      | stuck => rw [e] at q; exact q.elim
  · exact q.elim
end
section
variable {X Y : Cx} {c : Cfg}
/-- x(), x what was handed in at f -/
theorem de_ask {e : Expr} {f c' : Addr} {q : Str} {tl : XK → Hp → VK → Prop} {ask : Nib → FR} {W : WX} (h : PE Y e (fun σZ HZ Q => σZ[0]? = some (some (.ref f)) ∧ HZ c' = some (LamX.CodeO c' q) ∧ tl (fun cls d H => W cls d σZ H) HZ Q))
    (hc : c.B.H c' = some (LamX.CodeO c' q)) (hn : c' ≠ c.g.nb) (hfv : c.B.fv = .ref f) (hE : c.E = fun σ cls d H => W cls d σ H)
    (ht : ∀ F' H' n', Post c.g c.B.F c.B.H F' H' n' → ∀ (E : XK) (Q' : VK), spOut c.g F' H' Q' E (ask n') → tl E H' Q') : PE Y e (rdE c (askF 0 ask)) := by
  refine PE.imp h fun σ H Q q => ?_
  obtain ⟨τ, F, S, A, q1⟩ := q
  unfold askF at q1
  split at q1
  · rename_i e0
    obtain ⟨o, h1, h2⟩ := A.slot e0
    have h2 : o = some c.B.fv := h2
    rw [hfv] at h2
    subst h2
    have hp : Post c.g c.B.F c.B.H F H S.nb := ⟨A.a.ext.bs, A.a.fh, A.a.fn, A.a.nib, A.a.keep, A.a.ext.tabs, A.a.fre, A.a.ext.nt, A.a.ext.cel⟩
    have hcH : H c' = some (LamX.CodeO c' q) := A.a.keep _ _ hc (fun ps z => by unfold LamX.CodeO at z; cases z) hn
    refine ⟨h1, hcH, ht F H S.nb hp _ Q ?_⟩
    cases e : ask S.nb with
    | ok x n =>
      rw [e] at q1
      exact fun nf v F' H' p r => q1 H' F' p.sF v (p.res A nf r)
    | exc ex n =>
      rw [e] at q1
      intro cls d F' H' p r
      have := q1 cls d H' F' p.sF (p.abs A) (r.up A)
      rw [hE] at this
      exact this
    | stuck => rw [e] at q1; exact q1.elim
  · exact q1.elim
end
def hFn (n : Nat) (bh : (Nib → FR) → SF) : HFn := fun ask nb => fnEnd (bh ask ⟨.fu :: List.replicate (n - 1) .no, [], nb⟩)
/-- a def that gets the lambda, by its body's reading -/
theorem heard_gives {X : Cx} {g : Ga} {N : List Str} {x a q : Str} {sg : Scope} {gd : Addr} {cdg : Value} {bg : List Stmt} {bh : (Nib → FR) → SF} (hN : N.length = N.length - 1 + 1)
    (hb : ∀ (ask : Nib → FR) (f c' : Addr) (s : Shared) (H F : Hp) (tl : XK → Hp → VK → Prop),
      (∀ (W : WX) (pn : List (Addr × Obj)) (xe : Value → Shared → Prop) (p1 p2 : Pos), Takes ((cxOf C8.CX0 X.prog X.w X.K X.mg X.base N x sg gd cdg X.A X.stack s H C8.E0).tr pn xe) W →
        PE ((cxOf C8.CX0 X.prog X.w X.K X.mg X.base N x sg gd cdg X.A X.stack s H C8.E0).tr pn xe) (.Call (.Name a p1) [] [] p2) (fun σZ HZ Q => σZ[0]? = some (some (.ref f)) ∧ HZ c' = some (LamX.CodeO c' q) ∧ tl (fun cls d H => W cls d σZ H) HZ Q)) →
      H c' = some (LamX.CodeO c' q) → c' ≠ g.nb → (∀ F' H' n', Post g F H F' H' n' → ∀ (E : XK) (Q' : VK), spOut g F' H' Q' E (ask n') → tl E H' Q') →
      PSs (cxOf C8.CX0 X.prog X.w X.K X.mg X.base N x sg gd cdg X.A X.stack s H C8.E0).nox bg (rdS ⟨g, ⟨H, F, .ref f⟩, fun _ _ _ _ => False⟩ (bh ask))) :
    GivesS X N x sg gd cdg bg a q (TTh g (hFn N.length bh)) := by
  intro f c' s H Q tl act hc h
  obtain ⟨F, n, ask, sF, fn, nib, tabs, nt, ht, so⟩ := h
  have hn : c' ≠ g.nb := fun z => by
    obtain ⟨cc, n1, _⟩ := nib
    rw [← z, hc] at n1
    have n1 := Option.some.inj n1
    unfold LamX.CodeO at n1
    cases n1
  refine ⟨_, hb ask f c' s H F tl act hc hn ht, F, ⟨.fu :: List.replicate (N.length - 1) .no, [], n⟩, ?_, ?_⟩
  · have e : start N [V.ref f] = some (.ref f) :: List.replicate (N.length - 1) none := by
      show [V.ref f].map some ++ List.replicate (N.length - 1) none = _
      rfl
    rw [e]
    refine ⟨⟨sF, fn, nib, fun _ _ h _ _ => h, fun _ _ _ _ h => h, ⟨Same.refl F, nt, tabs, CelS.refl H⟩, ?_, fun i s o h1 h2 => ?_, fun i j t u b h1 _ _ _ => ?_⟩, ?_⟩
    · show ((Slot.fu :: List.replicate (N.length - 1) Slot.no) ++ []).length = _
      simp
    · have h1 : ((Slot.fu :: List.replicate (N.length - 1) Slot.no) ++ [])[i]? = some s := h1
      rw [List.append_nil] at h1 h2
      match i, h1, h2 with
      | 0, h1, h2 => cases h1; cases h2; rfl
      | i + 1, h1, h2 =>
        have h1 : (List.replicate (N.length - 1) Slot.no)[i]? = some s := h1
        have := List.mem_of_getElem? h1
        rw [List.mem_replicate] at this
        rw [this.2]
        trivial
    · have h1 : ((Slot.fu :: List.replicate (N.length - 1) Slot.no) ++ [])[i]? = some (.ow t) := h1
      rw [List.append_nil] at h1
      match i, h1 with
      | 0, h1 => cases h1
      | i + 1, h1 =>
        have h1 : (List.replicate (N.length - 1) Slot.no)[i]? = some (.ow t) := h1
        have := List.mem_of_getElem? h1
        rw [List.mem_replicate] at this
        cases this.2
    · simp
  · unfold hFn at so
    cases e : bh ask ⟨.fu :: List.replicate (N.length - 1) .no, [], n⟩ with
    | ok fl S1 =>
      rw [e] at so
      intro H' F' s2
      cases fl with
      | nx => exact fun σ' A' => so (fun z => nomatch z) .non F' H' A'.post ⟨.non, rfl, .non⟩
      | rt x =>
        refine fun v σ' A' => ?_
        have A2 : AbsX ⟨g, ⟨H, F, .ref f⟩, fun _ _ _ _ => False⟩ F' (S1.push x) σ' ([] ++ [some v]) H' := A'
        cases x with
        | fu => exact so.elim
        | no => exact so (fun z => nomatch z) v F' H' A2.pop.post (A2.as.top)
        | sh t => exact so (fun z => nomatch z) v F' H' A2.pop.post A2.as.top
        | ow t => exact so (fun z => nomatch z) v F' H' A2.pop.post A2.as.top
      | bk => exact so.elim
      | ct => exact so.elim
    | exc ex S1 =>
      rw [e] at so
      exact fun cls d σ' H' F' s2 A' er => so cls d F' H' A'.post er
    | stuck => rw [e] at so; exact so.elim
/-- a def whose code object is known (it makes lambdas) -/
structure FunC (K : PySem.W.Frag) (x qual : Str) (st : Stmt) (f : Addr) (fd : FuncData) (cc : Addr) : Prop where
  ex : ∃ (oc : Value) (od : Option Addr) (kV doc pm : Value) (an : Option Addr) (ct : Value) (osl : Array (Option Value)),
    fd = PySem.W.fnOf x qual (defArgs st) (defBody st) (defScope st) .none kV doc pm an (.ref cc) ct ∧ K.lookup f = some ⟨oc, od, .func fd, osl⟩ ∧ PySem.W.codeIn K (.ref cc) qual = true
theorem funC_mk {K : PySem.W.Frag} {x qual : Str} {st : Stmt} {f cc : Addr} {kV doc pm ct oc : Value} {an od : Option Addr} {osl : Array (Option Value)} (lk : K.lookup f = some ⟨oc, od, .func (PySem.W.fnOf x qual (defArgs st) (defBody st) (defScope st) .none kV doc pm an (.ref cc) ct), osl⟩) (hcd : PySem.W.codeIn K (.ref cc) qual = true) :
    FunC K x qual st f (PySem.W.fnOf x qual (defArgs st) (defBody st) (defScope st) .none kV doc pm an (.ref cc) ct) cc := ⟨_, _, _, _, _, _, _, _, rfl, lk, hcd⟩
section
variable {P : Program} {w : World} {K : PySem.W.Frag} {mg : Str → Option Value} {base : Heap}
theorem FunC.okX {x qual : Str} {st : Stmt} {f cc : Addr} {fd : FuncData} {N ps : List Str} {k : Nat} {sp : Sp} (F : FunC K x qual st f fd cc) (S : FnScope N ps (defScope st)) (len : ∀ vs H Q E, sp vs H Q E → vs.length = ps.length)
    (hbody : ∀ (A : Around) (outer : List Env) (s : Shared) (H : Hp) (vs : List V) (Q : VK) (E : XK), Room k (A.deeper (envOfC qual (defScope st) s.heap.objs.size f (.ref cc))) → sp vs H Q E →
      ∃ t, PSs (cxOf (L2.CX P w) P w K mg base N qual (defScope st) f (.ref cc) A outer s H E) (defBody st) t ∧ t { nx := fun _ H' => Q .non H', rt := Q } (start N vs) H) : FnOk P w K mg base (L2.CX P w) (k + 1) f fd ps sp := by
  obtain ⟨oc, od, kV, doc, pm, an, ct, osl, rfl, lk, hcd⟩ := F.ex
  exact fn_of lk hcd S len fun A outer s H vs Q E hr hsp => hbody A outer s H vs Q E hr hsp
theorem body_run {g : Ga} {X : Cx} {N : List Str} {bd : List Stmt} {b : SF} {vs : List V} {H F : Hp} {Q : VK} {E : XK} {ts : List T} {n : Nib} (hb : PSs X bd (rdS ⟨g, ⟨H, F, .non⟩, fun _ => E⟩ b)) (hl : RepAll g F vs ts) (s1 : Same F H) (fn : F g.nb = none) (nb : NibRel g F H n) (tb : LamX.Tabs g.tb H) (nt : ∀ a o, F a = some o → NT o)
    (q : spOut g F H Q E (fnOf N.length b ts n)) : ∃ t, PSs X bd t ∧ t { nx := fun _ H' => Q .non H', rt := Q } (start N vs) H := by
  refine ⟨_, hb, F, sta0 N.length ts n, sta0_abs hl s1 fn nb tb nt, ?_⟩
  unfold fnOf at q
  cases e : b (sta0 N.length ts n) with
  | ok fl S1 =>
    rw [e] at q
    intro H' F' s2
    cases fl with
    | nx => exact fun σ' A' => q (fun z => nomatch z) .non F' H' A'.post ⟨.non, rfl, .non⟩
    | rt x =>
      refine fun v σ' A' => ?_
      have A2 : AbsX ⟨g, ⟨H, F, .non⟩, fun _ => E⟩ F' (S1.push x) σ' ([] ++ [some v]) H' := A'
      cases x with
      | fu => exact q.elim
      | no => exact q (fun z => nomatch z) v F' H' A2.pop.post A2.as.top
      | sh t => exact q (fun z => nomatch z) v F' H' A2.pop.post A2.as.top
      | ow t => exact q (fun z => nomatch z) v F' H' A2.pop.post A2.as.top
    | bk => exact q.elim
    | ct => exact q.elim
  | exc ex S1 =>
    rw [e] at q
    exact fun cls d σ' H' F' s2 A' er => q cls d F' H' A'.post er
  | stuck => rw [e] at q; exact q.elim
/-- a def that makes lambdas, by its body's reading -/
theorem fn_okC {g : Ga} {x qual : Str} {st : Stmt} {f cc : Addr} {fd : FuncData} {N ps : List Str} {k : Nat} {b : SF} (Fu : FunC K x qual st f fd cc) (S : FnScope N ps (defScope st))
    (hb : ∀ (A : Around) (outer : List Env) (s : Shared) (H F0 : Hp) (E : XK), Room k (A.deeper (envOfC qual (defScope st) s.heap.objs.size f (.ref cc))) →
      PSs (cxOf (L2.CX P w) P w K mg base N qual (defScope st) f (.ref cc) A outer s H E) (defBody st) (rdS ⟨g, ⟨H, F0, .non⟩, fun _ => E⟩ b)) : FnOk P w K mg base (L2.CX P w) (k + 1) f fd ps (spT g ps.length (fnOf N.length b)) := by
  refine Fu.okX S (fun vs H Q E h => ?_) (fun A outer s H vs Q E hr h => ?_)
  · obtain ⟨F, ts, n, hl, r, _⟩ := h
    rw [r.length, hl]
  · obtain ⟨F, ts, n, hl, r, s1, fn, nb, tb, nt, q⟩ := h
    exact body_run (hb A outer s H F E hr) r s1 fn nb tb nt q
end
end TL

end
section
set_option Elab.async false
set_option linter.all false
set_option maxRecDepth 100000
set_option autoImplicit false
set_option maxHeartbeats 2000000
/-! TL18: the law's head with tables of code objects; what the written part says of error classes -/
open PySem PySem.Spec PyProof.Rows L2
namespace TL
/-- each def's table of code objects is empty at the start -/
def Tabs0 (q : Program) (K : PySem.W.Frag) (h : Heap) : Prop := ∀ (x : Str) (c P : Addr), ((recsOf q).any fun e => e.name == x) = true → PySem.W.tabIn K x = some (c, P) → PySem.W.CodeHd h c P ∧ h.get? P = some { cls := .none, data := .fields #[] }
theorem walk_ofTabs {l : PySem.W.OpenLaw} {n k : Nat} {q : Program} {loose : List Str} {XP : (Str → Option Value) → Heap → Prop} {YP : World → Heap → Prop} {d : DefRec} {K : Params → PySem.W.Frag} {CX : World → CXT} {x : Str}
    (hn : l.most = some n) (hn2 : n ≤ sizeLine) (hdf : d.params.defaults = []) (hr : Room k callerA) (hY : ∀ (w : World) (h : Heap), YP w h → (K w.params).In h)
    (F : ∀ (w : World) (mg : Str → Option Value) (fa : Addr) (h : Heap), YP w h → (K w.params).In h → h.Ns mainGlobals mg → mg d.name = some (.ref fa) → Tabs0 q (K w.params) h → LamX.LawAtS l w (K w.params) (CX w) k n x mg fa h)
    (hCX : ∀ (w : World) (H : Hp) (s : Shared) (e : Value) (s' : Shared), CX w [] H s (fun _ _ _ => False) e s' → False) :
    PySem.W.WalkO q loose XP YP l.row.toRowW d [] (fun f vs => PySem.call f vs) := by
  refine Att.attach_callB hn hdf fun w s₀ s₁ mg mb fa o pm cd doc a vs ns G Y ho hd hcd hmg hobj hints hlen hbits hg => ?_
  have KX := hY w _ Y
  have own : Tabs0 q (K w.params) s₁.heap := fun x c P hm ht => by
    obtain ⟨dL, hm1, hn1⟩ := List.any_eq_true.mp hm
    have hf : ∃ d, (recsOf q).find? (fun e => e.name == x) = some d := by
      cases e : (recsOf q).find? (fun e => e.name == x) with
      | some d => exact ⟨d, rfl⟩
      | none => exact absurd hn1 (List.find?_eq_none.mp e dL hm1)
    obtain ⟨d, hd⟩ := hf
    exact PySem.W.tab_of G.T KX hd ht
  obtain ⟨fd, cs, sp, hT, nT, C, hb, hsp, hF⟩ := F w mg fa _ Y KX G.T.g hmg own
  exact LamX.law_callTs KX G.T.g G.T.b G.T.builtins G.T.nolimit hg hT nT C G.T.bmain hobj hints (Nat.le_trans hlen hn2) hr hF hb (fun H hH hS => hsp H a ns hlen hbits hH hS) fun H e s' => hCX w H s₁ e s'
/-- where a def's table stands -/
theorem tabIn_of {K : PySem.W.Frag} {x qual : Str} {f cc P : Addr} {params : Arguments} {body : List Stmt} {scope : Scope} {dV kV doc pm ct oc oc2 : Value} {an od od2 : Option Addr} {osl sl2 : Array (Option Value)} {vs : Array Value} (a : PySem.W.nsIn K mainGlobals x = some (some (.ref f))) (lk : K.lookup f = some ⟨oc, od, .func (PySem.W.fnOf x qual params body scope dV kV doc pm an (.ref cc) ct), osl⟩)
    (l2 : K.lookup cc = some ⟨oc2, od2, .fields vs, sl2⟩) (h : vs[11]? = some (.ref P)) : PySem.W.tabIn K x = some (cc, P) := by
  unfold PySem.W.tabIn
  rw [a]
  dsimp only
  rw [lk]
  dsimp only
  rw [l2]
  dsimp only
  rw [h]
/-! error classes -/
theorem oex_mk {K : PySem.W.Frag} {C : Addr} {nm q : Str} {N : Addr} {bs bm : List Value} {sn : List Str} {sub : List Value} {ab : Bool} {col : Option Bool} {dd : Option Addr} {m0 m1 m2 m3 m5 : Option Value} (xL : K.lookup C = some (excClassObj nm q C N bs bm true sn sub ab col dd m0 m1 m2 m3 m5 "ValueError.__new__")) (hbm : PySem.HandSPX.refsVE bm = true)
    (sa : PySem.W.findIn K (.ref C) "__setattr__" = some (some (.builtin "object.__setattr__"))) (eC : PySem.W.subIn K (.ref C) (.type "BaseException") = some true) (tC : PySem.W.typeIn K (.ref C) = some (.type "type")) (kC : PySem.W.keepIn K (.ref C) = true) : OexC K C :=
  ⟨⟨nm, q, N, bs, bm, sn, sub, ab, col, dd, m0, m1, m2, m3, m5, xL, hbm⟩, sa, eC, tC, kC⟩
section
variable {K : PySem.W.Frag} {C D : Addr} {b : Bool}
theorem kitC_of (hd : PySem.W.hasDictIn K D = true) (tD : PySem.W.typeIn K (.ref D) = some (.type "type")) {t : Value} (s : PySem.W.subIn K t (.ref D) = some b) : PySem.W.kitCls K t (.ref D) = some b := by
  obtain ⟨cd, hc, _⟩ := PySem.W.any_some hd
  unfold PySem.W.kitCls
  dsimp only
  rw [if_pos (by rw [hc, tD]; rfl)]
  exact s
/-- an error's class against a class -/
theorem kit_own (hd : PySem.W.hasDictIn K D = true) (tD : PySem.W.typeIn K (.ref D) = some (.type "type")) (s0 : PySem.W.subIn K (.ref D) (.ref D) = some true) (s : PySem.W.subIn K (.ref C) (.ref D) = some b) : PySem.W.kitOne K (.ref C) (.ref D) = some b := by
  unfold PySem.W.kitOne
  by_cases h : C = D
  · subst h
    rw [s] at s0
    cases s0
    rw [if_pos (by simp)]
  · rw [if_neg (by simpa using h)]
    exact kitC_of hd tD s
/-- a built-in type against a class -/
theorem kit_ty2 (hd : PySem.W.hasDictIn K D = true) (tD : PySem.W.typeIn K (.ref D) = some (.type "type")) {n : String} (s : PySem.W.subIn K (.type n) (.ref D) = some b) : PySem.W.kitOne K (.type n) (.ref D) = some b := by
  unfold PySem.W.kitOne
  rw [if_neg (by simp)]
  exact kitC_of hd tD s
theorem exm_own (eD : PySem.W.subIn K (.ref D) (.type "BaseException") = some true) (hd : PySem.W.hasDictIn K D = true) (tD : PySem.W.typeIn K (.ref D) = some (.type "type")) (s : PySem.W.subIn K (.ref C) (.ref D) = some b) : PySem.W.exmOne K (.ref C) (.ref D) = some b := by
  unfold PySem.W.exmOne
  rw [if_pos (by rw [eD]; rfl)]
  exact kitC_of hd tD s
theorem kitAny1 {t u : Value} (h : PySem.W.kitOne K t u = some b) : PySem.W.kitAny K t [u] = some b := by
  unfold PySem.W.kitAny
  rw [h]
  cases b <;> rfl
theorem kitAny2 {t u : Value} {us : List Value} {b2 : Bool} (h : PySem.W.kitOne K t u = some b) (h2 : PySem.W.kitAny K t us = some b2) : PySem.W.kitAny K t (u :: us) = some (b || b2) := by
  unfold PySem.W.kitAny
  rw [h]
  cases b with
  | true => rfl
  | false => exact h2
end
end TL

end
section
set_option Elab.async false
set_option linter.all false
set_option maxRecDepth 100000
set_option autoImplicit false
set_option maxHeartbeats 2000000
/-! TL19: star items, {}, sorted(set(..)), three names at once, blocks within blocks -/
open PySem PySem.Spec PyProof.Rows L2
namespace TL
theorem lookup_relabel {env : Env} {x : Str} {k : NameKind} (hk : k = .cell ∨ k = .free) : ∀ {names : List (Str × NameKind)}, names.lookup x = some k →
    (names.map fun (n, k) => if (k == NameKind.free && env.scope.kind == .function && env.kindOf n == some .cell) then (n, NameKind.cell) else (n, k)).lookup x = some .cell ∨
    (names.map fun (n, k) => if (k == NameKind.free && env.scope.kind == .function && env.kindOf n == some .cell) then (n, NameKind.cell) else (n, k)).lookup x = some .free
  | [], h => by simp at h
  | (n, j) :: r, h => by
    rw [List.map_cons, List.lookup_cons]
    rw [List.lookup_cons] at h
    have e1 : (if (j == NameKind.free && env.scope.kind == .function && env.kindOf n == some .cell) = true then (n, NameKind.cell) else (n, j)).1 = n := by split <;> rfl
    simp only [e1]
    cases hx : x == n with
    | true =>
      rw [hx] at h
      cases h
      simp only
      split
      · exact .inl rfl
      · rcases hk with e | e
        · exact .inl (congrArg some e)
        · exact .inr (congrArg some e)
    | false =>
      rw [hx] at h
      simp only at h ⊢
      exact lookup_relabel hk h
theorem blkOk_in {N : List Str} {sc0 scope : Scope} {env : Env} {own : List (Str × Nat)} (h : blkC N sc0 scope own = true) : BlkOk N (relabel sc0 env) scope own := by
  have b := blkOk_by h
  refine ⟨b.kind, b.uniq, b.ix, fun y hy e => ?_, b.own⟩
  rcases b.free y hy e with q | q
  · exact lookup_relabel (.inl rfl) q
  · exact lookup_relabel (.inr rfl) q

section
variable {X : Cx} {c : Cfg} {e a b : Expr} {es : List Expr} {pos : Pos}
/-- {} -/
def dicF : EF := fun S => .ok (.ow (.dic [])) S
theorem de_dnew : PE X (.Dict [] [] pos) (rdE c dicF) := by
  refine PE.imp pe_dnewK fun σ H Q q => ?_
  obtain ⟨τ, F, S, A, q⟩ := q
  intro p np
  exact q _ F (Same.refl F) (.ref p) (A.newOw (.dic .nil) np)
/-- *e among the items -/
def starA (f : OF) (r : AF) : AF := fun S => (f S).bind fun o S1 => match o with
  | .val (.lst ts) => (r S1).bind fun os S2 => .ok (ts.map Opd.val ++ os) S2
  | .val (.tup ts) => (r S1).bind fun os S2 => .ok (ts.map Opd.val ++ os) S2
  | _ => .stuck
theorem opds_app {g : Ga} {F : Hp} {σ : List (Option V)} {os : List Opd} {ws : List V} (h : OpdAll g F σ os ws) : ∀ {vs : List V} {ts : List T}, RepAll g F vs ts → OpdAll g F σ (ts.map Opd.val ++ os) (vs ++ ws)
  | _, _, .nil => h
  | _, _, .cons r q => .cons r (opds_app h q)
theorem da_star {f : OF} {r : AF} {p : Pos} (hK : c.g.K = X.K) (h : PE X e (rdO c f)) (hr : PA X es (rdA c r)) (hs : starEach (.Starred e p :: es) X.env = (true, eval e X.env) :: starEach es X.env := by rfl) : PA X (.Starred e p :: es) (rdA c (starA f r)) := by
  refine PA.imp (StX.pa_star h hr hs) fun σ H Q q => ?_
  obtain ⟨τ, F, S, A, q⟩ := q
  refine ⟨τ, F, S, A, rOut.bind q fun o S1 F1 H1 s1 q1 v A1 r1 => ?_⟩
  split at q1
  · cases r1 with
    | lst e1 r =>
      exact ⟨_, _, rfl, .inr (.inl (.inl (A1.a.fh _ _ e1))), τ, F1, S1, A1, rOut.bind q1 fun os S2 F2 H2 s2 q2 vs A2 r2 => q2 H2 F2 (Same.refl F2) _ A2 (opds_app r2 (r.mono s2))⟩
  · cases r1 with
    | tup e1 r =>
      exact ⟨_, _, rfl, .inl (hK ▸ sameSqT A1.a.fh e1.sq), τ, F1, S1, A1, rOut.bind q1 fun os S2 F2 H2 s2 q2 vs A2 r2 => q2 H2 F2 (Same.refl F2) _ A2 (opds_app r2 (r.mono s2))⟩
  · exact q1.elim
/-- set(t), t a tuple of integers -/
def rSetT (K : PySem.W.Frag) (w : World) : List V → Hp → VK → Prop := fun xs H Q => ∃ (a : Addr) (ns : List Int), xs = [.ref a] ∧ SqT K H a (ns.map V.int) ∧ ns.length + 1 < scanBound ∧
  ∀ p n, H p = none → n ≤ ns.length → Q (.ref p) (upd H p (SetO w p (fun j => decide (j ∈ ns)) n))
theorem cr_setT (hc : X.calm = true) : CallR X (.type "set") (rSetT X.K X.w) := by
  intro pins s σ H xs us Q I r h
  obtain ⟨a, ns, rfl, hs, hb, q⟩ := h
  obtain ⟨u, rfl, rx⟩ := vals1 r
  cases rx
  obtain ⟨its, r', ht, hz⟩ := I.tuple hs
  refine call_set_tupI ns (I.ok.hd hc) ht (ints_of_vals r') hb fun h' tk c R hc' kp => ?_
  have hn : H s.heap.objs.size = none := I.hok.fresh (Nat.le_refl _)
  exact ⟨.ref _, _, I.laid (a := s.heap.objs.size) (t' := tk) kp (Nat.le_refl _) (setO_new R), rfl, q _ _ hn hc'⟩
theorem set_count {ns ms : List Int} (h1 : ms.Pairwise (· < ·)) (h2 : ∀ k : Int, k ∈ ms ↔ decide (k ∈ ns) = true) : ms = sortI ms ∧ ∀ k, k ∈ ms ↔ k ∈ ns := ⟨PySem.W.os_sorted_one (sortI_perm ms).symm (h1.imp fun h => Int.le_of_lt h) (sortI_pw ms), fun k => (h2 k).trans decide_eq_true_iff⟩
def dedup : List Int → List Int
  | [] => []
  | x :: xs => if x ∈ dedup xs then dedup xs else x :: dedup xs
theorem dedup_mem (k : Int) : ∀ xs : List Int, k ∈ dedup xs ↔ k ∈ xs
  | [] => Iff.rfl
  | x :: xs => by
    unfold dedup
    split
    · rename_i h
      rw [dedup_mem k xs, List.mem_cons]
      refine ⟨.inr, fun z => ?_⟩
      rcases z with z | z
      · rw [z]; exact (dedup_mem x xs).mp h
      · exact z
    · rw [List.mem_cons, List.mem_cons, dedup_mem k xs]
theorem dedup_nd : ∀ xs : List Int, (dedup xs).Nodup
  | [] => List.nodup_nil
  | x :: xs => by
    unfold dedup
    split
    · exact dedup_nd xs
    · rename_i h
      exact List.nodup_cons.mpr ⟨h, dedup_nd xs⟩
def sortSetN : List T → Option Slot
  | [.tup ts] => (intsT ts).bind fun ns => if ns.length < 60 then some (.ow (.lst ((sortI (dedup ns)).map T.int))) else none
  | _ => none
theorem sort_set {ns ms : List Int} (h1 : ms.Pairwise (· < ·)) (h2 : ∀ k : Int, k ∈ ms ↔ decide (k ∈ ns) = true) : ms = sortI (dedup ns) := by
  have nd : ms.Nodup := h1.imp fun h e => by omega
  have pm : ms.Perm (dedup ns) := (List.perm_ext_iff_of_nodup nd (dedup_nd ns)).mpr fun k => by rw [dedup_mem, h2, decide_eq_true_iff]
  exact PySem.W.os_sorted_one (pm.trans (sortI_perm _).symm) (h1.imp fun h => Int.le_of_lt h) (sortI_pw _)
theorem de_sortSet {fa : AF} {p1 p2 pos2 : Pos} (hK : c.g.K = X.K) (hc : X.calm = true) (hg : Gl X "sorted") (hm : X.mg "sorted" = none) (hg2 : Gl X "set") (hm2 : X.mg "set" = none) (ha : PA X [e] (rdA c fa)) (he : starEach [e] X.env = [(false, eval e X.env)] := by rfl)
    (he2 : starEach [.Call (.Name "set" p2) [e] [] pos2] X.env = [(false, eval (.Call (.Name "set" p2) [e] [] pos2) X.env)] := by rfl) :
    PE X (.Call (.Name "sorted" p1) [.Call (.Name "set" p2) [e] [] pos2] [] pos) (rdE c (opN sortSetN fa)) := by
  refine PE.imp (pe_callB (cr_sortedSet hc) hg hm (by decide +kernel : bootBuiltins "sorted" = some (.builtin "sorted")) (pa_cons (pe_callTy (cr_setT hc) hg2 hm2 (by decide +kernel : bootBuiltins "set" = some (.type "set")) ha (by decide) (by decide) he) pa_nil he2) (by decide) (by decide) he2) fun σ H Q q => ?_
  have q := opN_out (r := fun xs H1 Q => ∃ (a : Addr) (ns : List Int), xs = [.ref a] ∧ SqT X.K H1 a (ns.map V.int) ∧ ns.length < 60 ∧ ∀ (p p' : Addr) (n : Nat), H1 p = none → (upd H1 p (SetO X.w p (fun j => decide (j ∈ ns)) n)) p' = none → Q (.ref p') (upd (upd H1 p (SetO X.w p (fun j => decide (j ∈ ns)) n)) p' (.lst ((sortI (dedup ns)).map V.int)))) (p := sortSetN) ?_ q
  · refine (?_ : ∀ (t : TA) (P1 P2 : List V → Hp → Prop), (∀ vs H, P1 vs H → P2 vs H) → t = rdA c fa → t σ H P1 → t σ H P2) _ _ _ (fun vs H1 h => ?_) rfl q
    · intro t P1 P2 h e1 h2
      subst e1
      obtain ⟨τ, F, S, A, q⟩ := h2
      refine ⟨τ, F, S, A, ?_⟩
      revert q
      cases fa S with
      | ok os S1 => exact fun q H' F' s vs A' r => h _ _ (q H' F' s vs A' r)
      | exc e S1 => exact id
      | stuck => exact id
    · obtain ⟨a, ns, rfl, hs, hl, k⟩ := h
      refine ⟨a, ns, rfl, hs, by have : scanBound > 100 := by decide
                                 omega, fun p n np hn => ⟨p, _, n, rfl, upd_same, by omega, fun ms p' h1 h2 h3 np' => ?_⟩⟩
      have := k p p' n np np'
      rw [sort_set h1 h2]
      exact this
  · intro F S σ τ H xs ts z Q A hx hz k
    unfold sortSetN at hz
    split at hz
    · obtain ⟨ns, h1, h2⟩ := Option.bind_eq_some_iff.mp hz
      split at h2
      · rename_i hl
        cases h2
        have e := intsT_of h1
        subst e
        obtain ⟨v, rfl, h⟩ := hx.one
        obtain ⟨p, vs, rfl, h3, r⟩ := h.tup A.a.fh
        rw [r.ints] at h3
        refine ⟨p, ns, rfl, hK ▸ h3, hl, fun p1 p2 n np np2 => ?_⟩
        have A1 : AbsX c F S σ τ (upd H p1 (SetO X.w p1 (fun j => decide (j ∈ ns)) n)) := A.st fun b u e => by
          rw [upd_ne (fun z => by rw [z, np] at e; cases e)]
          exact e
        exact fin_ow A1 k (.lst (RepAll.of_ints _)) np2
      · cases h2
    · cases hz
/-- x, y, z = a, b, c with plain local names -/
def par3F (i j l : Nat) (f g h : OF) : SF := fun S => (f S).bind fun o S1 => (g S1).bind fun o2 S2 => (h S2).bind fun o3 S3 => match o, o2, o3 with
  | .val t, .val u, .val v => if i < S3.lo.length ∧ j < S3.lo.length ∧ l < S3.lo.length then .ok .nx (((S3.put i (.sh t)).put j (.sh u)).put l (.sh v)) else .stuck
  | _, _, _ => .stuck
theorem ds_par3 {i j l : Nat} {x y z : Str} {d : Expr} {fa fb fd : OF} {px py pz pt : Pos} {kt k2 pt2} (hc : X.calm = true) (hN : X.N.Nodup) (hi : X.N[i]? = some x) (hj : X.N[j]? = some y) (hl : X.N[l]? = some z) (hij : i ≠ j) (hil : i ≠ l) (hjl : j ≠ l)
    (hx : X.env.scope.names.lookup x = some .local) (hy : X.env.scope.names.lookup y = some .local) (hz : X.env.scope.names.lookup z = some .local) (ha : PE X a (rdO c fa)) (hb : PE X b (rdO c fb)) (hd : PE X d (rdO c fd))
    (hw : swappedStores [.Tuple [.Name x px, .Name y py, .Name z pz] kt pt] (.Tuple [a, b, d] k2 pt2) X.env = pure (some [x, y, z]))
    (hs : swapsWithSole [.Tuple [.Name x px, .Name y py, .Name z pz] kt pt] (.Tuple [a, b, d] k2 pt2) pos.line X.env = pure false := by rfl)
    (s1 : starEach [a, b, d] X.env = (false, eval a X.env) :: starEach [b, d] X.env := by rfl) (s2 : starEach [b, d] X.env = (false, eval b X.env) :: starEach [d] X.env := by rfl) (s3 : starEach [d] X.env = (false, eval d X.env) :: starEach [] X.env := by rfl) :
    PS X (.Assign [.Tuple [.Name x px, .Name y py, .Name z pz] kt pt] (.Tuple [a, b, d] k2 pt2) pos) (rdS c (par3F i j l fa fb fd)) := by
  refine ps_imp (ps_par3 hc hN hi hj hl hij hil hjl hx hy hz (pa_cons ha (pa_cons hb (pa_cons hd pa_nil s3) s2) s1) hw hs) fun D σ H q => ?_
  obtain ⟨F, S, A, q⟩ := q
  refine ⟨[], F, S, A, sOut.bind q fun o S1 F1 H1 s1 q1 v A1 r1 => ⟨[], F1, S1, A1, sOut.bind q1 fun o2 S2 F2 H2 s2 q2 w A2 r2 => ⟨[], F2, S2, A2, sOut.bind q2 fun o3 S3 F3 H3 s3 q3 u A3 r3 => ?_⟩⟩⟩
  split at q3
  · split at q3
    · rename_i hh
      refine ⟨v, w, u, rfl, ?_⟩
      have l3 : S3.lo.length = σ.length := A3.l
      have A4 := (A3.pushSh ((Rep.mono s2 r1).mono s3)).assign (i := i) (by rw [← l3]; exact hh.1)
      have A5 := (A4.pushSh (Rep.mono s3 r2)).assign (i := j) (by rw [List.length_set, ← l3]; exact hh.2.1)
      have A6 := (A5.pushSh r3).assign (i := l) (by rw [List.length_set, List.length_set, ← l3]; exact hh.2.2)
      exact q3 H3 F3 (Same.refl F3) _ A6
    · exact q3.elim
  · exact q3.elim
end
end TL

end
section
set_option Elab.async false
set_option linter.all false
set_option maxRecDepth 100000
set_option autoImplicit false
set_option maxHeartbeats 2000000
/-! TL20: defs of which it is known that no repr runs around them; repr of a list -/
open PySem PySem.Spec PyProof.Rows L2
namespace TL
/-- as FnOk, where nothing is being shown around the call -/
structure FnOkG (P : Program) (w : World) (K : PySem.W.Frag) (mg : Str → Option Value) (base : Heap) (CX : CXT) (k : Nat) (f : Addr) (fd : FuncData) (ps : List Str) (sp : Sp) : Prop where
  len : ∀ vs H Q E, sp vs H Q E → vs.length = ps.length
  run : ∀ (A : Around) (outer : List Env) (s : Shared) (H : Hp) (args : Args) (us : List Value) (vs : List V) (Q : VK) (E : XK), A.guards = some [] → Room k A → Env0 P w K mg base A outer s H → BindsTo s fd args (ps.zip us) → Vals vs us → sp vs H Q E →
    codeAny (model P w) A (.call (.ref f) args) (CR CX outer P w H s Q E) s
theorem FnOk.toG {P : Program} {w : World} {K : PySem.W.Frag} {mg : Str → Option Value} {base : Heap} {CX : CXT} {k : Nat} {f : Addr} {fd : FuncData} {ps : List Str} {sp : Sp} (F : FnOk P w K mg base CX k f fd ps sp) : FnOkG P w K mg base CX k f fd ps sp :=
  ⟨F.len, fun A outer s H args us vs Q E _ hr e b r q => F.run A outer s H args us vs Q E hr e b r q⟩
section
variable {CX : CXT} {P : Program} {w : World} {K : PySem.W.Frag} {mg : Str → Option Value} {base : Heap} {k : Nat} {f : Addr} {name qual : Str} {params : Arguments} {body : List Stmt} {scope : Scope} {dV kV doc pm cdv ct oc : Value} {an od : Option Addr}
    {osl : Array (Option Value)} {N ps : List Str} {sp : Sp}
theorem fn_ofG (lk : K.lookup f = some ⟨oc, od, .func (PySem.W.fnOf name qual params body scope dV kV doc pm an cdv ct), osl⟩) (hcd : PySem.W.codeIn K cdv qual = true) (S : FnScope N ps scope)
    (len : ∀ vs H Q E, sp vs H Q E → vs.length = ps.length)
    (hbody : ∀ (A : Around) (outer : List Env) (s : Shared) (H : Hp) (vs : List V) (Q : VK) (E : XK), A.guards = some [] → Room k (A.deeper (envOfC qual scope s.heap.objs.size f cdv)) → sp vs H Q E →
      ∃ t, PSs (cxOf CX P w K mg base N qual scope f cdv A outer s H E) body t ∧ t { nx := fun _ H' => Q .non H', rt := Q } (start N vs) H) :
    FnOkG P w K mg base CX (k + 1) f (PySem.W.fnOf name qual params body scope dV kV doc pm an cdv ct) ps sp := by
  refine ⟨len, fun A outer s H args us vs Q E hgd hr e0 hb r hsp => ?_⟩
  have hl := len _ _ _ _ hsp
  have kp := fun b o e => (e0.bs b o e).1
  have hkind : ∀ y ∈ ps.zip us, scope.names.lookup y.1 = some .local ∨ (scope.names.lookup y.1 = some .cell ∧ ((cellsFrom (s.heap.objs.size + 1) scope.names []).lookup y.1).isSome = true) := fun y hy =>
    (S.par y.1 (List.of_mem_zip hy).1).imp id fun q => ⟨q, PySem.W.cellsFrom_some _ _ _ (.inl q)⟩
  refine codeAny_call_function hr.depth (e0.mod.kin.keeps kp _ _ lk) rfl S.co S.gen rfl (PySem.W.codeRec_of (e0.mod.kin.keeps kp) hcd) (hb _ _ _ _ ?_)
  refine wpAny_newFunctionEnv_cells S.kind hkind fun env he s1 x => ?_
  subst he
  refine ⟨(e0.mod.nolimit.keeps kp).keeps x.toInCall.keep, codeAny_func ?_⟩
  obtain ⟨t, ht, hq⟩ := hbody A outer s H vs Q E hgd (hr.deeper _) hsp
  refine wpAny_mono (ht.run [] s1 (start N vs) H _ (inv_start S hr.hd e0 hl r x) hq) (fun fl s' hs => ?_) fun e s' hs => hs
  cases fl with
  | ret u =>
    obtain ⟨v, σ', H', J, rv, q⟩ := hs
    exact ⟨v, H', J.os, J.bare, J.base, J.hok, rv, q⟩
  | next =>
    obtain ⟨σ', H', J, q⟩ := hs
    exact ⟨.non, H', J.os, J.bare, J.base, J.hok, rfl, q⟩
  | brk => exact (hs.elim fun _ h => h.elim fun _ h => h.2).elim
  | cont => exact (hs.elim fun _ h => h.elim fun _ h => h.2).elim
end
section
variable {P : Program} {w : World} {K : PySem.W.Frag} {mg : Str → Option Value} {base : Heap}
theorem okXG {x qual : Str} {st : Stmt} {f : Addr} {fd : FuncData} {N ps : List Str} {k : Nat} {sp : Sp} (Fu : Fun K x qual st f fd) (S : FnScope N ps (defScope st)) (len : ∀ vs H Q E, sp vs H Q E → vs.length = ps.length)
    (hbody : ∀ (cdv : Value) (A : Around) (outer : List Env) (s : Shared) (H : Hp) (vs : List V) (Q : VK) (E : XK), A.guards = some [] → Room k (A.deeper (envOfC qual (defScope st) s.heap.objs.size f cdv)) → sp vs H Q E →
      ∃ t, PSs (cxOf (L2.CX P w) P w K mg base N qual (defScope st) f cdv A outer s H E) (defBody st) t ∧ t { nx := fun _ H' => Q .non H', rt := Q } (start N vs) H) : FnOkG P w K mg base (L2.CX P w) (k + 1) f fd ps sp := by
  obtain ⟨oc, od, kV, doc, pm, an, cdv, ct, osl, rfl, lk, hcd⟩ := Fu.ex
  exact fn_ofG lk hcd S len fun A outer s H vs Q E hgd hr h => hbody cdv A outer s H vs Q E hgd hr h
theorem fn_okG {g : Ga} {x qual : Str} {st : Stmt} {f : Addr} {fd : FuncData} {N ps : List Str} {k : Nat} {b : SF} (Fu : Fun K x qual st f fd) (S : FnScope N ps (defScope st))
    (hb : ∀ (cdv : Value) (A : Around) (outer : List Env) (s : Shared) (H F0 : Hp) (E : XK), A.guards = some [] → Room k (A.deeper (envOfC qual (defScope st) s.heap.objs.size f cdv)) →
      PSs (cxOf (L2.CX P w) P w K mg base N qual (defScope st) f cdv A outer s H E) (defBody st) (rdS ⟨g, ⟨H, F0, .non⟩, fun _ => E⟩ b)) : FnOkG P w K mg base (L2.CX P w) (k + 1) f fd ps (spT g ps.length (fnOf N.length b)) := by
  obtain ⟨oc, od, kV, doc, pm, an, cdv, ct, osl, rfl, lk, hcd⟩ := Fu.ex
  refine fn_ofG lk hcd S (fun vs H Q E h => ?_) (fun A outer s H vs Q E hgd hr h => ?_)
  · obtain ⟨F, ts, n, hl, r, _⟩ := h
    rw [r.length, hl]
  · obtain ⟨F, ts, n, hl, r, s1, fn, nb, tb, nt, q⟩ := h
    exact body_run (hb cdv A outer s H F E hgd hr) r s1 fn nb tb nt q
end
section
variable {X : Cx} {c : Cfg} {k : Nat} {f : Addr} {fd : FuncData} {ps : List Str} {fn : Fn} {x : Str} {p pos : Pos} {e : Expr} {es : List Expr}
theorem de_callG {fa : AF} (F : FnOkG X.prog X.w X.K X.mg X.base (L2.CX X.prog X.w) k f fd ps (spT c.g ps.length fn)) (hgd : X.A.guards = some []) (hr : Room k X.A) (hg : Gl X x) (hm : X.mg x = some (.ref f)) (hk : PySem.W.keepIn X.K (.ref f) = true) (hb : Binds X.K fd ps []) (hx : ∀ σ, PassesAt (L2.CX X.prog X.w) X σ (c.E σ))
    (ha : PA X (e :: es) (rdA c fa)) (hdb : (x == ("__debug__" : Str)) = false := by decide) (he : starEach (e :: es) X.env = (false, eval e X.env) :: starEach es X.env := by rfl) (hpl : (backTo pos (starEach es X.env)).any (·.1) = false := by rfl) :
    PE X (.Call (.Name x p) (e :: es) [] pos) (rdE c (callF ps.length fn fa)) := by
  refine PE.imp (t := tCallS (spT c.g ps.length fn) c.E (rdA c fa)) ⟨fun pins s σ H Q I h => ?_⟩ fun _ _ _ q => callOut q
  refine wpAny_Call_Name_kw (ld_glob I hg hm ?_ hdb)
  refine PySem.W.callWith_K (h₀ := X.base) I.ok.mod.kin hk (thn (ha.run pos pins s σ H _ I h) fun us s1 ⟨vs, H1, I1, r, q⟩ => ⟨I1.kIn, ?_⟩) he hpl
  have b := hb s1 us I1.kIn (by rw [List.append_nil, ← r.length]; exact F.len _ _ _ _ q)
  rw [List.append_nil] at b
  refine wpAny_call (codeAny_mono (F.run X.A X.stack s1 H1 ⟨us, []⟩ us vs Q (c.E σ) hgd hr I1.env0 b r q) fun r s' hq => ?_)
  match r, hq with
  | .error e, hq => exact hx σ pins H1 s1 e s' I1 hq
  | .ok (.ret u), hq => exact I1.after hq
/-! repr of a list of truths -/
def blsT : List T → Option (List Bool)
  | [] => some []
  | .bl b :: ts => (blsT ts).map (b :: ·)
  | _ => none
theorem blsT_of : ∀ {ts : List T} {bs : List Bool}, blsT ts = some bs → ts = bs.map T.bl
  | [], _, h => by cases h; rfl
  | .bl b :: ts, _, h => by
    obtain ⟨bs, h1, h2⟩ := Option.map_eq_some_iff.mp h
    subst h2
    rw [blsT_of h1]
    rfl
  | .non :: _, _, h => by cases h
  | .int _ :: _, _, h => by cases h
  | .str _ :: _, _, h => by cases h
  | .lst _ :: _, _, h => by cases h
  | .tup _ :: _, _, h => by cases h
  | .wtp _ :: _, _, h => by cases h
  | .dic _ :: _, _, h => by cases h
  | .obj _ _ :: _, _, h => by cases h
  | .exo _ _ :: _, _, h => by cases h
  | .fn _ :: _, _, h => by cases h
  | .nib :: _, _, h => by cases h
def shownB (bs : List Bool) : Str := (PyData.list (bs.map PyData.bool)).shown
def reprLN : List T → Option Slot
  | [.lst ts] => (blsT ts).bind fun bs => if (shownB bs).length ≤ sizeLine then some (.sh (.str (shownB bs))) else none
  | _ => none
theorem reads_bls {h : Heap} : ∀ bs : List Bool, ReadsAll h (bs.map Value.bool) (bs.map PyData.bool) []
  | [] => .nil
  | b :: bs => .cons (.bool b) (reads_bls bs)
theorem showable_bls : ∀ bs : List Bool, PyData.showableAll (bs.map PyData.bool) = true
  | [] => by simp only [List.map_nil, PyData.showableAll]
  | b :: bs => by
    simp only [List.map_cons, PyData.showableAll, PyData.showable, showable_bls bs, Bool.and_self]
theorem hasDict_bls : ∀ bs : List Bool, PyData.hasDictAll (bs.map PyData.bool) = false
  | [] => by simp only [List.map_nil, PyData.hasDictAll]
  | b :: bs => by
    simp only [List.map_cons, PyData.hasDictAll, PyData.hasDict, hasDict_bls bs, Bool.or_self]
theorem depth_bls : ∀ bs : List Bool, PyData.depthAll (bs.map PyData.bool) ≤ 1
  | [] => by simp only [List.map_nil, PyData.depthAll]; omega
  | b :: bs => by
    have := depth_bls bs
    simp only [List.map_cons, PyData.depthAll, PyData.depth]
    omega
def rReprL (K : PySem.W.Frag) : List V → Hp → VK → Prop := fun xs H Q => ∃ (a : Addr) (bs : List Bool), xs = [.ref a] ∧ SqL K H a (bs.map V.bl) ∧ (shownB bs).length ≤ sizeLine ∧ Q (.str (shownB bs)) H
theorem call_reprL (hgd : X.A.guards = some []) (hu : X.A.units + 10 < cLine) : CallR X (.builtin "repr") (rReprL X.K) := by
  intro pins s σ H xs us Q I r h
  obtain ⟨a, bs, rfl, hs, hz, q⟩ := h
  obtain ⟨u, rfl, rx⟩ := vals1 r
  cases rx
  obtain ⟨its, r', pl, _⟩ := I.list hs
  have e := Vals.bls r'
  subst e
  obtain ⟨o, ho, hc, n, hd⟩ := pl.isList
  have rd : Reads s.heap (.ref a) (.list (bs.map PyData.bool)) (a :: []) := .list ho hc hd (reads_bls bs)
  refine repr_of_reads' rd (by unfold PyData.showable; exact showable_bls bs) (PyData.noDict_hsm ?_) hgd ?_ (fun _ _ e => e) (fun h' u tk kp => ?_) hz
  · unfold PyData.hasDict; exact hasDict_bls bs
  · have := depth_bls bs
    simp only [PyData.depth]
    omega
  · exact ⟨.str _, H, I.kept (t' := tk) kp, ⟨_, rfl⟩, q⟩
theorem p_reprL (hK : c.g.K = X.K) : OpN c (rReprL X.K) reprLN := by
  intro F S σ τ H xs ts z Q A hx hz k
  unfold reprLN at hz
  split at hz
  · obtain ⟨bs, h1, h2⟩ := Option.bind_eq_some_iff.mp hz
    split at h2
    · rename_i hl
      cases h2
      have e := blsT_of h1
      subst e
      obtain ⟨v, rfl, h⟩ := hx.one
      obtain ⟨p, vs, rfl, h3, r⟩ := h.lst A.a.fh
      rw [r.bools] at h3
      exact ⟨p, bs, rfl, .inl (.inl h3), hl, fin_sh A k (.str _)⟩
    · cases h2
  · cases hz
end

/-! the head -/
section
variable {P : Program} {w : World} {K : PySem.W.Frag} {mg mb : Str → Option Value} {a : Addr} {cs : List (Addr × Addr)} {s₁ : Shared} {vs : List Value} {ns : List Int}
/-- what a law's call begins with: the script and the tables tracked, all else written -/
theorem head_env (KX : K.In s₁.heap) (hns : s₁.heap.Ns mainGlobals mg) (hb : s₁.heap.Ns builtinsNs mb) (hbb : ∀ x : Str, x ≠ "__name__" → mb x = bootBuiltins x) (hlim : s₁.heap.NoLimit) (hg : s₁.gens = #[])
    (hT : ∀ p ∈ cs, s₁.heap.get? p.2 = some { cls := .none, data := .fields #[] }) (nT : ∀ p ∈ cs, K.lookup p.2 = none) (C : ∀ p ∈ cs, PySem.W.CodeHd s₁.heap p.1 p.2)
    (hbm : ∃ (bm : Addr) (ob : Obj), mg "__builtins__" = some (.ref bm) ∧ bm ≠ builtinsNs ∧ s₁.heap.get? bm = some ob ∧ ob.cls = .type "module" ∧ ob.dict = some builtinsNs ∧ ob.data = .plain)
    (ha : s₁.heap.get? a = some { cls := .type "list", data := .seq vs.toArray }) (hi : IntsAre vs ns) (hl : ns.length ≤ sizeLine) :
    ∃ H : Hp, (∀ b u, H b = some u → (∃ p ∈ cs, b = p.2 ∧ u = .tbl #[]) ∨ (b = a ∧ ∃ o xs, u = .frz o (.lst xs))) ∧ (∀ p ∈ cs, H p.2 = some (.tbl #[])) ∧ SqL K H a (ns.map V.int) ∧ K.In (hidT s₁.heap H) ∧ (hidT s₁.heap H).Ns mainGlobals mg ∧
      (∀ p ∈ cs, LamX.TabB (hidT s₁.heap H) mg p.1 p.2) ∧ Env0 P w K mg (hidT s₁.heap H) callerA [] s₁ H := by
  classical
  have rv : Vals (ns.map V.int) vs := by simpa using vals_ints hi
  have apart : ∀ p ∈ cs, p.2 ≠ a := fun p hp z => by
    have e := hT p hp
    rw [z, ha] at e
    have e := congrArg Obj.data (Option.some.inj e)
    cases e
  have ex : ∃ H : Hp, H = fun b => if ∃ p ∈ cs, b = p.2 then some (.tbl #[]) else if b = a ∧ K.lookup a = none then some (.frz { cls := .type "list", data := .seq vs.toArray } (.lst (ns.map V.int))) else none := ⟨_, rfl⟩
  obtain ⟨H, hH⟩ := ex
  have cases3 : ∀ b u, H b = some u → (∃ p ∈ cs, b = p.2 ∧ u = .tbl #[]) ∨ (b = a ∧ K.lookup a = none ∧ u = .frz { cls := .type "list", data := .seq vs.toArray } (.lst (ns.map V.int))) := fun b u q => by
    rw [hH] at q
    dsimp only at q
    split at q
    · rename_i h
      obtain ⟨p, hp, e⟩ := h
      cases q
      exact .inl ⟨p, hp, e, rfl⟩
    · split at q
      · rename_i h
        cases q
        exact .inr ⟨h.1, h.2, rfl⟩
      · cases q
  have tabs : ∀ p ∈ cs, H p.2 = some (.tbl #[]) := fun p hp => by
    rw [hH]
    exact if_pos ⟨p, hp, rfl⟩
  -- what is neither a list nor an empty record is not tracked
  have free : ∀ {b : Addr} {o : Obj}, s₁.heap.get? b = some o → (∀ us n, o.data ≠ .seq us n) → o.data ≠ .fields #[] → H b = none := fun {b o} e h1 h2 => by
    cases q : H b with
    | none => rfl
    | some u =>
      rcases cases3 b u q with ⟨p, hp, z, _⟩ | ⟨z, _⟩
      · rw [z, hT p hp] at e
        cases e
        exact (h2 rfl).elim
      · rw [z, ha] at e
        cases e
        exact (h1 _ _ rfl).elim
  have stays : ∀ {b : Addr} {o : Obj}, s₁.heap.get? b = some o → (∀ us n, o.data ≠ .seq us n) → o.data ≠ .fields #[] → (hidT s₁.heap H).get? b = some o := fun e h1 h2 => hidT_get e (free e h1 h2)
  have dict : ∀ {b : Addr} {m : Str → Option Value}, s₁.heap.Ns b m → (hidT s₁.heap H).Ns b m := fun {b m} ⟨o, es, ep, e, d, r⟩ => ⟨o, es, ep, stays e (fun _ _ z => by rw [d] at z; cases z) (fun z => by rw [d] at z; cases z), d, r⟩
  have kin : K.In (hidT s₁.heap H) := fun b o e => hidT_get (KX b o e) (by
    cases q : H b with
    | none => rfl
    | some u =>
      rcases cases3 b u q with ⟨p, hp, z, _⟩ | ⟨z, z2, _⟩
      · rw [z, nT p hp] at e; cases e
      · rw [z, z2] at e; cases e)
  refine ⟨H, fun b u q => ?_, tabs, ?_, kin, dict hns, fun p hp => ⟨?_, ?_, fun z => ?_⟩, ⟨rfl, ⟨kin, dict hns, ⟨mb, dict hb, hbb⟩, ?_⟩, fun b o e => of_hidT e, Nat.le_of_eq (hidT_size _ _), trivial, (fun b hb => nomatch (show b ∈ ([] : List Addr) from hb)), fun b u q => ?_, .of_eq hg⟩⟩
  · rcases cases3 b u q with h | ⟨h1, _, h3⟩
    · exact .inl h
    · exact .inr ⟨h1, _, _, h3⟩
  · cases hk : K.lookup a with
    | some o =>
      have e := KX a o hk
      rw [ha] at e
      cases e
      exact .inr ⟨_, vs.toArray, _, hk, rfl, rfl, rfl, by rw [List.size_toArray, hi.length]; exact hl, by simpa using rv⟩
    | none =>
      refine .inl (.inr ⟨{ cls := .type "list", data := .seq vs.toArray }, ?_⟩)
      rw [hH]
      exact (if_neg fun ⟨p, hp, z⟩ => apart p hp z.symm).trans (if_pos ⟨rfl, hk⟩)
  · obtain ⟨o, us, file, tf, flags, tg, inF, text, tt, e1, r1, r2, r3, r⟩ := C p hp
    refine ⟨o, us, file, tf, flags, tg, inF, text, tt, stays e1 (fun _ _ z => by rw [r2] at z; cases z) (fun z => ?_), r1, r2, r3, r⟩
    rw [r2] at z
    cases z
    simp at r3
  · obtain ⟨bm, ob, b1, b2, b3, b4, b5, b6⟩ := hbm
    refine ⟨bm, ob, b1, b2, fun q => ?_, fun q => ?_, stays b3 (fun _ _ z => by rw [b6] at z; cases z) (fun z => by rw [b6] at z; cases z), b4, b5, b6⟩
    · obtain ⟨o, es, ep, e, hd, _⟩ := hns
      rw [q, e] at b3
      cases b3
      rw [hd] at b6
      cases b6
    · rw [q, hT p hp] at b3
      cases b3
      cases b6
  · obtain ⟨o, es, ep, e, hd, _⟩ := hns
    rw [z, hT p hp] at e
    cases e
    cases hd
  · obtain ⟨mc, h1, h2⟩ := hlim
    exact ⟨mc, dict h1, h2⟩
  · rcases cases3 b u q with ⟨p, hp, e, e2⟩ | ⟨e, _, e2⟩
    · rw [e, e2]
      exact hT p hp
    · rw [e, e2]
      exact ⟨ha, by rw [List.length_map]; exact hl, vs, _, rv, ha⟩
theorem law_callG {CX : CXT} {k : Nat} {fa : Addr} {fd : FuncData} {x : Str} {sp : Sp} (KX : K.In s₁.heap) (hns : s₁.heap.Ns mainGlobals mg) (hb : s₁.heap.Ns builtinsNs mb) (hbb : ∀ x : Str, x ≠ "__name__" → mb x = bootBuiltins x) (hlim : s₁.heap.NoLimit) (hg : s₁.gens = #[])
    (hT : ∀ p ∈ cs, s₁.heap.get? p.2 = some { cls := .none, data := .fields #[] }) (nT : ∀ p ∈ cs, K.lookup p.2 = none) (C : ∀ p ∈ cs, PySem.W.CodeHd s₁.heap p.1 p.2)
    (hbm : ∃ (bm : Addr) (ob : Obj), mg "__builtins__" = some (.ref bm) ∧ bm ≠ builtinsNs ∧ s₁.heap.get? bm = some ob ∧ ob.cls = .type "module" ∧ ob.dict = some builtinsNs ∧ ob.data = .plain)
    (ha : s₁.heap.get? a = some { cls := .type "list", data := .seq vs.toArray }) (hi : IntsAre vs ns) (hl : ns.length ≤ sizeLine) (hr : Room k callerA)
    (F : ∀ base : Heap, K.In base → base.Ns mainGlobals mg → (∀ p ∈ cs, LamX.TabB base mg p.1 p.2) → FnOkG P w K mg base CX k fa fd [x] sp) (hbind : ∀ (s : Shared) (u : Value), BindsTo s fd ⟨[u], []⟩ [(x, u)])
    (hsp : ∀ H : Hp, (∀ p ∈ cs, H p.2 = some (.tbl #[])) → SqL K H a (ns.map V.int) → sp [.ref a] H (fun v _ => v = .bl true) fun _ _ _ => False)
    (hCX : ∀ H e s', CX [] H s₁ (fun _ _ _ => False) e s' → False) :
    codeAny (model P w) callerA (.call (.ref fa) ⟨[.ref a], []⟩) (fun r s' => r = .ok (.ret (.bool true)) ∧ OldK s₁.heap s'.heap ∧ s'.os = s₁.os ∧ AllBare s'.gens) s₁ := by
  obtain ⟨H, hO, hH, hS, hK, hN, hB, e0⟩ := head_env (P := P) (w := w) KX hns hb hbb hlim hg hT nT C hbm ha hi hl
  refine codeAny_mono ((F _ hK hN hB).run callerA [] s₁ H ⟨[.ref a], []⟩ [.ref a] [.ref a] _ _ rfl hr e0 (hbind s₁ (.ref a)) (.cons rfl .nil) (hsp H hH hS)) fun r s' h => ?_
  match r, h with
  | .error e, h => exact (hCX H e s' h).elim
  | .ok (.ret u), h =>
    obtain ⟨v, H', os, bare, un, hok', r', q⟩ := h
    have q : v = .bl true := q
    subst q
    obtain rfl : u = Value.bool true := r'
    -- an old object stays, a table may have grown
    have old : ∀ b o, s₁.heap.get? b = some o → s'.heap.get? b = some o ∨ ∃ p ∈ cs, b = p.2 ∧ ∃ more : Array Value, s'.heap.get? b = some { cls := .none, data := .fields more } := fun b o e => by
      cases q : H b with
      | none => exact .inl (un.keep b o e q (fun z => nomatch (show b ∈ ([] : List Addr) from z)) (fun z => nomatch z))
      | some u =>
        rcases hO b u q with ⟨p, hp, z, z2⟩ | ⟨_, ob, xs, z⟩
        · rw [z2] at q
          obtain ⟨more, q2⟩ := un.tbls b #[] q
          exact .inr ⟨p, hp, z, _, hok' b _ q2⟩
        · rw [z] at q
          obtain ⟨e1, _⟩ := e0.hok b _ q
          obtain ⟨e2, _⟩ := hok' b _ (un.frzs b ob _ q)
          rw [e] at e1
          cases e1
          exact .inl e2
    refine ⟨rfl, ⟨fun b o e => ?_, fun b o e => ?_⟩, os, bare⟩
    · rcases old b o e with h | ⟨p, hp, z, more, h⟩
      · exact .inl h
      · rw [z] at e h ⊢
        rw [hT p hp] at e
        cases e
        exact .inr (.inl ⟨((C p hp).tab (hT p hp)).isCodeTable, rfl, #[], more, rfl, by rw [Array.empty_append]; exact h⟩)
    · rcases old b o e with h | ⟨p, hp, z, more, h⟩
      · exact ⟨o, h⟩
      · exact ⟨_, h⟩
end
def LawAtG (l : PySem.W.OpenLaw) (w : World) (K : PySem.W.Frag) (CX : CXT) (k n : Nat) (x : Str) (mg : Str → Option Value) (fa : Addr) (h : Heap) : Prop :=
  ∃ (fd : FuncData) (cs : List (Addr × Addr)) (sp : Sp), (∀ p ∈ cs, h.get? p.2 = some { cls := .none, data := .fields #[] }) ∧ (∀ p ∈ cs, K.lookup p.2 = none) ∧ (∀ p ∈ cs, PySem.W.CodeHd h p.1 p.2) ∧ (∀ (s : Shared) (u : Value), BindsTo s fd ⟨[u], []⟩ [(x, u)]) ∧
    (∀ (H : Hp) (a : Addr) (ns : List Int), ns.length ≤ n → (∀ z ∈ ns, Builtin.Int.intBits z ≤ 1048576) → (∀ p ∈ cs, H p.2 = some (.tbl #[])) → SqL K H a (ns.map V.int) → sp [.ref a] H (fun v _ => v = .bl true) fun _ _ _ => False) ∧
    ∀ base : Heap, K.In base → base.Ns mainGlobals mg → (∀ p ∈ cs, LamX.TabB base mg p.1 p.2) → FnOkG l.prog w K mg base CX k fa fd [x] sp
theorem walk_ofTabsG {l : PySem.W.OpenLaw} {n k : Nat} {q : Program} {loose : List Str} {XP : (Str → Option Value) → Heap → Prop} {YP : World → Heap → Prop} {d : DefRec} {K : Params → PySem.W.Frag} {CX : World → CXT} {x : Str}
    (hn : l.most = some n) (hn2 : n ≤ sizeLine) (hdf : d.params.defaults = []) (hr : Room k callerA) (hY : ∀ (w : World) (h : Heap), YP w h → (K w.params).In h)
    (F : ∀ (w : World) (mg : Str → Option Value) (fa : Addr) (h : Heap), YP w h → (K w.params).In h → h.Ns mainGlobals mg → mg d.name = some (.ref fa) → Tabs0 q (K w.params) h → LawAtG l w (K w.params) (CX w) k n x mg fa h)
    (hCX : ∀ (w : World) (H : Hp) (s : Shared) (e : Value) (s' : Shared), CX w [] H s (fun _ _ _ => False) e s' → False) :
    PySem.W.WalkO q loose XP YP l.row.toRowW d [] (fun f vs => PySem.call f vs) := by
  refine Att.attach_callB hn hdf fun w s₀ s₁ mg mb fa o pm cd doc a vs ns G Y ho hd hcd hmg hobj hints hlen hbits hg => ?_
  have KX := hY w _ Y
  have own : Tabs0 q (K w.params) s₁.heap := fun x c P hm ht => by
    cases e : (recsOf q).find? (fun e => e.name == x) with
    | some d => exact PySem.W.tab_of G.T KX e ht
    | none =>
      obtain ⟨dL, hm1, hn1⟩ := List.any_eq_true.mp hm
      exact absurd hn1 (List.find?_eq_none.mp e dL hm1)
  obtain ⟨fd, cs, sp, hT, nT, C, hb, hsp, hF⟩ := F w mg fa _ Y KX G.T.g hmg own
  exact law_callG KX G.T.g G.T.b G.T.builtins G.T.nolimit hg hT nT C G.T.bmain hobj hints (Nat.le_trans hlen hn2) hr hF hb (fun H hH hS => hsp H a ns hlen hbits hH hS) fun H e s' => hCX w H s₁ e s'
end TL

end
section
set_option Elab.async false
set_option linter.all false
set_option maxRecDepth 100000
set_option autoImplicit false
set_option maxHeartbeats 400000
/-! TL21: the runner, further -/
open PySem PySem.Spec PyProof.Rows L2
namespace TL
theorem compL_rel {own : List Nat} {tg : Tg} {tt : TF} {te : EF} {lo gh : List Slot} {I : Nat → Nib → Prop} {P : T → Prop} (hw : noes lo own = lo) : ∀ (ts acc : List T) (k : Nat) (nb : Nib), acc.length + ts.length ≤ sz →
    (∀ k' nb acc t, k ≤ k' → k' < k + ts.length → I k' nb → t ∈ ts → ∃ v nb', I (k' + 1) nb' ∧ P v ∧ compStep own tg tt te t ⟨lo, gh ++ [.ow (.lst acc)], nb⟩ = .ok (some v) ⟨lo, gh ++ [.ow (.lst acc)], nb'⟩) → I k nb →
    ∃ vs nb', I (k + ts.length) nb' ∧ vs.length = ts.length ∧ (∀ v ∈ vs, P v) ∧ compL own tg tt te ts ⟨lo, gh ++ [.ow (.lst acc)], nb⟩ = .ok () ⟨lo, gh ++ [.ow (.lst (acc ++ vs))], nb'⟩
  | [], acc, k, nb, _, _, h => ⟨[], nb, h, rfl, (fun _ h => nomatch h), by rw [List.append_nil]; rfl⟩
  | t :: ts, acc, k, nb, hl, hstep, h => by
    rw [List.length_cons] at hl
    obtain ⟨v, nb1, h1, hv, e1⟩ := hstep k nb acc t (Nat.le_refl _) (by rw [List.length_cons]; omega) h List.mem_cons_self
    obtain ⟨vs, nb2, h2, hl2, hv2, e2⟩ := compL_rel hw ts (acc ++ [v]) (k + 1) nb1 (by rw [List.length_append, List.length_singleton]; omega) (fun k' nb acc t h1 h2 h3 h4 => hstep k' nb acc t (by omega) (by rw [List.length_cons]; omega) h3 (List.mem_cons_of_mem _ h4)) h1
    refine ⟨v :: vs, nb2, by rw [List.length_cons, show k + (ts.length + 1) = k + 1 + ts.length by omega]; exact h2, by rw [List.length_cons, List.length_cons, hl2], fun u hu => (List.mem_cons.mp hu).elim (fun e => e ▸ hv) (hv2 u), ?_⟩
    have := compL_step (own := own) (tg := tg) (tt := tt) (te := te) (t := t) (ts := ts) (S := ⟨lo, gh, nb⟩) (S' := ⟨lo, gh, nb1⟩) (acc := acc) (v := some v) e1 (by show Sta.mk (noes lo own) gh nb1 = _; rw [hw]) (by omega)
    refine Eq.trans this ?_
    show compL own tg tt te ts ⟨lo, gh ++ [.ow (.lst (acc ++ [v]))], nb1⟩ = _
    rw [e2, List.append_assoc]
    rfl
theorem compF_rel {own : List Nat} {it : IF} {tg : Tg} {tt : TF} {te : EF} {S : Sta} {lo gh : List Slot} {nb : Nib} {ts : List T} (k : Nat) (I : Nat → Nib → Prop) (P : T → Prop) (hi : it S = .ok ts ⟨lo, gh, nb⟩) (hf : (own.all fun i => Slot.free lo[i]?) = true) (hs : (tg.slots.all fun i => own.contains i) = true)
    (hw : noes lo own = lo) (hl : ts.length ≤ sz)
    (hstep : ∀ k' nb acc t, k ≤ k' → k' < k + ts.length → I k' nb → t ∈ ts → ∃ v nb', I (k' + 1) nb' ∧ P v ∧ compStep own tg tt te t ⟨lo, gh ++ [.ow (.lst acc)], nb⟩ = .ok (some v) ⟨lo, gh ++ [.ow (.lst acc)], nb'⟩) (h : I k nb) :
    ∃ vs nb', I (k + ts.length) nb' ∧ vs.length = ts.length ∧ (∀ v ∈ vs, P v) ∧ compF own it tg tt te S = .ok (.ow (.lst vs)) ⟨lo, gh, nb'⟩ := by
  obtain ⟨vs, nb', h1, h2, h3, h4⟩ := compL_rel (gh := gh) hw ts [] k nb (by simpa using hl) hstep h
  refine ⟨vs, nb', h1, h2, h3, ?_⟩
  unfold compF
  rw [hi, R.bind_ok]
  have hc : ((own.all fun i => Slot.free lo[i]?) && (tg.slots.all fun i => own.contains i)) = true := by rw [hf, hs]; rfl
  rw [if_pos hc]
  have : (Sta.mk lo gh nb).wipe own = Sta.mk lo gh nb := by show Sta.mk (noes lo own) gh nb = _; rw [hw]
  rw [this]
  show (match compL own tg tt te ts ⟨lo, gh ++ [.ow (.lst [])], nb⟩ with
    | .ok () S2 => match S2.popG with
      | some (.ow (.lst acc), S3) => R.ok (Slot.ow (.lst acc)) (S3.back ⟨lo, gh, nb⟩ own)
      | _ => .stuck
    | _ => .stuck) = _
  rw [h4]
  dsimp only
  rw [popG_snoc, List.nil_append]
  show R.ok (Slot.ow (T.lst vs)) (Sta.mk (backs lo lo own) gh nb') = _
  have e : backs lo lo own = lo := by have := backs_noes lo own; rwa [hw] at this
  rw [e]
theorem all_tn {vs : List T} {m : Nat} (h : ∀ v ∈ vs, ∃ r : Nat, r < m ∧ v = .int (r : Int)) : ∃ t : List Nat, vs = tn t ∧ ∀ x ∈ t, x < m := by
  induction vs with
  | nil => exact ⟨[], rfl, (fun _ h => nomatch h)⟩
  | cons v vs ih =>
    obtain ⟨t, e, ht⟩ := ih fun v hv => h v (List.mem_cons_of_mem _ hv)
    obtain ⟨r, hr, rfl⟩ := h v List.mem_cons_self
    exact ⟨r :: t, by rw [e]; rfl, fun x hx => (List.mem_cons.mp hx).elim (fun e => e ▸ hr) (ht x)⟩
end TL

namespace TL
section
variable (S : Sta) (i j k n np nk : Nat) (a b d : OF) (e e' e'' : EF) (t u : TF) (f g : SF) (r r' : AF) (it : IF) (tg : Tg) (p p' : T → T → Option Slot) (q : T → Option Slot) (ql : List T → Option Slot) (fn : Fn) (x y : T) (z : Slot) (ts us : List T) (o o' : Opd) (os os' : List Opd) (l gh : List Slot) (nb : Nib) (ex : Ex) (pm : List Nat)
theorem w_excB {α β : Type} (ex : Ex) (S : Sta) (k : α → Sta → R β) : (R.exc ex S : R α).bind k = .exc ex S := rfl
theorem w_dicF : dicF S = .ok (.ow (.dic [])) S := rfl
def kStar (r : AF) : Opd → Sta → R (List Opd) := fun o S1 => match o with
  | .val (.lst ts) => (r S1).bind fun os S2 => .ok (ts.map Opd.val ++ os) S2
  | .val (.tup ts) => (r S1).bind fun os S2 => .ok (ts.map Opd.val ++ os) S2
  | _ => .stuck
def kStar2 (ts : List T) : List Opd → Sta → R (List Opd) := fun os S2 => .ok (ts.map Opd.val ++ os) S2
theorem w_starA : starA a r S = (a S).bind (kStar r) := rfl
theorem kStar_l : kStar r (.val (.lst ts)) S = (r S).bind (kStar2 ts) := rfl
theorem kStar_t : kStar r (.val (.tup ts)) S = (r S).bind (kStar2 ts) := rfl
theorem kStar2_ap : kStar2 ts os S = .ok (ts.map Opd.val ++ os) S := rfl
theorem vals_star : ∀ ts : List T, vals (ts.map Opd.val ++ os) = (vals os).map (ts ++ ·)
  | [] => by
    show vals os = _
    cases vals os <;> rfl
  | t :: ts => by
    rw [List.map_cons, List.cons_append, vals_cons, vals_star ts]
    cases vals os <;> rfl
def gCallK (np nk : Nat) (pm : List Nat) (f : Fn) (S2 : Sta) (o o' : Option (List T)) : R Slot := match o, o' with
  | some ts, some zs => if ts.length + zs.length = np ∧ zs.length = nk then match f (ts ++ prm pm zs) S2.nb with
    | .ok x n => .ok x { S2 with nb := n }
    | .exc e n => .exc e { S2 with nb := n }
    | .stuck => .stuck
    else .stuck
  | _, _ => .stuck
def kCallK2 (np nk : Nat) (pm : List Nat) (f : Fn) (os : List Opd) : List Opd → Sta → R Slot := fun us S2 => gCallK np nk pm f S2 (vals os) (vals us)
def kCallK (np nk : Nat) (pm : List Nat) (f : Fn) (b : AF) : List Opd → Sta → R Slot := fun os S1 => (b S1).bind (kCallK2 np nk pm f os)
theorem w_callKF : callKF np nk pm fn r r' S = (r S).bind (kCallK np nk pm fn r') := rfl
theorem kCallK_ap : kCallK np nk pm fn r os S = (r S).bind (kCallK2 np nk pm fn os) := rfl
theorem kCallK2_ap : kCallK2 np nk pm fn os os' S = gCallK np nk pm fn S (vals os) (vals os') := rfl
theorem gCallK_ap (h : ts.length + us.length = np ∧ us.length = nk) : gCallK np nk pm fn ⟨l, gh, nb⟩ (some ts) (some us) = gFR ⟨l, gh, nb⟩ (fn (ts ++ prm pm us) nb) := if_pos h
theorem prm_nil {α : Type} (l : List α) : prm [] l = [] := rfl
theorem prm_cons {α : Type} (l : List α) (i : Nat) (x : α) (h : l[i]? = some x) : prm (i :: pm) l = x :: prm pm l := by
  unfold prm
  rw [List.filterMap_cons, h]
def kTry2 (i : Nat) (r : R Flow) : R Flow := match r with
  | .ok fl S2 => .ok fl (S2.put i .no)
  | _ => .stuck
def gTry (i : Nat) (h : SF) (e : Ex) (S1 : Sta) (o : Option Bool) : R Flow := match o with
  | some true => if i < S1.lo.length then match h (S1.put i (.sh (.exo e.cls e.fs))) with
      | .ok fl S2 => .ok fl (S2.put i .no)
      | _ => .stuck
    else .stuck
  | some false => .exc e S1
  | none => .stuck
def kTry (ct : Nat → Option Bool) (i : Nat) (h : SF) (r : R Flow) : R Flow := match r with
  | .ok fl S1 => .ok fl S1
  | .exc e S1 => gTry i h e S1 (ct e.cls)
  | .stuck => .stuck
variable (ct : Nat → Option Bool)
theorem w_tryF : tryF ct i f g S = kTry ct i g (f S) := by
  unfold tryF kTry gTry
  cases f S <;> rfl
theorem kTry_ok (fl : Flow) : kTry ct i g (.ok fl S) = .ok fl S := rfl
theorem kTry_exc : kTry ct i g (.exc ex S) = gTry i g ex S (ct ex.cls) := rfl
theorem gTry_t (h : i < l.length) : gTry i g ex ⟨l, gh, nb⟩ (some true) = kTry2 i (g ⟨l.set i (.sh (.exo ex.cls ex.fs)), gh, nb⟩) := if_pos h
theorem gTry_f : gTry i g ex S (some false) = .exc ex S := rfl
theorem kTry2_ap (fl : Flow) : kTry2 i (.ok fl ⟨l, gh, nb⟩) = .ok fl ⟨l.set i .no, gh, nb⟩ := rfl
def gRaise (k : Nat) (fl : List Str) (S1 : Sta) (o : Option (List T)) : R Flow := match o with
  | some ts => if ts.length = fl.length then .exc ⟨k, (fl.zip ts).reverse⟩ S1 else .stuck
  | none => .stuck
def kRaise (k : Nat) (fl : List Str) : List Opd → Sta → R Flow := fun os S1 => gRaise k fl S1 (vals os)
theorem w_raiseF (fl : List Str) : raiseF k fl r S = (r S).bind (kRaise k fl) := rfl
theorem kRaise_ap (fl : List Str) : kRaise k fl os S = gRaise k fl S (vals os) := rfl
theorem gRaise_ap (fl : List Str) (h : ts.length = fl.length) : gRaise k fl S (some ts) = .exc ⟨k, (fl.zip ts).reverse⟩ S := if_pos h
def gPar3 (i j l : Nat) (S3 : Sta) (o o2 o3 : Opd) : R Flow := match o, o2, o3 with
  | .val t, .val u, .val v => if i < S3.lo.length ∧ j < S3.lo.length ∧ l < S3.lo.length then .ok .nx (((S3.put i (.sh t)).put j (.sh u)).put l (.sh v)) else .stuck
  | _, _, _ => .stuck
def kPar3c (i j l : Nat) (o o2 : Opd) : Opd → Sta → R Flow := fun o3 S3 => gPar3 i j l S3 o o2 o3
def kPar3b (i j l : Nat) (d : OF) (o : Opd) : Opd → Sta → R Flow := fun o2 S2 => (d S2).bind (kPar3c i j l o o2)
def kPar3a (i j l : Nat) (b d : OF) : Opd → Sta → R Flow := fun o S1 => (b S1).bind (kPar3b i j l d o)
theorem w_par3F : par3F i j k a b d S = (a S).bind (kPar3a i j k b d) := rfl
theorem kPar3a_ap : kPar3a i j k b d o S = (b S).bind (kPar3b i j k d o) := rfl
theorem kPar3b_ap (o2 : Opd) : kPar3b i j k d o o2 S = (d S).bind (kPar3c i j k o o2) := rfl
theorem kPar3c_ap (v : T) (h : i < l.length ∧ j < l.length ∧ k < l.length) : kPar3c i j k (.val x) (.val y) (.val v) ⟨l, gh, nb⟩ = .ok .nx ⟨((l.set i (.sh x)).set j (.sh y)).set k (.sh v), gh, nb⟩ := if_pos h
def kSl3 (p : T → Option Int → Option Int → Option Slot) (o : Opd) (lo : Option Int) : Option Int → Sta → R Slot := fun u S3 => match o.get S3 with
  | some t => res (p t lo u) S3
  | none => .stuck
def kSl2 (p : T → Option Int → Option Int → Option Slot) (hi : BF) (o : Opd) : Option Int → Sta → R Slot := fun lo S2 => (hi S2).bind (kSl3 p o lo)
def kSl1 (p : T → Option Int → Option Int → Option Slot) (lo hi : BF) : Opd → Sta → R Slot := fun o S1 => (lo S1).bind (kSl2 p hi o)
variable (ps : T → Option Int → Option Int → Option Slot) (lo hi : BF)
theorem w_slF : slF ps a lo hi S = (a S).bind (kSl1 ps lo hi) := rfl
theorem kSl1_ap : kSl1 ps lo hi o S = (lo S).bind (kSl2 ps hi o) := rfl
theorem kSl2_ap (z : Option Int) : kSl2 ps hi o z S = (hi S).bind (kSl3 ps o z) := rfl
theorem kSl3_ap (z w : Option Int) : kSl3 ps o z w S = gOp1 (fun t => ps t z w) (o.get S) S := by
  unfold kSl3 gOp1
  cases o.get S <;> rfl
def kSome : Opd → Sta → R (Option Int) := fun o S1 => match o with
  | .val (.int i) => .ok (some i) S1
  | _ => .stuck
theorem w_someB : someB a S = (a S).bind kSome := rfl
theorem kSome_ap (i : Int) : kSome (.val (.int i)) S = .ok (some i) S := rfl
theorem w_noB : noB S = .ok none S := rfl
def kRng2b (o : Opd) : Opd → Sta → R (List T) := fun o' S2 => match o, o' with
  | .val (.int a), .val (.int b) => if -(2 ^ 62) ≤ a ∧ a < 2 ^ 62 ∧ -(2 ^ 62) ≤ b ∧ b < 2 ^ 62 then .ok (rgT a b) S2 else .stuck
  | _, _ => .stuck
def kRng2 (b : OF) : Opd → Sta → R (List T) := fun o S1 => (b S1).bind (kRng2b o)
theorem w_rngI2 : rngI2 a b S = (a S).bind (kRng2 b) := rfl
theorem kRng2_ap : kRng2 b o S = (b S).bind (kRng2b o) := rfl
theorem kRng2b_ap (u v : Int) (h : -(2 ^ 62) ≤ u ∧ u < 2 ^ 62 ∧ -(2 ^ 62) ≤ v ∧ v < 2 ^ 62) : kRng2b (.val (.int u)) (.val (.int v)) S = .ok (rgT u v) S := if_pos h
theorem lamF_run {caps : List Nat} {fe : EF} {fh : HFn} {S S1 : Sta} {x : Slot} {n : Nib} (h1 : frzs caps S = some S1) (h2 : fh (askOf fe S1.lo) S1.nb = .ok x n) : lamF caps fe fh S = .ok x { S1 with nb := n } := by
  unfold lamF
  rw [h1]
  dsimp only
  rw [h2]
end
end TL

end
section
set_option Elab.async false
set_option linter.all false
set_option maxRecDepth 100000
set_option autoImplicit false
set_option maxHeartbeats 2000000
/-! TL22: sorted of tuples of integers -/
open PySem PySem.Spec PyProof.Rows L2
namespace TL
/-- a tuple of integers, one at least -/
def IsTI (h : Heap) (v : Value) (ns : List Int) : Prop := ∃ (a : Addr) (o : Obj) (xs : Array Value) (n : Nat), v = .ref a ∧ h.get? a = some o ∧ o.cls = .type "tuple" ∧ o.data = .seq xs n ∧ IntsAre xs.toList ns ∧ ns ≠ []
section
variable {prog : Program} {w : World} {A : Around} {s : Shared}
theorem ti_lex : ∀ (vs ws : List Value) (ns ms : List Int) (i : Nat) (fin : Bool), IntsAre vs ns → IntsAre ws ms → fin = decide (ns.length < ms.length) → PySem.W.KatLex prog w A true fin (fun r s' => s' = s ∧ r = HT.lexLt ns ms) (vs.zip ws) i s
  | _, _, _, _, i, fin, .nil, .nil, hf => by
    refine PySem.W.kat_nil ⟨rfl, ?_⟩
    rw [hf, HT.lexLt_nil_nil]; rfl
  | _, _, _, _, i, fin, .nil, .cons m u hw, hf => by
    refine PySem.W.kat_nil ⟨rfl, ?_⟩
    rw [hf, HT.lexLt_nil_cons, List.length_nil, List.length_cons]
    exact decide_eq_true (by omega)
  | _, _, _, _, i, fin, .cons n t hv, .nil, hf => by
    refine PySem.W.kat_nil ⟨rfl, ?_⟩
    rw [hf, HT.lexLt_cons_nil, List.length_nil]
    exact decide_eq_false (by omega)
  | _, _, _, _, i, fin, .cons n t hv, .cons m u hw, hf => by
    rw [List.zip_cons_cons]
    refine PySem.W.kat_cons (SeqAt.EqAt.int_int n t m u prog w _ _ ?_)
    refine PySem.W.kat_go (fun e1 => ?_) (fun e1 => ?_)
    · have ex : n = m := by simpa using e1
      rw [HT.lexLt_cons, if_pos ex]
      exact PySem.W.kat_yes (ti_lex _ _ _ _ (i + 1) fin hv hw (by rw [hf]; exact decide_eq_decide.mpr (by rw [List.length_cons, List.length_cons]; omega)))
    · have ex : ¬ n = m := by simpa using e1
      rw [HT.lexLt_cons, if_neg ex]
      exact PySem.W.kat_no (TS.oneLt_ints _ ⟨rfl, rfl⟩)
theorem ti_firsts {h : Heap} {k : Value → List Int} : ∀ {vs : List Value}, (∀ v ∈ vs, IsTI h v (k v)) → ∃ fs : List Value, PySem.W.KatTups h vs fs ∧ fs.length = vs.length ∧ ∀ f ∈ fs, ∃ x t, f = Value.int x t
  | [], _ => ⟨[], PySem.W.KatTups.nil, rfl, fun _ hm => by simp at hm⟩
  | v :: vs, hp => by
    obtain ⟨fs, h1, h2, h3⟩ := ti_firsts (vs := vs) fun v' hm => hp v' (List.mem_cons_of_mem _ hm)
    obtain ⟨a, o, xs, n, e, ho, hc, hd, hi, hne⟩ := hp v List.mem_cons_self
    subst e
    have hx : ∃ x t, xs[0]? = some (Value.int x t) := by
      have e0 : xs[0]? = xs.toList[0]? := by rw [Array.getElem?_toList]
      rw [e0]
      revert hi hne
      generalize k (Value.ref a) = ns
      generalize xs.toList = l
      intro hi hne
      cases hi with
      | nil => exact absurd rfl hne
      | cons x t r => exact ⟨x, t, rfl⟩
    obtain ⟨x, t, hx⟩ := hx
    refine ⟨.int x t :: fs, PySem.W.KatTups.cons ho hc hd hx h1, by rw [List.length_cons, List.length_cons, h2], fun f hm => ?_⟩
    rcases List.mem_cons.mp hm with rfl | hm
    · exact ⟨x, t, rfl⟩
    · exact h3 f hm
theorem ti_sortable {a : Addr} {vs : List Value} {k : Value → List Int} (h0 : 0 < vs.length) (hp : ∀ v ∈ vs, IsTI s.heap v (k v)) (ha : ∀ o, s.heap.get? a = some o → o.cls ≠ .type "tuple") : SrtO.SortableO prog w A s a vs fun v u => HT.lexLt (k v) (k u) := by
  intro h' keep
  have hp' : ∀ v ∈ vs, IsTI h' v (k v) := fun v hm => by
    obtain ⟨b, o, xs, n, e, ho, hc, hd, hi, hne⟩ := hp v hm
    exact ⟨b, o, xs, n, e, keep b o (fun z => by subst z; exact ha o ho hc) ho, hc, hd, hi, hne⟩
  obtain ⟨fs, h1, h2, h3⟩ := ti_firsts hp'
  refine ⟨tuples' true, fun Q E hq => ?_, fun p q hm hm' => ?_⟩
  · refine PySem.W.kat_kind (T := .type "int") h1 (by omega) (fun f hm => ?_) (by rfl) ?_
    · obtain ⟨x, t, rfl⟩ := h3 f hm
      exact PySem.W.Looks.now
    · have e : (Value.type "int" != Value.type "tuple") = true := by decide +kernel
      rw [e]
      exact hq
  · obtain ⟨b, o, xs, n, e, ho, hc, hd, hi, _⟩ := hp' _ hm
    obtain ⟨b', o', xs', n', e', ho', hc', hd', hi', _⟩ := hp' _ hm'
    show wpAny (model prog w) A (keyLt' (tuples' true) p.1 q.1) (fun r s' => s' = { s with heap := h' } ∧ r = HT.lexLt (k p.1) (k q.1)) (fun _ _ => False) { s with heap := h' }
    rw [e, e']
    rw [e] at hi
    rw [e'] at hi'
    refine PySem.W.kat_lt ho hd ho' hd' (ti_lex _ _ _ _ 0 _ hi hi' ?_)
    rw [← hi.length, ← hi'.length, Array.length_toList, Array.length_toList]
end
/-- sorted(xs), xs a list of tuples of integers, none of them empty; each item beside its integers -/
def rSortL (K : PySem.W.Frag) : List V → Hp → VK → Prop := fun vs H Q => ∃ (a : Addr) (zs : List (V × List Int)), vs = [V.ref a] ∧ SqL K H a (zs.map (·.1)) ∧ (∀ z ∈ zs, z.2 ≠ [] ∧ ∃ t, z.1 = V.ref t ∧ SqT K H t (z.2.map V.int)) ∧
  ∀ (ys : List (V × List Int)) (p : Addr), ys.Perm zs → ys.Pairwise (fun x y => HT.lexLt y.2 x.2 = false) → H p = none → Q (.ref p) (upd H p (.lst (ys.map (·.1))))
theorem cr_sortL {X : Cx} : CallR X (.builtin "sorted") (rSortL X.K) := by
  intro pins s σ H vs us Q I r h
  obtain ⟨a, zs, rfl, hs, hx, q⟩ := h
  obtain ⟨its, rv, hl, hz⟩ := I.list hs
  rw [Vals.ref1 r]
  obtain ⟨e1, e2⟩ := bkV_refs rv fun x m => by
    obtain ⟨z, hz, rfl⟩ := List.mem_map.mp m
    exact (hx z hz).2.imp fun t h => h.1
  obtain ⟨k, hk⟩ : ∃ k : V → List Int, k = fun x => match x with | .ref t => TS.intsOf s.heap (.ref t) | _ => [] := ⟨_, rfl⟩
  have kz : ∀ z ∈ zs, k z.1 = z.2 := fun z hz => by
    obtain ⟨_, t, e, ht⟩ := hx z hz
    rw [hk, e]
    exact (tupI_raw I ht).ints
  have ez : zs = its.map fun u => (bkV u, k (bkV u)) := by
    have h1 : zs = zs.map fun z => (z.1, k z.1) := by
      have : zs.map (fun z => (z.1, k z.1)) = zs.map id := List.map_congr_left fun z hz => by rw [kz z hz]; rfl
      rw [this, List.map_id]
    have h2 : zs.map (fun z => (z.1, k z.1)) = (zs.map (·.1)).map fun x => (x, k x) := by rw [List.map_map]; rfl
    rw [h1, h2, e1, List.map_map]
    rfl
  have hti : ∀ v ∈ its, IsTI s.heap v (k (bkV v)) := fun v hv => by
    have hm : (bkV v, k (bkV v)) ∈ zs := by
      rw [ez]
      exact List.mem_map.mpr ⟨v, hv, rfl⟩
    obtain ⟨hne, t, e, ht⟩ := hx _ hm
    have ev := bkV_ref e
    subst ev
    obtain ⟨its', rv', ⟨o, ho, hc, n, hd⟩, _⟩ := I.tuple ht
    refine ⟨t, o, its'.toArray, n, rfl, ho, hc, hd, ?_, hne⟩
    have := ints_of_vals rv'
    simpa using this
  have hzl : zs.length = its.length := by
    have := rv.length
    rw [List.length_map] at this
    exact this
  refine SrtO.sorted_ord (ltv := fun v u => HT.lexLt (k (bkV v)) (k (bkV u))) (NtL.swo_lexL fun v => k (bkV v)) hl.isList (by rw [← rv.length]; exact hz) (fun h2 h₁ a' ha' kp => ?_) fun out h1 h2 => ?_
  · refine ti_sortable (by omega) (fun v hv => ?_) (fun o ho z => ?_)
    · obtain ⟨b, o, xs', n, e, ho, r⟩ := hti v hv
      exact ⟨b, o, xs', n, e, (kp b o ho).2, r⟩
    · rw [ha'] at ho
      cases ho
      have z : Value.type "list" = Value.type "tuple" := z
      injection z with z
      exact absurd z (by decide)
  · obtain ⟨ep, he'⟩ := PyProof.Rows.sortedAll_at s.heap its out.toArray
    have h3 : ∀ u ∈ out, ∃ a, u = Value.ref a := fun u hu => e2 u (h2.perm.mem_iff.mp hu)
    have hp : (out.map fun u => (bkV u, k (bkV u))).Perm zs := by
      rw [ez]
      exact h2.perm.map _
    have em : (out.map fun u => (bkV u, k (bkV u))).map (·.1) = out.map bkV := by rw [List.map_map]; rfl
    have hlen : (out.map bkV).length ≤ sizeLine := by
      rw [← em, List.length_map, hp.length_eq]
      rw [List.length_map] at hz
      exact hz
    refine ⟨.ref _, upd H (s.heap.objs.size + 1) (.lst (out.map bkV)), I.laid (t' := s.toks) (fun _ _ => PyProof.Rows.sortedAll_old) (Nat.le_succ _) ⟨hlen, out, ep, bkV_vals h3, he'⟩, rfl, ?_⟩
    rw [← em]
    refine q _ _ hp ?_ (I.hok.fresh (Nat.le_succ _))
    rw [List.pairwise_map]
    exact h1
def tupsT : List T → Option (List (List Int))
  | [] => some []
  | .tup xs :: ts => (intsT xs).bind fun ns => if ns = [] then none else (tupsT ts).map (ns :: ·)
  | _ => none
def tpI (ns : List Int) : T := .tup (ns.map T.int)
theorem tupsT_of : ∀ {ts : List T} {L : List (List Int)}, tupsT ts = some L → ts = L.map tpI ∧ ∀ ns ∈ L, ns ≠ []
  | [], _, h => by cases h; exact ⟨rfl, fun _ h => nomatch h⟩
  | .tup xs :: ts, _, h => by
    obtain ⟨ns, h1, h2⟩ := Option.bind_eq_some_iff.mp h
    split at h2
    · cases h2
    · rename_i hne
      obtain ⟨L, h3, h4⟩ := Option.map_eq_some_iff.mp h2
      subst h4
      obtain ⟨e, f⟩ := tupsT_of h3
      refine ⟨by rw [e, intsT_of h1]; rfl, fun m hm => ?_⟩
      rcases List.mem_cons.mp hm with rfl | hm
      · exact hne
      · exact f m hm
  | .non :: _, _, h => by cases h
  | .bl _ :: _, _, h => by cases h
  | .int _ :: _, _, h => by cases h
  | .str _ :: _, _, h => by cases h
  | .lst _ :: _, _, h => by cases h
  | .wtp _ :: _, _, h => by cases h
  | .dic _ :: _, _, h => by cases h
  | .obj _ _ :: _, _, h => by cases h
  | .exo _ _ :: _, _, h => by cases h
  | .fn _ :: _, _, h => by cases h
  | .nib :: _, _, h => by cases h
def insX (x : List Int) : List (List Int) → List (List Int)
  | [] => [x]
  | y :: ys => if HT.lexLt y x = true then y :: insX x ys else x :: y :: ys
def sortX : List (List Int) → List (List Int)
  | [] => []
  | x :: xs => insX x (sortX xs)
theorem insX_perm (x : List Int) : ∀ l, (insX x l).Perm (x :: l)
  | [] => List.Perm.refl _
  | y :: ys => by
    unfold insX
    split
    · exact ((insX_perm x ys).cons y).trans (List.Perm.swap _ _ _)
    · exact List.Perm.refl _
theorem sortX_perm : ∀ l, (sortX l).Perm l
  | [] => List.Perm.refl _
  | x :: xs => (insX_perm x (sortX xs)).trans ((sortX_perm xs).cons x)
theorem insX_pw (x : List Int) : ∀ l : List (List Int), l.Pairwise (fun a b => HT.lexLt b a = false) → (insX x l).Pairwise (fun a b => HT.lexLt b a = false)
  | [], _ => List.pairwise_singleton _ _
  | y :: ys, h => by
    obtain ⟨h1, h2⟩ := List.pairwise_cons.mp h
    unfold insX
    split
    · rename_i hl
      refine List.pairwise_cons.mpr ⟨fun z hz => ?_, insX_pw x ys h2⟩
      rcases List.mem_cons.mp ((insX_perm x ys).mem_iff.mp hz) with rfl | hz
      · exact NtL.lex_asym _ _ hl
      · exact h1 z hz
    · rename_i hl
      have hl : HT.lexLt y x = false := by simpa using hl
      refine List.pairwise_cons.mpr ⟨fun z hz => ?_, h⟩
      rcases List.mem_cons.mp hz with rfl | hz
      · exact hl
      · exact NtL.lex_tr _ _ _ hl (h1 z hz)
theorem sortX_pw : ∀ l, (sortX l).Pairwise (fun a b => HT.lexLt b a = false)
  | [] => List.Pairwise.nil
  | x :: xs => insX_pw x _ (sortX_pw xs)
theorem lex_anti : ∀ a b : List Int, HT.lexLt a b = false → HT.lexLt b a = false → a = b
  | [], [], _, _ => rfl
  | [], _ :: _, h, _ => by rw [HT.lexLt_nil_cons] at h; cases h
  | _ :: _, [], _, h => by rw [HT.lexLt_nil_cons] at h; cases h
  | x :: a, y :: b, h1, h2 => by
    rw [HT.lexLt_cons] at h1 h2
    by_cases e : x = y
    · subst e
      rw [if_pos rfl] at h1 h2
      rw [lex_anti a b h1 h2]
    · rw [if_neg e] at h1
      rw [if_neg (Ne.symm e)] at h2
      have h1 := of_decide_eq_false h1
      have h2 := of_decide_eq_false h2
      omega
theorem sortX_eq {l m : List (List Int)} (h1 : m.Perm l) (h2 : m.Pairwise (fun a b => HT.lexLt b a = false)) : m = sortX l :=
  List.Perm.eq_of_pairwise (le := fun a b => HT.lexLt b a = false) (fun a b _ _ h1 h2 => lex_anti a b h2 h1) h2 (sortX_pw l) (h1.trans (sortX_perm l).symm)
def sortTN : List T → Option Slot
  | [.lst ts] => (tupsT ts).map fun L => .ow (.lst ((sortX L).map tpI))
  | _ => none
theorem rep_zip {g : Ga} {F : Hp} : ∀ {vs : List V} {L : List (List Int)}, RepAll g F vs (L.map tpI) → (vs.zip L).map (·.1) = vs ∧ (vs.zip L).map (·.2) = L ∧ ∀ z ∈ vs.zip L, Rep g F z.1 (tpI z.2)
  | [], [], _ => ⟨rfl, rfl, fun _ h => nomatch h⟩
  | v :: vs, n :: L, h => by
    cases h with
    | cons a b =>
      obtain ⟨h1, h2, h3⟩ := rep_zip b
      refine ⟨by rw [List.zip_cons_cons, List.map_cons, h1], by rw [List.zip_cons_cons, List.map_cons, h2], fun z hz => ?_⟩
      rw [List.zip_cons_cons] at hz
      rcases List.mem_cons.mp hz with rfl | hz
      · exact a
      · exact h3 z hz
  | [], _ :: _, h => by cases h
  | _ :: _, [], h => by cases h
theorem rep_of {g : Ga} {F : Hp} : ∀ {ys : List (V × List Int)}, (∀ z ∈ ys, Rep g F z.1 (tpI z.2)) → RepAll g F (ys.map (·.1)) ((ys.map (·.2)).map tpI)
  | [], _ => .nil
  | z :: ys, h => .cons (h z List.mem_cons_self) (rep_of fun y hy => h y (List.mem_cons_of_mem _ hy))
theorem p_sortT {X : Cx} {c : Cfg} (hK : c.g.K = X.K) : OpN c (rSortL X.K) sortTN := by
  intro F S σ τ H xs ts z Q A hx hz k
  unfold sortTN at hz
  split at hz
  · obtain ⟨L, h1, h2⟩ := Option.map_eq_some_iff.mp hz
    subst h2
    obtain ⟨e, hne⟩ := tupsT_of h1
    subst e
    obtain ⟨v, rfl, h⟩ := hx.one
    obtain ⟨p, vs, rfl, h3, r⟩ := h.lst A.a.fh
    obtain ⟨z1, z2, z3⟩ := rep_zip r
    refine ⟨p, vs.zip L, rfl, .inl (.inl (by rw [z1]; exact h3)), fun z hz => ⟨hne _ (by rw [← z2]; exact List.mem_map.mpr ⟨z, hz, rfl⟩), ?_⟩, fun ys q h4 h5 np => ?_⟩
    · have := z3 z hz
      cases e : z.1 with
      | ref t =>
        rw [e] at this
        cases this with
        | tup hd ra =>
          refine ⟨t, rfl, ?_⟩
          rw [ra.ints] at hd
          exact hK ▸ sameSqT A.a.fh hd.sq
      | _ => rw [e] at this; cases this
    · have ra := rep_of fun z hz => z3 z (h4.mem_iff.mp hz)
      have es : ys.map (·.2) = sortX L := sortX_eq (by rw [← z2]; exact h4.map _) (by rw [List.pairwise_map]; exact h5)
      rw [es] at ra
      exact fin_ow A k (.lst ra) np
  · cases hz
end TL

end
section
set_option Elab.async false
set_option linter.all false
set_option maxRecDepth 100000
set_option autoImplicit false
set_option maxHeartbeats 2000000
/-! TL23: two items stored at once, three names at once with what they own, repr of tuples of integers -/
open PySem PySem.Spec PyProof.Rows L2
namespace TL
/-- xs[e] = t, xs the own list in slot i -/
def put1 (i : Nat) (fi : OF) (t : T) : SF := fun S => match S.lo[i]? with
  | some (.ow (.lst _)) => (fi S).bind fun o' S2 => match o', S2.lo[i]? with
    | .val (.int k), some (.ow (.lst ts)) => match ixN ts.length k with
      | some j => .ok .nx (S2.put i (.ow (.lst (ts.set j t))))
      | none => .stuck
    | _, _ => .stuck
  | _ => .stuck
def setI2F (i : Nat) (fi : OF) (j : Nat) (fj : OF) (fv : OF) : SF := fun S => (fv S).bind fun o S1 => match o with
  | .val (.tup [t, u]) => (put1 i fi t S1).bind fun fl S2 => match fl with
    | .nx => put1 j fj u S2
    | _ => .stuck
  | _ => .stuck
section
variable {X : Cx} {c : Cfg}
theorem put1_ok {i : Nat} {fi : OF} {t : T} {v : V} {F H : Hp} {S : Sta} {σ : L2.St} {D : Ends} (A : AbsX c F S σ [] H) (r : Rep c.g F v t) (q : sOut c F D (put1 i fi t S)) : gSub (tVar i) (rdO c fi) rSetL v σ H D.nx := by
  unfold put1 at q
  split at q
  · rename_i t0 e0
    obtain ⟨o2, h1, a2, h2, ⟨u, hu, mk⟩, r2⟩ := A.slot e0
    subst h2
    refine ⟨_, h1, [], F, S, A, sOut.bind q fun o' S2 F2 H2 s2 q2 w A2 r2 => ?_⟩
    split at q2
    · rename_i k ts e2
      split at q2
      · rename_i j e3
        obtain ⟨o3, h3, a3, h4, ⟨u', hu', mk'⟩, r3⟩ := A2.slot e2
        subst h4
        rw [h1] at h3
        cases h3
        cases mk' with
        | lst rl =>
          cases r2
          exact ⟨_, _, k, j, rfl, rfl, hu', by rw [rl.length]; exact e3, q2 _ F2 (Same.refl F2) σ (A2.change e2 h1 (.lst (rl.set (r.mono s2) j)))⟩
      · exact q2.elim
    · exact q2.elim
  · exact q.elim
theorem ds_setI2 {i j k : Nat} {x y : Str} {a b e : Expr} {fv fi fj : OF} {p1 p2 q1 q2 pt pos : Pos} (hK : c.g.K = X.K) (hc : X.calm = true) (ho : PE X (.Name x p1) (tVar i)) (ho2 : PE X (.Name y p2) (tVar j)) (hi : PE X a (rdO c fi)) (hj : PE X b (rdO c fj)) (hv : PE X e (rdO c fv))
    (ha : ∀ v, assign (.Subscript (.Name x p1) a q1) X.env v = (do
      let ov ← holding [v] (eval (.Name x p1) X.env)
      let iv ← holding [v, ov] (eval a X.env)
      standAt q1
      holding [v, ov, iv] (setItem ov iv v)
      release [v, ov, iv] []) := by intro _; rfl)
    (hb : ∀ v, assign (.Subscript (.Name y p2) b q2) X.env v = (do
      let ov ← holding [v] (eval (.Name y p2) X.env)
      let iv ← holding [v, ov] (eval b X.env)
      standAt q2
      holding [v, ov, iv] (setItem ov iv v)
      release [v, ov, iv] []) := by intro _; rfl)
    (e1 : (assignEach [.Subscript (.Name x p1) a q1, .Subscript (.Name y p2) b q2] X.env).map (·.2) = assign (.Subscript (.Name x p1) a q1) X.env :: (assignEach [.Subscript (.Name y p2) b q2] X.env).map (·.2) := by rfl)
    (e2 : (assignEach [.Subscript (.Name y p2) b q2] X.env).map (·.2) = assign (.Subscript (.Name y p2) b q2) X.env :: (assignEach [] X.env).map (·.2) := by rfl)
    (e3 : (assignEach [.Subscript (.Name x p1) a q1, .Subscript (.Name y p2) b q2] X.env).length = 2 := by rfl) (e4 : (assignEach [.Subscript (.Name x p1) a q1, .Subscript (.Name y p2) b q2] X.env).findIdx? (·.1) = none := by rfl)
    (hs : swapsWithSole [.Tuple [.Subscript (.Name x p1) a q1, .Subscript (.Name y p2) b q2] k pt] e pos.line X.env = pure false := by rfl) (hw : swappedStores [.Tuple [.Subscript (.Name x p1) a q1, .Subscript (.Name y p2) b q2] k pt] e X.env = pure none := by rfl)
    (h1 : (assignEach [.Tuple [.Subscript (.Name x p1) a q1, .Subscript (.Name y p2) b q2] k pt] X.env).map (·.2) = [assign (.Tuple [.Subscript (.Name x p1) a q1, .Subscript (.Name y p2) b q2] k pt) X.env] := by rfl) :
    PS X (.Assign [.Tuple [.Subscript (.Name x p1) a q1, .Subscript (.Name y p2) b q2] k pt] e pos) (rdS c (setI2F i fi j fj fv)) := by
  refine ps_imp (ps_asg hv (pg_tup (n := 2) hc (pgs_cons (pg_sub ho hi set_list ha) (pgs_cons (pg_sub ho2 hj set_list hb) pgs_nil e2) e1) e3 e4) hs hw h1) fun D σ H q => ?_
  obtain ⟨F, S, A, q⟩ := q
  refine ⟨[], F, S, A, sOut.bind q fun o S1 F1 H1 s1 q1 v A1 r1 => ?_⟩
  split at q1
  · rename_i t u
    cases r1 with
    | tup hd ra =>
      cases ra with
      | cons ra rb =>
        cases rb with
        | cons rb rc =>
          cases rc
          refine ⟨_, _, rfl, hK ▸ sameSqT A1.a.fh hd.sq, rfl, _, _, rfl, ?_⟩
          refine put1_ok (D := { nx := fun σ' H' => gCons (gSub (tVar j) (rdO c fj) rSetL) gNil _ σ' H' D.nx, rt := fun _ _ => False }) A1 ra (sOut.bindS q1 fun fl S2 F2 H2 s2 q2 => ?_)
          cases fl with
          | nx =>
            intro σ2 A2
            refine ⟨_, _, rfl, ?_⟩
            have := put1_ok (D := { nx := fun σ' H' => gNil [] σ' H' D.nx, rt := fun _ _ => False }) A2 (rb.mono s2) (?_ : sOut c F2 _ (put1 j fj u S2))
            · exact this
            · revert q2
              cases hp : put1 j fj u S2 with
              | ok fl S3 =>
                intro q2 H3 F3 s3
                have q3 := q2 H3 F3 s3
                cases fl with
                | nx => exact fun σ3 A3 => ⟨rfl, q3 σ3 A3⟩
                | rt x =>
                  exfalso
                  clear q2 q3
                  unfold put1 at hp
                  split at hp
                  · cases hf : fj S2 with
                    | ok o' S4 =>
                      rw [hf] at hp
                      have hp : (match o', S4.lo[j]? with
                        | .val (.int k), some (.ow (.lst ts)) => match ixN ts.length k with
                          | some j' => R.ok Flow.nx (S4.put j (.ow (.lst (ts.set j' u))))
                          | none => .stuck
                        | _, _ => .stuck) = R.ok (.rt x) S3 := hp
                      split at hp
                      · split at hp <;> cases hp
                      · cases hp
                    | exc e S4 => rw [hf] at hp; cases hp
                    | stuck => rw [hf] at hp; cases hp
                  · cases hp
                | bk =>
                  exfalso
                  clear q2 q3
                  unfold put1 at hp
                  split at hp
                  · cases hf : fj S2 with
                    | ok o' S4 =>
                      rw [hf] at hp
                      have hp : (match o', S4.lo[j]? with
                        | .val (.int k), some (.ow (.lst ts)) => match ixN ts.length k with
                          | some j' => R.ok Flow.nx (S4.put j (.ow (.lst (ts.set j' u))))
                          | none => .stuck
                        | _, _ => .stuck) = R.ok .bk S3 := hp
                      split at hp
                      · split at hp <;> cases hp
                      · cases hp
                    | exc e S4 => rw [hf] at hp; cases hp
                    | stuck => rw [hf] at hp; cases hp
                  · cases hp
                | ct =>
                  exfalso
                  clear q2 q3
                  unfold put1 at hp
                  split at hp
                  · cases hf : fj S2 with
                    | ok o' S4 =>
                      rw [hf] at hp
                      have hp : (match o', S4.lo[j]? with
                        | .val (.int k), some (.ow (.lst ts)) => match ixN ts.length k with
                          | some j' => R.ok Flow.nx (S4.put j (.ow (.lst (ts.set j' u))))
                          | none => .stuck
                        | _, _ => .stuck) = R.ok .ct S3 := hp
                      split at hp
                      · split at hp <;> cases hp
                      · cases hp
                    | exc e S4 => rw [hf] at hp; cases hp
                    | stuck => rw [hf] at hp; cases hp
                  · cases hp
              | exc e S3 => exact id
              | stuck => exact id
          | rt x => exact q2.elim
          | bk => exact q2.elim
          | ct => exact q2.elim
  · exact q1.elim
/-- x, y, z = a, b, c with plain local names, each as it is owned -/
def par3E (i j l : Nat) (f g h : EF) : SF := fun S => (f S).bind fun x S1 => match g (S1.push x) with
  | .ok y S2 => match h (S2.push y) with
    | .ok z S3 => match S3.popG with
      | some (y', S4) => match S4.popG with
        | some (x', S5) => if i < S5.lo.length ∧ j < S5.lo.length ∧ l < S5.lo.length then .ok .nx (((S5.put l z).put j y').put i x') else .stuck
        | none => .stuck
      | none => .stuck
    | .exc e S3 => match S3.popG with
      | some (_, S4) => match S4.popG with
        | some (_, S5) => .exc e S5
        | none => .stuck
      | none => .stuck
    | .stuck => .stuck
  | .exc e S2 => match S2.popG with
    | some (_, S3) => .exc e S3
    | none => .stuck
  | .stuck => .stuck
theorem ds_par3E {i j l : Nat} {x y z : Str} {a b d : Expr} {fa fb fd : EF} {px py pz pt pos : Pos} {kt k2 pt2} (hc : X.calm = true) (hN : X.N.Nodup) (hi : X.N[i]? = some x) (hj : X.N[j]? = some y) (hl : X.N[l]? = some z) (hij : i ≠ j) (hil : i ≠ l) (hjl : j ≠ l)
    (hx : X.env.scope.names.lookup x = some .local) (hy : X.env.scope.names.lookup y = some .local) (hz : X.env.scope.names.lookup z = some .local) (ha : PE X a (rdE c fa)) (hb : PE X b (rdE c fb)) (hd : PE X d (rdE c fd))
    (hw : swappedStores [.Tuple [.Name x px, .Name y py, .Name z pz] kt pt] (.Tuple [a, b, d] k2 pt2) X.env = pure (some [x, y, z]))
    (hs : swapsWithSole [.Tuple [.Name x px, .Name y py, .Name z pz] kt pt] (.Tuple [a, b, d] k2 pt2) pos.line X.env = pure false := by rfl)
    (s1 : starEach [a, b, d] X.env = (false, eval a X.env) :: starEach [b, d] X.env := by rfl) (s2 : starEach [b, d] X.env = (false, eval b X.env) :: starEach [d] X.env := by rfl) (s3 : starEach [d] X.env = (false, eval d X.env) :: starEach [] X.env := by rfl) :
    PS X (.Assign [.Tuple [.Name x px, .Name y py, .Name z pz] kt pt] (.Tuple [a, b, d] k2 pt2) pos) (rdS c (par3E i j l fa fb fd)) := by
  refine ps_imp (ps_par3 hc hN hi hj hl hij hil hjl hx hy hz (pa_cons ha (pa_cons hb (pa_cons hd pa_nil s3) s2) s1) hw hs) fun D σ H q => ?_
  obtain ⟨F, S, A, q⟩ := q
  refine ⟨[], F, S, A, sOut.bind q fun u S1 F1 H1 s1 q1 v A1 => ⟨_, F1, _, A1, ?_⟩⟩
  split at q1
  · rename_i y1 S2 e2
    rw [e2]
    intro H2 F2 s2 w A2
    refine ⟨_, F2, _, A2, ?_⟩
    split at q1
    · rename_i z1 S3 e3
      rw [e3]
      intro H3 F3 s3 t A3
      split at q1
      · rename_i y' S4 e4
        have eS := Sta.popG_some e4
        subst eS
        split at q1
        · rename_i x' S5 e5
          have eS := Sta.popG_some e5
          subst eS
          split at q1
          · rename_i hh
            refine ⟨v, w, t, rfl, ?_⟩
            have l3 : S5.lo.length = σ.length := A3.pop.pop.pop.l
            have A4 := A3.assign (i := l) (by rw [← l3]; exact hh.2.2)
            have A5 : AbsX c F3 (((S5.put l z1).push x').push y') (σ.set l (some t)) (([] ++ [some v]) ++ [some w]) H3 := A4
            have A6 := A5.assign (i := j) (by rw [List.length_set, ← l3]; exact hh.2.1)
            have A7 : AbsX c F3 (((S5.put l z1).put j y').push x') ((σ.set l (some t)).set j (some w)) ([] ++ [some v]) H3 := A6
            have A8 := A7.assign (i := i) (by rw [List.length_set, List.length_set, ← l3]; exact hh.1)
            rw [List.set_comm _ _ (Ne.symm hjl), List.set_comm _ _ (Ne.symm hil), List.set_comm _ _ (Ne.symm hij)] at A8
            exact q1 H3 F3 (s2.trans s3) _ A8
          · exact q1.elim
        · exact q1.elim
      · exact q1.elim
    · rename_i ex S3 e3
      rw [e3]
      intro cls dd H3 F3 s3 A3 r3
      split at q1
      · rename_i y' S4 e4
        have eS := Sta.popG_some e4
        subst eS
        split at q1
        · rename_i x' S5 e5
          have eS := Sta.popG_some e5
          subst eS
          exact q1 cls dd σ H3 F3 (s2.trans s3) A3.pop.pop r3
        · exact q1.elim
      · exact q1.elim
    · exact q1.elim
  · rename_i ex S2 e2
    rw [e2]
    intro cls dd H2 F2 s2 A2 r2
    split at q1
    · rename_i x' S3 e3
      have eS := Sta.popG_some e3
      subst eS
      exact q1 cls dd σ H2 F2 s2 A2.pop r2
    · exact q1.elim
  · exact q1.elim
/-! repr of a tuple of integers -/
def shownI (ns : List Int) : Str := (PyData.tuple (ns.map PyData.int)).shown
def reprTN : List T → Option Slot
  | [.tup ts] => (intsT ts).bind fun ns => if (shownI ns).length ≤ sizeLine ∧ (ns.all fun i => decide (i.natAbs.log2 < 1920)) = true then some (.sh (.str (shownI ns))) else none
  | _ => none
theorem reads_ints {h : Heap} : ∀ {vs : List Value} {ns : List Int}, IntsAre vs ns → ReadsAll h vs (ns.map PyData.int) []
  | _, _, .nil => .nil
  | _, _, .cons n t r => .cons (.int n t) (reads_ints r)
theorem showable_ints : ∀ ns : List Int, (ns.all fun i => decide (i.natAbs.log2 < 1920)) = true → PyData.showableAll (ns.map PyData.int) = true
  | [], _ => by simp only [List.map_nil, PyData.showableAll]
  | n :: ns, h => by
    rw [List.all_cons, Bool.and_eq_true] at h
    simp only [List.map_cons, PyData.showableAll, PyData.showable, showable_ints ns h.2, h.1, Bool.and_self]
theorem hasDict_ints : ∀ ns : List Int, PyData.hasDictAll (ns.map PyData.int) = false
  | [] => by simp only [List.map_nil, PyData.hasDictAll]
  | n :: ns => by
    simp only [List.map_cons, PyData.hasDictAll, PyData.hasDict, hasDict_ints ns, Bool.or_self]
theorem depth_ints : ∀ ns : List Int, PyData.depthAll (ns.map PyData.int) ≤ 1
  | [] => by simp only [List.map_nil, PyData.depthAll]; omega
  | n :: ns => by
    have := depth_ints ns
    simp only [List.map_cons, PyData.depthAll, PyData.depth]
    omega
def rReprT (K : PySem.W.Frag) : List V → Hp → VK → Prop := fun xs H Q => ∃ (a : Addr) (ns : List Int), xs = [.ref a] ∧ SqT K H a (ns.map V.int) ∧ (shownI ns).length ≤ sizeLine ∧ (ns.all fun i => decide (i.natAbs.log2 < 1920)) = true ∧ Q (.str (shownI ns)) H
theorem call_reprT (hgd : X.A.guards = some []) (hu : X.A.units + 10 < cLine) : CallR X (.builtin "repr") (rReprT X.K) := by
  intro pins s σ H xs us Q I r h
  obtain ⟨a, ns, rfl, hs, hz, hsm, q⟩ := h
  obtain ⟨u, rfl, rx⟩ := vals1 r
  cases rx
  obtain ⟨its, r', ⟨o, ho, hc, n, hd⟩, _⟩ := I.tuple hs
  have rd : Reads s.heap (.ref a) (.tuple (ns.map PyData.int)) [] := .tuple ho hc hd (reads_ints (by simpa using ints_of_vals r'))
  refine repr_of_reads' rd (by unfold PyData.showable; exact showable_ints ns hsm) (PyData.noDict_hsm ?_) hgd ?_ (fun _ _ e => e) (fun h' u tk kp => ?_) hz
  · unfold PyData.hasDict; exact hasDict_ints ns
  · have := depth_ints ns
    simp only [PyData.depth]
    omega
  · exact ⟨.str _, H, I.kept (t' := tk) kp, ⟨_, rfl⟩, q⟩
theorem p_reprT (hK : c.g.K = X.K) : OpN c (rReprT X.K) reprTN := by
  intro F S σ τ H xs ts z Q A hx hz k
  unfold reprTN at hz
  split at hz
  · obtain ⟨ns, h1, h2⟩ := Option.bind_eq_some_iff.mp hz
    split at h2
    · rename_i hl
      cases h2
      have e := intsT_of h1
      subst e
      obtain ⟨v, rfl, h⟩ := hx.one
      obtain ⟨p, vs, rfl, h3, r⟩ := h.tup A.a.fh
      rw [r.ints] at h3
      exact ⟨p, ns, rfl, hK ▸ h3, hl.1, hl.2, fin_sh A k (.str _)⟩
    · cases h2
  · cases hz
end
end TL

end
section
set_option Elab.async false
set_option linter.all false
set_option maxRecDepth 100000
set_option autoImplicit false
set_option maxHeartbeats 2000000
/-! TL24: range with a step; sorted of either kind -/
open PySem PySem.Spec PyProof.Rows L2
namespace TL
def rgC (i c : Int) (n : Nat) : List T := (List.range n).map fun k => T.int (i + (k : Nat) * c)
def rgc (a b c : Int) : R (List T) → Sta → R (List T) := fun r S => if c ≠ 0 ∧ c.natAbs < 1073741824 ∧ Builtin.Range.small a b c = true ∧ Builtin.Range.rangeSize a b c = ((Builtin.Range.rangeSize a b c).toNat : Int) then .ok (rgC a c (Builtin.Range.rangeSize a b c).toNat) S else .stuck
def rngI3 (ta : AF) : IF := fun S => (ta S).bind fun os S1 => match vals os with
  | some [.int i, .int j, .int k] => rgc i j k .stuck S1
  | _ => .stuck
theorem rgC_length (i c : Int) (n : Nat) : (rgC i c n).length = n := by unfold rgC; rw [List.length_map, List.length_range]
theorem it_rngC {c : Cfg} {F : Hp} {i k : Int} {n : Nat} : IterOk c (Itc i k n) F (rgC i k n) where
  stop := fun H s => by rw [rgC_length]; exact Nat.le_refl _
  go := fun j H h s => by rw [rgC_length] at h; exact h
  yld := fun j x H H' F' S σ τ h s A y => by
    rw [rgC_length] at h
    obtain ⟨rfl, rfl⟩ := y
    refine ⟨_, F', ?_, Same.refl _, A.pushSh (.int _)⟩
    unfold rgC
    rw [List.getElem?_map, List.getElem?_range h]
    rfl
section
variable {X : Cx} {c : Cfg} {tg e a b d : Expr} {es : List Expr} {pos : Pos}
theorem di_rng3 {p : Pos} {fa : AF} (hg : Gl X "range") (hm : X.mg "range" = none) (ha : PA X [a, b, d] (rdA c fa)) (hs : starEach [a, b, d] X.env = (false, eval a X.env) :: starEach [b, d] X.env := by rfl) (hpl : (backTo pos (starEach [b, d] X.env)).any (·.1) = false := by rfl) :
    PI X tg (.Call (.Name "range" p) [a, b, d] [] pos) (rdI c (rngI3 fa)) := by
  refine PI.imp (pi_range3 hg hm ha hs hpl) fun σ H Q q => ?_
  obtain ⟨τ, F, S, A, q⟩ := q
  refine ⟨τ, F, S, A, rOut.bind q fun os S1 F1 H1 s1 q1 vs A1 r1 => ?_⟩
  split at q1
  · rename_i i j k e1
    have rv := r1.vals e1
    cases rv with
    | cons ra rv =>
      cases rv with
      | cons rb rv =>
        cases rv with
        | cons rc rv =>
          cases rv
          cases ra
          cases rb
          cases rc
          unfold rgc at q1
          split at q1
          · rename_i h
            exact ⟨i, j, k, _, rfl, ⟨h.1, h.2.1, h.2.2.1, h.2.2.2⟩, q1 H1 F1 (Same.refl F1) _ A1 it_rngC⟩
          · exact q1.elim
  · exact q1.elim
/-- sorted of integers or of tuples of integers -/
def sortBN (ts : List T) : Option Slot := match sortedN ts with
  | some z => some z
  | none => sortTN ts
def rSortB (K : PySem.W.Frag) : List V → Hp → VK → Prop := fun vs H Q => rSortedA K vs H Q ∨ rSortL K vs H Q
theorem cr_sortB : CallR X (.builtin "sorted") (rSortB X.K) := fun pins s σ H xs us Q I r h => h.elim (cr_sortedA pins s σ H xs us Q I r) (cr_sortL pins s σ H xs us Q I r)
theorem p_sortB (hK : c.g.K = X.K) : OpN c (rSortB X.K) sortBN := by
  intro F S σ τ H xs ts z Q A hx hz k
  unfold sortBN at hz
  split at hz
  · rename_i z' e
    cases hz
    exact .inl (p_sorted hK F S σ τ H xs ts z Q A hx e k)
  · exact .inr (p_sortT hK F S σ τ H xs ts z Q A hx hz k)
end
end TL

end
section
set_option Elab.async false
set_option linter.all false
set_option maxRecDepth 100000
set_option autoImplicit false
set_option maxHeartbeats 400000
/-! TL25: facts of operators on rows of naturals -/
open PySem PySem.Spec PyProof.Rows L2
namespace TL
theorem sortI_range (p : List Nat) (n : Nat) (hp : p.Perm (List.range n)) : sortI (p.map fun (n : Nat) => (n : Int)) = (List.range n).map fun (n : Nat) => (n : Int) := by
  refine List.Perm.eq_of_pairwise (le := (· ≤ ·)) (fun a b _ _ h1 h2 => Int.le_antisymm h1 h2) (sortI_pw _) ?_ ((sortI_perm _).trans (hp.map _))
  rw [List.pairwise_map]
  exact (List.pairwise_lt_range).imp fun h => by omega
theorem intsT_tn (p : List Nat) : intsT (tn p) = some (p.map fun (n : Nat) => (n : Int)) := by
  have := intsT_map (p.map fun (n : Nat) => (n : Int))
  rwa [List.map_map] at this
theorem sorted_l (p : List Nat) (n : Nat) (hp : p.Perm (List.range n)) : sortedN [.lst (tn p)] = some (.ow (.lst (tn (List.range n)))) := by
  show (intsT (tn p)).map _ = _
  rw [intsT_tn, Option.map_some, sortI_range p n hp, List.map_map]; rfl
theorem sorted_t (p : List Nat) (n : Nat) (hp : p.Perm (List.range n)) : sortedN [.tup (tn p)] = some (.ow (.lst (tn (List.range n)))) := by
  show (intsT (tn p)).map _ = _
  rw [intsT_tn, Option.map_some, sortI_range p n hp, List.map_map]; rfl
theorem lrg_n (n : Nat) (h : n ≤ 1000) : lrg1 (.int (n : Int)) = some (.ow (.lst (tn (List.range n)))) := by
  show (if -(2 ^ 62) ≤ (n : Int) ∧ (n : Int) ≤ 16777216 then some (Slot.ow (T.lst (rgT 0 n))) else none) = _
  rw [if_pos (by omega), rg_tn]
theorem le_nat (a b : Nat) : leT (.int (a : Int)) (.int (b : Int)) = some (.sh (.bl (decide (a ≤ b)))) := by
  show some (Slot.sh (T.bl (decide ((a : Int) ≤ b)))) = _
  simp
def sq (b : Bool) (ts : List T) : T := if b then .tup ts else .lst ts
def mx (l : List Nat) : Nat := l.foldl max 0
theorem maxI_nat : ∀ (xs : List Nat) (x : Nat), maxI (x : Int) (xs.map fun (n : Nat) => (n : Int)) = ((xs.foldl max x : Nat) : Int)
  | [], _ => rfl
  | y :: xs, x => by
    have ih := maxI_nat xs (max x y)
    unfold maxI at ih ⊢
    rw [List.map_cons, List.foldl_cons, List.foldl_cons, ← ih]
    congr 1
    by_cases h : x < y
    · rw [if_pos (by omega)]; omega
    · rw [if_neg (by omega)]; omega
theorem maxDf_n (l : List Nat) : maxDfT (.lst (tn l)) (.int 0) = some (.sh (.int ((mx l : Nat) : Int))) := by
  show (intsT (tn l)).map _ = _
  rw [intsT_tn, Option.map_some]
  cases l with
  | nil => rfl
  | cons x xs =>
    show some (Slot.sh (T.int (maxI (x : Int) (xs.map fun (n : Nat) => (n : Int))))) = _
    rw [maxI_nat]
    unfold mx
    rw [List.foldl_cons, Nat.zero_max]
theorem eraseIdx_perm {l : List Nat} {i x : Nat} (h : l[i]? = some x) : l.Perm (x :: l.eraseIdx i) := by
  induction l generalizing i with
  | nil => simp at h
  | cons a l ih =>
    cases i with
    | zero => simp at h; subst h; exact List.Perm.refl _
    | succ i => exact ((ih (by simpa using h)).cons a).trans (List.Perm.swap _ _ _)
theorem tn_erase (p : List Nat) (i : Nat) : (tn p).eraseIdx i = tn (p.eraseIdx i) := by
  induction p generalizing i with
  | nil => rfl
  | cons a p ih => cases i with
    | zero => rfl
    | succ i => rw [tn_cons, List.eraseIdx_cons_succ, ih, List.eraseIdx_cons_succ, tn_cons]
theorem popAt_n {p : List Nat} {i x : Nat} (h : p[i]? = some x) (hi : i ≤ 1000) : popAtP (tn p) [.int (i : Int)] = some (tn (p.eraseIdx i), .int (x : Int)) := by
  have hl : i < p.length := (List.getElem?_eq_some_iff.mp h).1
  unfold popAtP
  have e : seqIndex? (i : Int) (tn p).length = some i := seqIndex_of (by omega) (by rw [tn_length]; omega)
  simp only [e, tn_get h]
  rw [if_pos ⟨by omega, by omega⟩, tn_erase]
theorem lt_nat (a b : Nat) : ltA (.int (a : Int)) (.int (b : Int)) = some (.sh (.bl (decide (a < b)))) := by
  show some (Slot.sh (T.bl (decide ((a : Int) < b)))) = _
  simp
theorem ge_nat (a b : Nat) : geT (.int (a : Int)) (.int (b : Int)) = some (.sh (.bl (decide (b ≤ a)))) := by
  show some (Slot.sh (T.bl (decide ((b : Int) ≤ a)))) = _
  simp
theorem sub_nat {a b : Nat} (h : b ≤ a) : subT (.int (a : Int)) (.int (b : Int)) = some (.sh (.int ((a - b : Nat) : Int))) := by
  show some (Slot.sh (T.int ((a : Int) - b))) = _
  rw [Int.natCast_sub h]
theorem len_tn (p : List Nat) : lenN [.lst (tn p)] = some (.sh (.int (p.length : Int))) := by
  show some (Slot.sh (T.int ((tn p).length : Int))) = _
  rw [tn_length]
theorem len_tnt (p : List Nat) : lenN [.tup (tn p)] = some (.sh (.int (p.length : Int))) := by
  show some (Slot.sh (T.int ((tn p).length : Int))) = _
  rw [tn_length]
def tll (L : List (List Nat)) : List T := L.map fun p => T.lst (tn p)
theorem tll_length (L : List (List Nat)) : (tll L).length = L.length := List.length_map _
theorem tll_append (a b : List (List Nat)) : tll (a ++ b) = tll a ++ tll b := List.map_append
theorem cat_l (a b : List T) (h : a.length + b.length ≤ 100000) : addT (.lst a) (.lst b) = some (.ow (.lst (a ++ b))) := if_pos (len_sz h)
theorem cut1 (ts : List T) : cutT ts (some 1) none = ts.drop 1 := by
  unfold cutT
  rw [HT.sIx_none, show (1 : Int) = ((1 : Nat) : Int) from rfl, HT.sIx_nat]
  cases ts with
  | nil => rfl
  | cons a l =>
    rw [List.length_cons, Nat.min_eq_left (by omega)]
    exact List.take_of_length_le (by rw [List.length_drop, List.length_cons]; omega)
theorem slT_l (ts : List T) : slT' (.lst ts) (some 1) none = some (.ow (.lst (ts.drop 1))) := by
  show some (Slot.ow (T.lst (cutT ts (some 1) none))) = _
  rw [cut1]
theorem tn_drop (p : List Nat) (i : Nat) : (tn p).drop i = tn (p.drop i) := by unfold tn; rw [List.map_drop]
theorem zip_tn : ∀ p q : List Nat, zipT (tn p) (tn q) = (p.zip q).map fun ab => T.wtp [.int (ab.1 : Int), .int (ab.2 : Int)]
  | [], q => by cases q <;> rfl
  | _ :: _, [] => rfl
  | a :: p, b :: q => by
    rw [tn_cons, tn_cons, zipT, zip_tn p q]; rfl
theorem mx_eq (l : List Nat) (x : Nat) : mx (x :: l) = l.foldl max x := by unfold mx; rw [List.foldl_cons, Nat.zero_max]
theorem maxAN_l {l : List Nat} (h : l ≠ []) : maxAN [.lst (tn l)] = some (.sh (.int ((mx l : Nat) : Int))) := by
  show (intsT (tn l)).bind _ = _
  rw [intsT_tn, Option.bind_some]
  cases l with
  | nil => exact absurd rfl h
  | cons x xs =>
    show some (Slot.sh (T.int (maxI (x : Int) (xs.map fun (n : Nat) => (n : Int))))) = _
    rw [maxI_nat, mx_eq]
theorem maxAN_t {l : List Nat} (h : l ≠ []) : maxAN [.tup (tn l)] = some (.sh (.int ((mx l : Nat) : Int))) := by
  show (intsT (tn l)).bind _ = _
  rw [intsT_tn, Option.bind_some]
  cases l with
  | nil => exact absurd rfl h
  | cons x xs =>
    show some (Slot.sh (T.int (maxI (x : Int) (xs.map fun (n : Nat) => (n : Int))))) = _
    rw [maxI_nat, mx_eq]
theorem ix_last {p : List Nat} (h : p ≠ []) : ixT (.lst (tn p)) (.int (-1)) = some (.sh (.int ((p.getLastD 0 : Nat) : Int))) := by
  have h0 : 0 < p.length := List.length_pos_iff.mpr h
  have e : ixN (tn p).length (-1) = some (p.length - 1) := by
    unfold ixN
    rw [tn_length, if_neg (by omega), if_pos (by omega)]
    congr 1
    omega
  show (atI (tn p) (-1)).map Slot.sh = _
  unfold atI
  rw [e]
  show ((tn p)[p.length - 1]?).map Slot.sh = _
  have g : p[p.length - 1]? = some (p.getLastD 0) := by
    rw [← List.getLast?_eq_getElem?, List.getLastD_eq_getLast?, List.getLast?_eq_some_getLast h]; rfl
  rw [tn_get g]; rfl
theorem tuple_l (ts : List T) : tupleN [.lst ts] = some (.sh (.tup ts)) := rfl
theorem idxP_tn {p : List Nat} {j x : Nat} (h : p[j]? = some x) (hn : ∀ m < j, p[m]? ≠ some x) : idxP (tn p) (.int (x : Int)) = some (.sh (.int (j : Nat))) := by
  unfold idxP
  rw [if_pos ⟨okTs_tn p 0, rfl⟩]
  have hj : j < p.length := (List.getElem?_eq_some_iff.mp h).1
  have e : (tn p).findIdx? (fun y => eqD y (.int (x : Int))) = some j := by
    rw [List.findIdx?_eq_some_iff_getElem]
    refine ⟨by rw [tn_length]; exact hj, ?_, fun m hm => ?_⟩
    · have g := tn_get h
      have e2 : (tn p)[j]'(by rw [tn_length]; exact hj) = .int (x : Int) := by
        rw [List.getElem?_eq_getElem (by rw [tn_length]; exact hj)] at g
        exact Option.some.inj g
      rw [e2]
      show PyData.eqv (.int (x : Int)) (.int (x : Int)) = true
      rw [eqv_int]; simp
    · have hm2 : m < p.length := by omega
      have g := tn_get (List.getElem?_eq_getElem hm2)
      have e2 : (tn p)[m]'(by rw [tn_length]; exact hm2) = .int ((p[m] : Nat) : Int) := by
        rw [List.getElem?_eq_getElem (by rw [tn_length]; exact hm2)] at g
        exact Option.some.inj g
      rw [e2]
      have hne := hn m hm
      rw [List.getElem?_eq_getElem hm2] at hne
      show ¬ PyData.eqv (.int ((p[m] : Nat) : Int)) (.int (x : Int)) = true
      rw [eqv_int]
      simp only [decide_eq_true_eq]
      intro z
      exact hne (by rw [show p[m] = x by omega])
  rw [e]
  rfl
theorem idxF_tup {fa fb : OF} {S S1 S2 : Sta} {o o' : Opd} {ts ts' : List T} {u : T} {z : Slot} (h1 : fa S = .ok o S1) (g1 : o.get S1 = some (.tup ts)) (h2 : fb S1 = .ok o' S2) (g2 : o.get S2 = some (.tup ts')) (g3 : o'.get S2 = some u) (hz : idxP ts' u = some z) : idxF fa fb S = .ok z S2 := by
  unfold idxF
  rw [h1, R.bind_ok, g1]
  dsimp only
  rw [h2, R.bind_ok, g2, g3]
  dsimp only
  rw [hz, res_some]
theorem ixs {b : Bool} {p : List Nat} {i n : Nat} (h : p[i]? = some n) : ixT (sq b (tn p)) (.int (i : Int)) = some (.sh (.int (n : Int))) := by
  cases b
  · exact ix_lst (tn_get h)
  · exact ix_tup (tn_get h)
theorem gt_n (a b : Nat) : gtA (.int (a : Int)) (.int (b : Int)) = some (.sh (.bl (decide (b < a)))) := by
  show some (Slot.sh (T.bl (decide ((b : Int) < a)))) = _
  simp
theorem eq_n (a b : Nat) : eqT (.int (a : Int)) (.int (b : Int)) = some (.sh (.bl (decide (a = b)))) := by
  rw [eq_int, show decide ((a : Int) = (b : Int)) = decide (a = b) from decide_eq_decide.mpr Int.ofNat_inj]
theorem getN {p : List Nat} {i : Nat} (h : i < p.length) : p[i]? = some (p.getD i 0) := by rw [List.getD_eq_getElem?_getD, List.getElem?_eq_getElem h]; rfl
theorem ixD (b : Bool) {p : List Nat} {i : Nat} (h : i < p.length) : ixT (sq b (tn p)) (.int (i : Int)) = some (.sh (.int ((p.getD i 0 : Nat) : Int))) := ixs (getN h)
theorem rev_l (p : List Nat) : revT (.lst (tn p)) = some (.ow (.lst (tn p.reverse))) := by
  show some (Slot.ow (T.lst (tn p).reverse)) = _
  unfold tn
  rw [List.map_reverse]
def insN (x : Nat) : List Nat → List Nat
  | [] => [x]
  | y :: ys => if x ≤ y then x :: y :: ys else y :: insN x ys
def sortN : List Nat → List Nat
  | [] => []
  | x :: xs => insN x (sortN xs)
def dedN : List Nat → List Nat
  | [] => []
  | x :: xs => if x ∈ dedN xs then dedN xs else x :: dedN xs
theorem insI_nat (x : Nat) : ∀ l : List Nat, insI (x : Int) (l.map fun (n : Nat) => (n : Int)) = (insN x l).map fun (n : Nat) => (n : Int)
  | [] => rfl
  | y :: ys => by
    rw [List.map_cons]
    unfold insI insN
    by_cases h : x ≤ y
    · rw [if_pos (by omega), if_pos h]; rfl
    · rw [if_neg (by omega), if_neg h, insI_nat x ys]; rfl
theorem sortI_nat : ∀ l : List Nat, sortI (l.map fun (n : Nat) => (n : Int)) = (sortN l).map fun (n : Nat) => (n : Int)
  | [] => rfl
  | x :: xs => by
    rw [List.map_cons, sortI, sortI_nat xs, insI_nat]; rfl
theorem ded_nat : ∀ l : List Nat, dedup (l.map fun (n : Nat) => (n : Int)) = (dedN l).map fun (n : Nat) => (n : Int)
  | [] => rfl
  | x :: xs => by
    rw [List.map_cons, dedup, ded_nat xs]
    have h : ((x : Int) ∈ (dedN xs).map fun (n : Nat) => (n : Int)) ↔ x ∈ dedN xs := by
      rw [List.mem_map]
      constructor
      · rintro ⟨y, h, e⟩; rwa [← Int.ofNat_inj.mp e]
      · exact fun h => ⟨x, h, rfl⟩
    have e : dedN (x :: xs) = if x ∈ dedN xs then dedN xs else x :: dedN xs := rfl
    rw [e]
    by_cases c : x ∈ dedN xs
    · rw [if_pos (h.mpr c), if_pos c]
    · rw [if_neg (fun z => c (h.mp z)), if_neg c]; rfl
theorem sorted_n (l : List Nat) : sortedN [.lst (tn l)] = some (.ow (.lst (tn (sortN l)))) := by
  show (intsT (tn l)).map _ = _
  rw [intsT_tn, Option.map_some, sortI_nat, List.map_map]; rfl
theorem sortSet_n {l : List Nat} (h : l.length < 60) : sortSetN [.tup (tn l)] = some (.ow (.lst (tn (sortN (dedN l))))) := by
  show (intsT (tn l)).bind _ = _
  rw [intsT_tn, Option.bind_some, if_pos (by rw [List.length_map]; exact h), ded_nat, sortI_nat, List.map_map]; rfl
theorem ne_lst (p q : List Nat) : neT (.lst (tn p)) (.lst (tn q)) = some (.sh (.bl (!decide (p = q)))) := by
  unfold neT
  rw [if_pos ⟨okD_lst p 59, okD_lst q 59⟩, eqD_lst]
theorem prm_one {α : Type} (x : α) : prm [0] [x] = [x] := rfl
theorem prm_swap {α : Type} (x y : α) : prm [1, 0] [x, y] = [y, x] := rfl
theorem ex_l (a b : List Nat) (h : a.length + b.length ≤ 1000) : exP (tn a) [.lst (tn b)] = some (tn (a ++ b), .non) := by
  show (if (tn a).length + (tn b).length ≤ sz then some (tn a ++ tn b, T.non) else none) = _
  rw [if_pos (by rw [tn_length, tn_length]; exact len_sz (by omega)), tn_append]
theorem isN_bool_int (z : Int) : isN ["bool"] (.int z) = some (.sh (.bl false)) := isN_int_bool z
theorem mx_in : ∀ (l : List Nat) (a : Nat), l.foldl max a = a ∨ l.foldl max a ∈ l
  | [], a => .inl rfl
  | x :: l, a => by
    rw [List.foldl_cons]
    rcases mx_in l (max a x) with h | h
    · rw [h]
      by_cases q : a ≤ x
      · rw [Nat.max_eq_right q]; exact .inr List.mem_cons_self
      · rw [Nat.max_eq_left (by omega)]; exact .inl rfl
    · exact .inr (List.mem_cons_of_mem _ h)
theorem mx_le : ∀ (l : List Nat) (a x : Nat), x ∈ l ∨ x ≤ a → x ≤ l.foldl max a
  | [], a, x, h => h.elim (fun h => nomatch h) id
  | y :: l, a, x, h => by
    rw [List.foldl_cons]
    refine mx_le l (max a y) x ?_
    rcases h with h | h
    · rcases List.mem_cons.mp h with rfl | h
      · exact .inr (Nat.le_max_right _ _)
      · exact .inl h
    · exact .inr (Nat.le_trans h (Nat.le_max_left _ _))
theorem mx_mem {l : List Nat} (h : l ≠ []) : mx l ∈ l := by
  rcases mx_in l 0 with e | e
  · cases l with
    | nil => exact absurd rfl h
    | cons x l =>
      have := mx_le (x :: l) 0 x (.inl List.mem_cons_self)
      have e' : mx (x :: l) = 0 := e
      rw [e']
      have e2 : (x :: l).foldl max 0 = 0 := e
      rw [e2] at this
      have : x = 0 := by omega
      rw [this]
      exact List.mem_cons_self
  · exact e
theorem seq_nx {f g : SF} {S S1 : Sta} {r : R TL.Flow} (h1 : f S = .ok .nx S1) (h2 : g S1 = r) : seqF f g S = r := by
  rw [w_seq, h1, w_okB, kSeq_nx, h2]
theorem okTs_tl : ∀ (L : List (List Nat)) (n : Nat), T.okTs (tll L) (n + 1) = true
  | [], _ => rfl
  | p :: L, n => by
    show (T.okT (.lst (tn p)) (n + 1) && T.okTs (tll L) (n + 1)) = true
    rw [okTs_tl L n, Bool.and_true]
    exact okD_lst p n
theorem any_tl (f : List Nat) : ∀ L : List (List Nat), ((tll L).any fun y => eqD y (.lst (tn f))) = decide (f ∈ L)
  | [] => by simp [tll]
  | p :: L => by
    show (eqD (.lst (tn p)) (.lst (tn f)) || (tll L).any fun y => eqD y (.lst (tn f))) = _
    rw [any_tl f L, eqD_lst, Bool.eq_iff_iff]
    simp only [Bool.or_eq_true, decide_eq_true_eq, List.mem_cons]
    constructor
    · rintro (h | h)
      · exact .inl h.symm
      · exact .inr h
    · rintro (h | h)
      · exact .inl h.symm
      · exact .inr h
theorem notin_tl {f : List Nat} {L : List (List Nat)} (h : f ∈ L) : inT true (.lst (tn f)) (.lst (tll L)) = some (.sh (.bl false)) := by
  show (if T.okD 60 (.lst (tn f)) = true ∧ T.okD 60 (.lst (tll L)) = true then some (Slot.sh (T.bl (true != (tll L).any fun y => eqD y (.lst (tn f))))) else none) = _
  rw [if_pos ⟨okD_lst f 59, okTs_tl L 58⟩, any_tl, decide_eq_true h]
  rfl
theorem ne_pair (a b : List Nat) : neT (.tup [.tup (tn a), .tup (tn b)]) (.tup [.tup (tn a), .tup (tn b)]) = some (.sh (.bl false)) := by
  have ok : T.okD 60 (.tup [.tup (tn a), .tup (tn b)]) = true := by
    show (T.okT (.tup (tn a)) 59 && (T.okT (.tup (tn b)) 59 && true)) = true
    have h1 : T.okT (.tup (tn a)) 59 = true := okD_tup a 58
    have h2 : T.okT (.tup (tn b)) 59 = true := okD_tup b 58
    rw [h1, h2]; rfl
  unfold neT
  rw [if_pos ⟨ok, ok⟩]
  have e : eqD (.tup [.tup (tn a), .tup (tn b)]) (.tup [.tup (tn a), .tup (tn b)]) = true := by
    show (eqD (.tup (tn a)) (.tup (tn a)) && (eqD (.tup (tn b)) (.tup (tn b)) && true)) = true
    rw [eqD_tup, eqD_tup, decide_eq_true rfl, decide_eq_true rfl]; rfl
  rw [e]; rfl
theorem isN_tup1 (z : List T) : isN ["tuple"] (.tup z) = some (.sh (.bl true)) := by
  simp only [isN, tyN, Option.bind_some, show kitN "tuple" ["tuple"] = some true by decide +kernel]; rfl
theorem repr_bl (b : Bool) : reprN [.bl b] = some (.sh (.str (if b then "True" else "False"))) := by cases b <;> rfl
theorem ne_str (x : Str) (h : PyData.strOk x = true) : neT (.str x) (.str x) = some (.sh (.bl false)) := by
  unfold neT
  rw [if_pos ⟨h, h⟩]
  have e : eqD (.str x) (.str x) = true := by
    show (x == x) = true
    exact beq_self_eq_true x
  rw [e]; rfl
theorem ne_repr (b : Bool) : neT (.str (if b then "True" else "False")) (.str (if b then "True" else "False")) = some (.sh (.bl false)) :=
  ne_str _ (by cases b <;> decide +kernel)
theorem max2_n (a b : Nat) : max2N [.int (a : Int), .int (b : Int)] = some (.sh (.int ((max a b : Nat) : Int))) := by
  show some (Slot.sh (T.int (if (b : Int) > a then (b : Int) else a))) = _
  by_cases h : a < b
  · rw [if_pos (by omega), Nat.max_eq_right (by omega)]
  · rw [if_neg (by omega), Nat.max_eq_left (by omega)]
theorem list_t (ts : List T) : listN [.tup ts] = some (.ow (.lst ts)) := rfl
theorem list_l (ts : List T) : listN [.lst ts] = some (.ow (.lst ts)) := rfl
theorem nil_of {l : List Nat} : l.filterMap (fun _ => (none : Option T)) = [] := by
  induction l with
  | nil => rfl
  | cons a l ih => rw [List.filterMap_cons]; exact ih
theorem pow1030 : powT (.int 10) (.int 30) = some (.sh (.int ((10 ^ 30 : Nat) : Int))) := by
  have := pow_ok (i := 10) (j := 30) (by decide) (by decide)
  exact this
theorem addN (a b : Nat) : addT (.int (a : Int)) (.int (b : Int)) = some (.sh (.int ((a + b : Nat) : Int))) := rfl
theorem catT (a b : List Nat) (h : a.length + b.length ≤ 1000) : addT (.tup (tn a)) (.tup (tn b)) = some (.sh (.tup (tn (a ++ b)))) := by
  show (if (tn a).length + (tn b).length ≤ sz then some (Slot.sh (T.tup (tn a ++ tn b))) else none) = _
  rw [if_pos (by rw [tn_length, tn_length]; exact len_sz (by omega)), tn_append]
theorem ne_self_t (l : List Nat) : neT (.tup (tn l)) (.tup (tn l)) = some (.sh (.bl false)) := by rw [ne_tup, decide_eq_true rfl]; rfl
theorem askF_exc {ask : Nib → FR} {e : Ex} {l gh : List Slot} {nb n : Nib} (h : ask nb = .exc e n) : askF 0 ask ⟨.fu :: l, gh, nb⟩ = .exc e ⟨.fu :: l, gh, n⟩ := by
  show (match ask nb with
    | .ok x n => R.ok x { (⟨.fu :: l, gh, nb⟩ : Sta) with nb := n }
    | .exc e n => .exc e { (⟨.fu :: l, gh, nb⟩ : Sta) with nb := n }
    | .stuck => .stuck) = _
  rw [h]
end TL

end
section
set_option Elab.async false
set_option linter.all false
set_option maxRecDepth 100000
set_option autoImplicit false
set_option maxHeartbeats 2000000
/-! TL26: x, y = a, b by way of a tuple (some of the names are cells), each as it is owned -/
open PySem PySem.Spec PyProof.Rows L2
namespace TL
section
variable {X : Cx} {c : Cfg}
theorem ds_parA {i j : Nat} {x y : Str} {a b : Expr} {fa fb : EF} {px py pt pos : Pos} {kt k2 : Nat} {pt2 : Pos} (hc : X.calm = true) (hij : i ≠ j) (g1 : PG X (.Name x px) (gName i)) (g2 : PG X (.Name y py) (gName j)) (ha : PE X a (rdE c fa)) (hb : PE X b (rdE c fb))
    (e1 : (assignEach [.Name x px, .Name y py] X.env).map (·.2) = assign (.Name x px) X.env :: (assignEach [.Name y py] X.env).map (·.2) := by rfl) (e2 : (assignEach [.Name y py] X.env).map (·.2) = assign (.Name y py) X.env :: (assignEach [] X.env).map (·.2) := by rfl)
    (e3 : (assignEach [.Name x px, .Name y py] X.env).length = 2 := by rfl) (e4 : (assignEach [.Name x px, .Name y py] X.env).findIdx? (·.1) = none := by rfl)
    (hs : swapsWithSole [.Tuple [.Name x px, .Name y py] kt pt] (.Tuple [a, b] k2 pt2) pos.line X.env = pure false := by rfl) (hw : swappedStores [.Tuple [.Name x px, .Name y py] kt pt] (.Tuple [a, b] k2 pt2) X.env = pure none := by rfl)
    (h1 : (assignEach [.Tuple [.Name x px, .Name y py] kt pt] X.env).map (·.2) = [assign (.Tuple [.Name x px, .Name y py] kt pt) X.env] := by rfl)
    (s2 : starEach [a, b] X.env = (false, eval a X.env) :: starEach [b] X.env := by rfl) (s3 : starEach [b] X.env = (false, eval b X.env) :: starEach [] X.env := by rfl) :
    PS X (.Assign [.Tuple [.Name x px, .Name y py] kt pt] (.Tuple [a, b] k2 pt2) pos) (rdS c (parF i j fa fb)) := by
  refine ps_imp (ps_asg (pe_tup (pa_cons ha (pa_cons hb pa_nil s3) s2)) (pg_tup (n := 2) hc (pgs_cons g1 (pgs_cons g2 pgs_nil e2) e1) e3 e4) hs hw h1) fun D σ H q => ?_
  obtain ⟨F, S, A, q⟩ := q
  refine ⟨[], F, S, A, sOut.bind q fun u S1 F1 H1 s1 q1 v A1 => ⟨_, F1, _, A1, ?_⟩⟩
  split at q1
  · rename_i y' S2 ey
    rw [ey]
    intro H2 F2 s2 w A2
    split at q1
    · rename_i x' S3 e3
      have eS := Sta.popG_some e3
      subst eS
      split at q1
      · rename_i hh
        refine ⟨by rw [sizeLine_eq]; simp, fun p np => ?_⟩
        refine ⟨p, [v, w], rfl, .inl (.inl upd_same), rfl, v, [w], rfl, w, [], rfl, rfl, ?_⟩
        have A2 : AbsX c F2 ((S3.push x').push y') σ (([] ++ [some v]) ++ [some w]) (upd H2 p (.tup [v, w])) := A2.st fun b o e => by
          rw [upd_ne (fun z => by rw [z, np] at e; cases e)]
          exact e
        have l3 : S3.lo.length = σ.length := A2.pop.pop.l
        have A3 := A2.assign (i := j) (by rw [← l3]; exact hh.2)
        have A4 : AbsX c F2 (((S3.put j y').push x')) (σ.set j (some w)) ([] ++ [some v]) (upd H2 p (.tup [v, w])) := A3
        have A5 := A4.assign (i := i) (by rw [List.length_set, ← l3]; exact hh.1)
        rw [List.set_comm _ _ (Ne.symm hij)] at A5
        exact q1 _ F2 s2 _ A5
      · exact q1.elim
    · exact q1.elim
  · rename_i ex S2 e2
    rw [e2]
    intro cls d H2 F2 s2 A2 r2
    split at q1
    · rename_i x' S3 e3
      have eS := Sta.popG_some e3
      subst eS
      exact q1 cls d σ H2 F2 s2 A2.pop r2
    · exact q1.elim
  · exact q1.elim
theorem ds_par3A {i j l : Nat} {x y z : Str} {a b d : Expr} {fa fb fd : EF} {px py pz pt pos : Pos} {kt k2 : Nat} {pt2 : Pos} (hc : X.calm = true) (hij : i ≠ j) (hil : i ≠ l) (hjl : j ≠ l) (g1 : PG X (.Name x px) (gName i)) (g2 : PG X (.Name y py) (gName j)) (g3 : PG X (.Name z pz) (gName l)) (ha : PE X a (rdE c fa)) (hb : PE X b (rdE c fb)) (hd : PE X d (rdE c fd))
    (e1 : (assignEach [.Name x px, .Name y py, .Name z pz] X.env).map (·.2) = assign (.Name x px) X.env :: (assignEach [.Name y py, .Name z pz] X.env).map (·.2) := by rfl) (e2 : (assignEach [.Name y py, .Name z pz] X.env).map (·.2) = assign (.Name y py) X.env :: (assignEach [.Name z pz] X.env).map (·.2) := by rfl)
    (e5 : (assignEach [.Name z pz] X.env).map (·.2) = assign (.Name z pz) X.env :: (assignEach [] X.env).map (·.2) := by rfl)
    (e3 : (assignEach [.Name x px, .Name y py, .Name z pz] X.env).length = 3 := by rfl) (e4 : (assignEach [.Name x px, .Name y py, .Name z pz] X.env).findIdx? (·.1) = none := by rfl)
    (hs : swapsWithSole [.Tuple [.Name x px, .Name y py, .Name z pz] kt pt] (.Tuple [a, b, d] k2 pt2) pos.line X.env = pure false := by rfl) (hw : swappedStores [.Tuple [.Name x px, .Name y py, .Name z pz] kt pt] (.Tuple [a, b, d] k2 pt2) X.env = pure none := by rfl)
    (h1 : (assignEach [.Tuple [.Name x px, .Name y py, .Name z pz] kt pt] X.env).map (·.2) = [assign (.Tuple [.Name x px, .Name y py, .Name z pz] kt pt) X.env] := by rfl)
    (s1 : starEach [a, b, d] X.env = (false, eval a X.env) :: starEach [b, d] X.env := by rfl) (s2 : starEach [b, d] X.env = (false, eval b X.env) :: starEach [d] X.env := by rfl) (s3 : starEach [d] X.env = (false, eval d X.env) :: starEach [] X.env := by rfl) :
    PS X (.Assign [.Tuple [.Name x px, .Name y py, .Name z pz] kt pt] (.Tuple [a, b, d] k2 pt2) pos) (rdS c (par3E i j l fa fb fd)) := by
  refine ps_imp (ps_asg (pe_tup (pa_cons ha (pa_cons hb (pa_cons hd pa_nil s3) s2) s1)) (pg_tup (n := 3) hc (pgs_cons g1 (pgs_cons g2 (pgs_cons g3 pgs_nil e5) e2) e1) e3 e4) hs hw h1) fun D σ H q => ?_
  obtain ⟨F, S, A, q⟩ := q
  refine ⟨[], F, S, A, sOut.bind q fun u S1 F1 H1 s1 q1 v A1 => ⟨_, F1, _, A1, ?_⟩⟩
  split at q1
  · rename_i y1 S2 e2
    rw [e2]
    intro H2 F2 s2 w A2
    refine ⟨_, F2, _, A2, ?_⟩
    split at q1
    · rename_i z1 S3 e3
      rw [e3]
      intro H3 F3 s3 t A3
      split at q1
      · rename_i y' S4 e4
        have eS := Sta.popG_some e4
        subst eS
        split at q1
        · rename_i x' S5 e5
          have eS := Sta.popG_some e5
          subst eS
          split at q1
          · rename_i hh
            refine ⟨by rw [sizeLine_eq]; simp, fun p np => ?_⟩
            refine ⟨p, [v, w, t], rfl, .inl (.inl upd_same), rfl, v, [w, t], rfl, w, [t], rfl, t, [], rfl, rfl, ?_⟩
            have A3 := A3.st (H' := upd H3 p (.tup [v, w, t])) fun b o e => by
              rw [upd_ne (fun z => by rw [z, np] at e; cases e)]
              exact e
            have l3 : S5.lo.length = σ.length := A3.pop.pop.pop.l
            have A4 := A3.assign (i := l) (by rw [← l3]; exact hh.2.2)
            have A5 : AbsX c F3 (((S5.put l z1).push x').push y') (σ.set l (some t)) (([] ++ [some v]) ++ [some w]) (upd H3 p (.tup [v, w, t])) := A4
            have A6 := A5.assign (i := j) (by rw [List.length_set, ← l3]; exact hh.2.1)
            have A7 : AbsX c F3 (((S5.put l z1).put j y').push x') ((σ.set l (some t)).set j (some w)) ([] ++ [some v]) (upd H3 p (.tup [v, w, t])) := A6
            have A8 := A7.assign (i := i) (by rw [List.length_set, List.length_set, ← l3]; exact hh.1)
            rw [List.set_comm _ _ (Ne.symm hjl), List.set_comm _ _ (Ne.symm hil), List.set_comm _ _ (Ne.symm hij)] at A8
            exact q1 _ F3 (s2.trans s3) _ A8
          · exact q1.elim
        · exact q1.elim
      · exact q1.elim
    · rename_i ex S3 e3
      rw [e3]
      intro cls dd H3 F3 s3 A3 r3
      split at q1
      · rename_i y' S4 e4
        have eS := Sta.popG_some e4
        subst eS
        split at q1
        · rename_i x' S5 e5
          have eS := Sta.popG_some e5
          subst eS
          exact q1 cls dd σ H3 F3 (s2.trans s3) A3.pop.pop r3
        · exact q1.elim
      · exact q1.elim
    · exact q1.elim
  · rename_i ex S2 e2
    rw [e2]
    intro cls dd H2 F2 s2 A2 r2
    split at q1
    · rename_i x' S3 e3
      have eS := Sta.popG_some e3
      subst eS
      exact q1 cls dd σ H2 F2 s2 A2.pop r2
    · exact q1.elim
  · exact q1.elim
end
end TL

end
section
set_option Elab.async false
set_option linter.all false
set_option maxRecDepth 100000
set_option autoImplicit false
set_option maxHeartbeats 400000
/-! TL27: the text of a tuple of small naturals is a right text -/
open PySem PySem.Spec PyProof.Rows L2
namespace TL
theorem sOk_app {a b : Str} (h1 : PyData.strOk a = true) (h2 : PyData.strOk b = true) : PyData.strOk (a ++ b) = true := by
  unfold PyData.strOk at h1 h2 ⊢
  show ((a.cps ++ b.cps).all fun x => decide (x < 0x110000)) = true
  rw [Array.all_append, h1, h2]
  rfl
theorem sOk_str (s : String) : PyData.strOk (Str.ofString s) = true := by
  rw [Str.ofString_eq_toList]
  unfold PyData.strOk
  rw [List.all_toArray, List.all_map, List.all_eq_true]
  intro c _
  show decide (c.toNat < 0x110000) = true
  have hv := c.valid
  refine decide_eq_true ?_
  have e : c.toNat = c.val.toNat := rfl
  rcases hv with h | ⟨_, h⟩
  · have : c.val.toNat < 0xd800 := h
    omega
  · have : c.val.toNat < 0x110000 := h
    omega
theorem sOk_join {s : Str} (hs : PyData.strOk s = true) : ∀ ts : List Str, (∀ t ∈ ts, PyData.strOk t = true) → PyData.strOk (Str.join s ts) = true
  | [], _ => sOk_str ""
  | [x], h => h x List.mem_cons_self
  | x :: y :: r, h => by
    show PyData.strOk (x ++ s ++ Str.join s (y :: r)) = true
    exact sOk_app (sOk_app (h x List.mem_cons_self) hs) (sOk_join hs (y :: r) fun t ht => h t (List.mem_cons_of_mem _ ht))
theorem shownAll_int (c : List Nat) : ∀ t ∈ PyData.shownAll ((c.map fun (n : Nat) => (n : Int)).map PyData.int), PyData.strOk t = true := by
  induction c with
  | nil => intro t ht; cases ht
  | cons n c ih =>
    intro t ht
    rw [List.map_cons, List.map_cons] at ht
    simp only [PyData.shownAll, List.mem_cons] at ht
    rcases ht with e | h
    · subst e
      simp only [PyData.shown]
      exact sOk_str _
    · exact ih t h
theorem shownI_ok (c : List Nat) : PyData.strOk (shownI (c.map fun (n : Nat) => (n : Int))) = true := by
  unfold shownI
  simp only [PyData.shown]
  unfold tupleText
  refine sOk_app (sOk_app (sOk_str "(") (sOk_join (sOk_str ", ") _ (shownAll_int c))) ?_
  split <;> exact sOk_str _
theorem log_lt {n : Nat} (h : n < 1000000) : n.log2 < 20 := by
  by_cases h0 : n = 0
  · subst h0; decide
  · exact (Nat.log2_lt h0).mpr (Nat.lt_of_lt_of_le h (by decide))
theorem weightAll_tn : ∀ c : List Nat, (∀ n ∈ c, n < 1000000) → PyData.weightAll ((c.map fun (n : Nat) => (n : Int)).map PyData.int) ≤ 30 * c.length
  | [], _ => by simp [PyData.weightAll]
  | n :: r, h => by
    have h1 := weightAll_tn r fun m hm => h m (List.mem_cons_of_mem _ hm)
    have h2 := log_lt (h n List.mem_cons_self)
    simp only [List.map_cons, PyData.weightAll, PyData.weight, List.length_cons, Int.natAbs_natCast]
    split <;> omega
theorem repr_tn {c : List Nat} (hl : c.length ≤ 1000) (hc : ∀ n ∈ c, n < 1000000) : reprTN [.tup (tn c)] = some (.sh (.str (shownI (c.map fun (n : Nat) => (n : Int))))) := by
  have h1 : (shownI (c.map fun (n : Nat) => (n : Int))).length ≤ sizeLine := by
    refine PyData.shown_fits (B := 13) (by decide) (by decide) ?_ ?_
    · simp only [PyData.leavesShort]
      have key : ∀ c : List Nat, (∀ n ∈ c, n < 1000000) → PyData.leavesShortAll 13 ((c.map fun (n : Nat) => (n : Int)).map PyData.int) = true := by
        intro c
        induction c with
        | nil => intro _; rfl
        | cons n c ih =>
          intro h
          have hn := h n List.mem_cons_self
          simp only [List.map_cons, PyData.leavesShortAll, PyData.leavesShort, Bool.and_eq_true, decide_eq_true_eq]
          refine ⟨PyData.shown_int_le ?_, ih fun m hm => h m (List.mem_cons_of_mem _ hm)⟩
          rw [Int.natAbs_natCast]
          omega
      exact key c hc
    · simp only [PyData.weight]
      have := weightAll_tn c hc
      omega
  have h2 : ((c.map fun (n : Nat) => (n : Int)).all fun i => decide (i.natAbs.log2 < 1920)) = true := by
    rw [List.all_eq_true]
    intro i hi
    obtain ⟨n, hn, rfl⟩ := List.mem_map.mp hi
    refine decide_eq_true ?_
    rw [Int.natAbs_natCast]
    have := log_lt (hc n hn)
    omega
  show (intsT (tn c)).bind _ = _
  rw [intsT_tn, Option.bind_some, if_pos ⟨h1, h2⟩]
end TL

end
section
set_option Elab.async false
set_option linter.all false
set_option maxRecDepth 100000
set_option autoImplicit false
set_option maxHeartbeats 2000000
/-! TL28: str(int), bool(int), sep.join, a text so many times, {i: j} of constants -/
open PySem PySem.Spec PyProof.Rows L2
namespace TL
section
variable {X : Cx} {c : Cfg} {e a b : Expr} {es : List Expr} {pos : Pos}
def strN : List T → Option Slot
  | [.int i] => if i.natAbs.log2 < 1920 then some (.sh (.str (toString i))) else none
  | _ => none
theorem p_strI : OpN c (fun xs H Q => ∃ i : Int, xs = [.int i] ∧ i.natAbs.log2 < 1920 ∧ Q (.str (toString i)) H) strN := by
  intro F S σ τ H xs ts z Q A hx hz k
  unfold strN at hz
  split at hz
  · split at hz
    · cases hz
      rename_i hl
      obtain ⟨v, rfl, h⟩ := hx.one
      rw [h.int]
      exact ⟨_, rfl, hl, fin_sh A k (.str _)⟩
    · cases hz
  · cases hz
def boolN : List T → Option Slot
  | [.int i] => some (.sh (.bl (i != 0)))
  | [.bl k] => some (.sh (.bl k))
  | _ => none
theorem p_boolI : OpN c (fun xs H Q => (∃ i : Int, xs = [.int i] ∧ Q (.bl (i != 0)) H) ∨ ∃ k, xs = [.bl k] ∧ Q (.bl k) H) boolN := by
  intro F S σ τ H xs ts z Q A hx hz k
  unfold boolN at hz
  split at hz
  · cases hz
    obtain ⟨v, rfl, h⟩ := hx.one
    rw [h.int]
    exact .inl ⟨_, rfl, fin_sh A k (.bl _)⟩
  · cases hz
    obtain ⟨v, rfl, h⟩ := hx.one
    rw [h.bl]
    exact .inr ⟨_, rfl, fin_sh A k (.bl _)⟩
  · cases hz
def strsT : List T → Option (List Str)
  | [] => some []
  | .str x :: ts => (strsT ts).map (x :: ·)
  | _ :: _ => none
theorem strsT_map : ∀ ns : List Str, strsT (ns.map T.str) = some ns
  | [] => rfl
  | n :: ns => by rw [List.map_cons, strsT, strsT_map ns]; rfl
theorem strsT_rep {g : Ga} {F : Hp} : ∀ {vs : List V} {ts : List T} {ys : List Str}, RepAll g F vs ts → strsT ts = some ys → vs = ys.map V.str
  | _, _, ys, .nil, h => by cases h; rfl
  | _, _, ys, .cons (t := t) (ts := ts) r q, h => by
    cases t <;> simp only [strsT] at h <;> try cases h
    obtain ⟨zs, h1, h2⟩ := Option.map_eq_some_iff.mp h
    subst h2
    cases r
    rw [List.map_cons, strsT_rep q h1]
def joinT (x : Str) : T → Option Slot
  | .lst ts => (strsT ts).bind fun ys => if (ys.map (·.length)).sum + ys.length * x.length ≤ 16777216 then some (.sh (.str (Txt.join x ys))) else none
  | _ => none
theorem de_join {x : Str} {o : Expr} {fa : OF} {apos : Pos} (ho : PE X o (tC (.str x))) (he : PE X e (rdO c fa)) (hs : starEach [e] X.env = [(false, eval e X.env)] := by rfl) (hbase : attributeBase o "join" X.env (eval o X.env) = eval o X.env := by rfl) (hline : (apos.endLine == pos.line) = true := by rfl) :
    PE X (.Call (.Attribute o "join" apos) [e] [] pos) (rdE c (op1 (joinT x) fa)) := by
  refine PE.imp (pe_join ho he hs hbase hline) fun σ H Q q => ?_
  refine ⟨⟨_, rfl⟩, ?_⟩
  refine op1_out (r := fun y H1 Q => ∃ a p, ∃ ys : List Str, V.str x = .str a ∧ [y] = [.ref p] ∧ (SqL X.K H1 p (ys.map V.str) ∨ SqT X.K H1 p (ys.map V.str)) ∧ (ys.map (·.length)).sum + ys.length * a.length ≤ 16777216 ∧ Q (.str (Txt.join a ys)) H1) ?_ q
  intro F S σ τ H x1 t z Q A hx hz k
  unfold joinT at hz
  split at hz
  · obtain ⟨ys, h1, h2⟩ := Option.bind_eq_some_iff.mp hz
    split at h2
    · cases h2
      rename_i hl
      obtain ⟨a, vs, rfl, e1, r1⟩ := hx.lst A.a.fh
      have := strsT_rep r1 h1
      subst this
      exact ⟨x, a, ys, rfl, rfl, .inl (.inl (.inl e1)), hl, fin_sh A k (.str _)⟩
    · cases h2
  · cases hz
def repS (x : Str) (k : Int) : Str := if k < 1 then Str.empty else if (k == 1 || x.length == 0) = true then x else ⟨(List.replicate k.toNat x.cps).foldl (· ++ ·) #[]⟩
def mulST : T → T → Option Slot
  | .str x, .int k => if -100 ≤ k ∧ k ≤ 100 ∧ x.length ≤ 100 then some (.sh (.str (repS x k))) else none
  | _, _ => none
theorem rep_size (x : Array Nat) : ∀ (n : Nat) (acc : Array Nat), ((List.replicate n x).foldl (· ++ ·) acc).size = acc.size + n * x.size
  | 0, acc => by simp
  | n + 1, acc => by
    rw [List.replicate_succ, List.foldl_cons, rep_size x n, Array.size_append, Nat.succ_mul]
    omega
theorem op_mulStr : OpR X (binaryOp .Mult) (fun x y H Q => ∃ (a : Str) (k : Int), x = .str a ∧ y = .int k ∧ (-100 ≤ k ∧ k ≤ 100 ∧ a.length ≤ 100) ∧ Q (.str (repS a k)) H) := by
  intro pins s σ H x y v u Q I rx ry h
  obtain ⟨a, k, rfl, rfl, ⟨h1, h2, h3⟩, q⟩ := h
  obtain ⟨t, rfl⟩ := rx
  obtain ⟨t2, rfl⟩ := ry
  have hh : a.length * k.toNat ≤ 100 * 100 := Nat.mul_le_mul h3 (by omega)
  refine PySem.P.mul_str ?_ ?_ ?_ ?_
  · rw [decide_eq_false (by omega), decide_eq_false (by omega)] <;> rfl
  · intro g1 _
    have e1 : (a.length : Int) * k ≤ 2 ^ 63 - 1 := by
      have e2 : ((a.length * k.toNat : Nat) : Int) = (a.length : Int) * k := by
        rw [Int.natCast_mul, Int.toNat_of_nonneg (by omega)]
      rw [← e2]
      omega
    have := Int.le_ediv_of_mul_le (by omega) e1
    omega
  · intro g1 _
    unfold Builtin.Str.tooLong
    rw [sizeLine_eq]
    exact decide_eq_false (by omega)
  · unfold repS at q
    split
    · rename_i g1
      rw [if_pos g1] at q
      exact ⟨Nat.zero_le _, .str _, H, I.tok _, ⟨_, rfl⟩, q⟩
    · rename_i g1
      rw [if_neg g1] at q
      split
      · rename_i g2
        rw [if_pos g2] at q
        exact ⟨.str a, H, I, ⟨t, rfl⟩, q⟩
      · rename_i g2
        rw [if_neg g2] at q
        refine ⟨?_, .str _, H, I.tok _, ⟨_, rfl⟩, q⟩
        show (((List.replicate k.toNat a.cps).foldl (· ++ ·) #[]).size) ≤ sizeLine
        rw [rep_size, sizeLine_eq]
        have : k.toNat * a.cps.size = a.length * k.toNat := Nat.mul_comm _ _
        have e : (#[] : Array Nat).size = 0 := rfl
        omega
theorem p_mulStr : Op2 c (fun x y H Q => ∃ (a : Str) (k : Int), x = .str a ∧ y = .int k ∧ (-100 ≤ k ∧ k ≤ 100 ∧ a.length ≤ 100) ∧ Q (.str (repS a k)) H) mulST := by
  intro F S σ τ H x y t u z Q A hx hy hz k
  unfold mulST at hz
  split at hz
  · split at hz
    · cases hz
      rename_i hl
      rw [hx.str, hy.int]
      exact ⟨_, _, rfl, rfl, hl, fin_sh A k (.str _)⟩
    · cases hz
  · cases hz
/-- {i: j}, both constants -/
def dic1F (i j : Int) : EF := fun S => .ok (.ow (.dic [(.int i, .int j)])) S
theorem de_dic1 {i j : Int} (ha : PE X a (tC (.int i))) (hb : PE X b (tC (.int j))) : PE X (.Dict [some a] [b] pos) (rdE c (dic1F i j)) := by
  refine PE.imp (pe_disp (pps_cons ha hb pps_nil) rfl rfl (by simp) (Nat.le_of_ble_eq_true rfl)) fun σ H Q q => ?_
  obtain ⟨τ, F, S, A, q⟩ := q
  intro p np
  refine ⟨upd_same, [(.inl i, .int j)], rfl, Nat.le_of_ble_eq_true rfl, ?_⟩
  have e : upd (upd H p (.dK [])) p (.dK (mergeK [] [(.inl i, V.int j)])) = upd H p (.dK [(.inl i, .int j)]) := by
    funext b
    unfold upd
    split <;> rfl
  rw [e]
  exact q _ F (Same.refl F) (.ref p) (A.newOw (.dic (.cons (.int _) .nil)) np)
end
end TL

end
section
set_option Elab.async false
set_option linter.all false
set_option maxRecDepth 100000
set_option autoImplicit false
set_option maxHeartbeats 2000000
/-! TL29: k in d, d[k] = v on an own dict; calls that only borrow an own list -/
open PySem PySem.Spec PyProof.Rows L2
namespace TL
def keyOf : T → Option Key
  | .int i => some (.inl i)
  | .str x => some (.inr x)
  | _ => none
theorem keyOf_T (k : Key) : keyOf (keyT k) = some k := by cases k <;> rfl
def hasK (ts : List (T × T)) (k : Key) : Bool := ts.any fun kt => decide (keyOf kt.1 = some k)
def putT (ts : List (T × T)) (k : Key) (t : T) : List (T × T) := if hasK ts k = true then ts.map (fun kt => if keyOf kt.1 = some k then (kt.1, t) else kt) else ts ++ [(keyT k, t)]
section
variable {g : Ga} {F : Hp}
theorem hasK_rep {k : Key} : ∀ {kvs : List (Key × V)} {ts : List (T × T)}, RepKV g F kvs ts → hasK ts k = kvs.any fun kv => decide (kv.1 = k)
  | _, _, .nil => rfl
  | _, _, .cons (k := k') (vs := vs) (ts := ts) r q => by
    show (decide (keyOf (keyT k') = some k) || hasK ts k) = (decide (k' = k) || _)
    rw [hasK_rep q, keyOf_T]
    congr 1
    exact decide_eq_decide.mpr ⟨fun e => Option.some.inj e, fun e => congrArg some e⟩
theorem RepKV.len : ∀ {kvs : List (Key × V)} {ts : List (T × T)}, RepKV g F kvs ts → kvs.length = ts.length
  | _, _, .nil => rfl
  | _, _, .cons r q => by rw [List.length_cons, List.length_cons, q.len]
theorem RepKV.snoc {k : Key} {v : V} {t : T} (rv : Rep g F v t) : ∀ {kvs : List (Key × V)} {ts : List (T × T)}, RepKV g F kvs ts → RepKV g F (kvs ++ [(k, v)]) (ts ++ [(keyT k, t)])
  | _, _, .nil => .cons rv .nil
  | _, _, .cons r q => .cons r (q.snoc rv)
theorem RepKV.mapK {k : Key} {v : V} {t : T} (rv : Rep g F v t) : ∀ {kvs : List (Key × V)} {ts : List (T × T)}, RepKV g F kvs ts → RepKV g F (kvs.map fun kv => if kv.1 = k then (kv.1, v) else kv) (ts.map fun kt => if keyOf kt.1 = some k then (kt.1, t) else kt)
  | _, _, .nil => .nil
  | _, _, .cons (k := k') (v := v') (t := t') r q => by
    rw [List.map_cons, List.map_cons]
    simp only [keyOf_T]
    by_cases h : k' = k
    · rw [if_pos h, if_pos (congrArg some h)]
      exact .cons rv (q.mapK rv)
    · rw [if_neg h, if_neg (fun e => h (Option.some.inj e))]
      exact .cons r (q.mapK rv)
theorem RepKV.put {k : Key} {v : V} {t : T} {kvs : List (Key × V)} {ts : List (T × T)} (r : RepKV g F kvs ts) (rv : Rep g F v t) : RepKV g F (putK kvs k v) (putT ts k t) := by
  unfold putK putT
  rw [hasK_rep r]
  split
  · exact r.mapK rv
  · exact r.snoc rv
end
section
variable {X : Cx} {c : Cfg} {a b : Expr} {fa fb : OF} {pos : Pos}
theorem keyOf_p {F H : Hp} {v : V} {t : T} {k : Key} (h : PRep c.g F H v t) (e : keyOf t = some k) : v = kV k := by
  cases t <;> simp only [keyOf] at e <;> try cases e
  · rw [h.int]; rfl
  · rw [h.str]; rfl
def inDT (neg : Bool) (t u : T) : Option Slot := match u with
  | .dic ts => (keyOf t).map fun k => .sh (.bl (if neg then !hasK ts k else hasK ts k))
  | _ => none
def rInD2 : Bool → R2
  | false => fun y x H Q => ∃ a o, x = .ref a ∧ DGet H a y o ∧ Q (.bl o.isSome) H
  | true => fun y x H Q => ∃ a o, x = .ref a ∧ DGet H a y o ∧ Q (.bl (!o.isSome)) H
theorem p_inD (neg : Bool) : Op2 c (rInD2 neg) (inDT neg) := by
  intro F S σ τ H x y t u z Q A hx hy hz k
  unfold inDT at hz
  split at hz
  · obtain ⟨ky, h1, h2⟩ := Option.map_eq_some_iff.mp hz
    subst h2
    obtain ⟨a, vs, rfl, e1, r1⟩ := hy.dic A.a.fh
    rw [hasK_rep r1, valV_any] at k
    cases neg with
    | false =>
      refine ⟨a, valV vs ky, rfl, ?_, fin_sh A k (.bl _)⟩
      rw [keyOf_p hx h1]
      exact .k e1
    | true =>
      refine ⟨a, valV vs ky, rfl, ?_, fin_sh A k (.bl _)⟩
      rw [keyOf_p hx h1]
      exact .k e1
  · cases hz
theorem de_dinT (hu : X.A.units + 10 < cLine) (ha : PE X a (rdO c fa)) (hb : PE X b (rdO c fb)) (hm : behindInMarks .In b = false := by rfl) : PE X (.Compare a [.In] [b] pos) (rdE c (op2 (inDT false) fa fb)) :=
  PE.imp (pe_cmp (pc_din (by omega) ha hb) hm) fun _ _ _ q => op2_out (p_inD false) q
theorem de_dninT (hu : X.A.units + 10 < cLine) (ha : PE X a (rdO c fa)) (hb : PE X b (rdO c fb)) (hm : behindInMarks .NotIn b = false := by rfl) : PE X (.Compare a [.NotIn] [b] pos) (rdE c (op2 (inDT true) fa fb)) :=
  PE.imp (pe_cmp (pc_dnotin (by omega) ha hb) hm) fun _ _ _ q => op2_out (p_inD true) q
theorem dt_dinT (hu : X.A.units + 10 < cLine) (ha : PE X a (rdO c fa)) (hb : PE X b (rdO c fb)) (hm : behindInMarks .In b = false := by rfl) : PT X (.Compare a [.In] [b] pos) (rdT c (tst (op2 (inDT false) fa fb))) :=
  PT.imp (pt_cmp (pc_din (by omega) ha hb) hm) fun _ _ _ q => op2_out (p_inD false) (tst_out q)
theorem dt_dninT (hu : X.A.units + 10 < cLine) (ha : PE X a (rdO c fa)) (hb : PE X b (rdO c fb)) (hm : behindInMarks .NotIn b = false := by rfl) : PT X (.Compare a [.NotIn] [b] pos) (rdT c (tst (op2 (inDT true) fa fb))) :=
  PT.imp (pt_cmp (pc_dnotin (by omega) ha hb) hm) fun _ _ _ q => op2_out (p_inD true) (tst_out q)
/-- d[k] = v on an own dict -/
def setDF (i : Nat) (fv fi : OF) : SF := fun S => (fv S).bind fun o S1 => match S1.lo[i]? with
  | some (.ow (.dic _)) => (fi S1).bind fun o' S2 => match o, o', S2.lo[i]? with
    | .val t, .val u, some (.ow (.dic ts)) => match keyOf u with
      | some k => if ts.length < sz then .ok .nx (S2.put i (.ow (.dic (putT ts k t)))) else .stuck
      | none => .stuck
    | _, _, _ => .stuck
  | _ => .stuck
theorem rep_key {F : Hp} {g : Ga} {v : V} {t : T} {k : Key} (h : Rep g F v t) (e : keyOf t = some k) : v = kV k := by
  cases t <;> simp only [keyOf] at e <;> try cases e
  · cases h; rfl
  · cases h; rfl
theorem ds_setD {i : Nat} {x : Str} {fv fi : OF} {p1 pos' : Pos} (hu : X.A.units + 10 < cLine) (ho : PE X (.Name x p1) (tVar i)) (hv : PE X b (rdO c fv)) (hi : PE X a (rdO c fi))
    (ha : ∀ v, assign (.Subscript (.Name x p1) a pos) X.env v = (do
      let ov ← holding [v] (eval (.Name x p1) X.env)
      let iv ← holding [v, ov] (eval a X.env)
      standAt pos
      holding [v, ov, iv] (setItem ov iv v)
      release [v, ov, iv] []) := by intro _; rfl)
    (hs : swapsWithSole [.Subscript (.Name x p1) a pos] b pos'.line X.env = pure false := by rfl) (hw : swappedStores [.Subscript (.Name x p1) a pos] b X.env = pure none := by rfl)
    (h1 : (assignEach [.Subscript (.Name x p1) a pos] X.env).map (·.2) = [assign (.Subscript (.Name x p1) a pos) X.env] := by rfl) : PS X (.Assign [.Subscript (.Name x p1) a pos] b pos') (rdS c (setDF i fv fi)) := by
  refine ps_imp (ps_asg hv (pg_sub ho hi (set_dict (by omega)) ha) hs hw h1) fun D σ H q => ?_
  obtain ⟨F, S, A, q⟩ := q
  refine ⟨[], F, S, A, sOut.bind q fun o S1 F1 H1 s1 q1 v A1 r1 => ?_⟩
  split at q1
  · rename_i t0 e0
    obtain ⟨o2, h1, a2, h2, ⟨u, hu, mk⟩, r2⟩ := A1.slot e0
    subst h2
    refine ⟨_, h1, [], F1, S1, A1, sOut.bind q1 fun o' S2 F2 H2 s2 q2 w A2 r2 => ?_⟩
    split at q2
    · rename_i t u0 ts e2
      split at q2
      · rename_i k e3
        split at q2
        · rename_i hlt
          obtain ⟨o3, h3, a3, h4, ⟨u', hu', mk'⟩, r3⟩ := A2.slot e2
          subst h4
          rw [h1] at h3
          cases h3
          cases mk' with
          | dic rl =>
            have hk := rep_key r2 e3
            subst hk
            refine ⟨_, _, rfl, .k hu' (by rw [rl.len, ← sz_eq]; exact hlt), q2 _ F2 (Same.refl F2) σ (A2.change e2 h1 (.dic (rl.put (r1.mono s2))))⟩
        · exact q2.elim
      · exact q2.elim
    · exact q2.elim
  · exact q1.elim
end
end TL

end
section
set_option Elab.async false
set_option linter.all false
set_option maxRecDepth 100000
set_option autoImplicit false
set_option maxHeartbeats 2000000
/-! TL30: calls that only borrow what a slot owns: the answer holds no list -/
open PySem PySem.Spec PyProof.Rows L2
namespace TL
mutual
def lf : T → Bool
  | .non => true
  | .bl _ => true
  | .int _ => true
  | .str _ => true
  | .tup ts => lfs ts
  | _ => false
def lfs : List T → Bool
  | [] => true
  | t :: ts => lf t && lfs ts
end
theorem lf_rep {g : Ga} {F F' : Hp} (h : ∀ a o xs, F a = some (.frz o (.tup xs)) → F' a = some (.frz o (.tup xs))) {v : V} {t : T} (r : Rep g F v t) : lf t = true → Rep g F' v t :=
  Rep.rec (motive_1 := fun v t _ => lf t = true → Rep g F' v t) (motive_2 := fun vs ts _ => lfs ts = true → RepAll g F' vs ts) (motive_3 := fun _ _ _ => True) (motive_4 := fun _ _ _ => True)
    (fun _ => .non) (fun b _ => .bl b) (fun i _ => .int i) (fun x _ => .str x) (fun e => by simp [lf] at e) (fun _ _ _ e => by simp [lf] at e)
    (fun e _ ih q => by
      refine .tup ?_ (ih (by simpa [lf] using q))
      rcases e with ⟨o, e1, e2⟩ | e
      · exact .inl ⟨o, h _ _ _ e1, e2⟩
      · exact .inr e)
    (fun _ _ _ e => by simp [lf] at e) (fun _ _ _ e => by simp [lf] at e) (fun _ _ _ e => by simp [lf] at e) (fun _ _ _ _ e => by simp [lf] at e) (fun _ e => by simp [lf] at e)
    (fun _ => .nil) (fun _ _ a b q => by
      rw [lfs, Bool.and_eq_true] at q
      exact .cons (a q.1) (b q.2)) trivial (fun _ _ _ _ => trivial) trivial (fun _ _ _ _ => trivial) r
def callBF (np : Nat) (fn : Fn) (a : AF) : EF := fun S => (a S).bind fun os S1 => match gets S1 os with
  | some ts => if ts.length = np then match fn ts S1.nb with
    | .ok (.sh t) n => if lf t = true then .ok (.sh t) { S1 with nb := n } else .stuck
    | _ => .stuck
    else .stuck
  | none => .stuck
section
variable {X : Cx} {c : Cfg}
def Own (S : Sta) (σ : List (Option V)) (b : Addr) : Prop := ∃ (i : Nat) (t : T), S.lo[i]? = some (.ow t) ∧ σ[i]? = some (some (.ref b))
open Classical in
noncomputable def lent (F H : Hp) (B : Addr → Prop) : Hp := fun b => if B b then H b else F b
open Classical in
noncomputable def kept (F : Hp) (B : Addr → Prop) : Hp := fun b => if B b then none else F b
theorem own_at {F H : Hp} {S : Sta} {σ τ : List (Option V)} {b : Addr} (A : AbsX c F S σ τ H) (o : Own S σ b) : (∃ u t, H b = some u ∧ Mk c.g F u t) ∧ F b = none ∧ b ≠ c.g.nb := by
  obtain ⟨i, t, h1, h2⟩ := o
  obtain ⟨o, e1, a, e2, ⟨u, hu, mk⟩, f, _, nn⟩ := A.slot h1
  rw [e2] at e1
  rw [h2] at e1
  cases e1
  exact ⟨⟨u, t, hu, mk⟩, f, nn⟩
theorem gets_rep {F H : Hp} {S : Sta} {σ τ : List (Option V)} (A : AbsX c F S σ τ H) {F' : Hp} (s : Same F F') (hB : ∀ b u, Own S σ b → H b = some u → F' b = some u) : ∀ {os : List Opd} {vs : List V} {ts : List T}, OpdAll c.g F σ os vs → gets S os = some ts → RepAll c.g F' vs ts
  | _, _, _, .nil, e => by cases e; exact .nil
  | o :: os, _, _, .cons (v := v) (vs := vs) a b, e => by
    obtain ⟨t, h1, h2⟩ := Option.bind_eq_some_iff.mp e
    obtain ⟨us, h3, h4⟩ := Option.map_eq_some_iff.mp h2
    subst h4
    refine .cons ?_ (gets_rep A s hB b h3)
    cases o with
    | val t' =>
      cases h1
      exact Rep.mono s a
    | pl i =>
      obtain ⟨x, h5, h6⟩ := Option.bind_eq_some_iff.mp (show (S.lo[i]?).bind Slot.tree = some t from h1)
      have a : σ[i]? = some (some v) := a
      obtain ⟨o2, e1, r⟩ := A.slot h5
      rw [a] at e1
      cases e1
      cases x with
      | no => cases h6
      | fu => cases h6
      | sh t2 =>
        cases h6
        obtain ⟨w, e2, r2⟩ := r
        cases e2
        exact r2.mono s
      | ow t2 =>
        cases h6
        obtain ⟨b2, e2, ⟨u, hu, mk⟩, _⟩ := r
        cases e2
        exact (mk.mono s).rep (hB b2 u ⟨i, _, h5, a⟩ hu)
theorem callBOut {np : Nat} {fn : Fn} {fa : AF} {σ : L2.St} {H : Hp} {Q : VK} (q : rdE c (callBF np fn fa) σ H Q) : tCallS (spT c.g np fn) c.E (rdA c fa) σ H Q := by
  obtain ⟨τ, F, S, A, q⟩ := q
  refine ⟨τ, F, S, A, rOut.bind q fun os S1 F1 H1 s1 q1 vs A1 r1 => ?_⟩
  split at q1
  · rename_i ts e1
    split at q1
    · rename_i hl
      have ow := fun b (h : Own S1 σ b) => own_at A1 h
      obtain ⟨c0, n1, n2⟩ := A1.a.nib
      have nc0 : ¬ Own S1 σ c0 := fun h => by
        have := (ow c0 h).2.1
        rw [this] at n2
        cases n2
      have lo : ∀ b, Own S1 σ b → lent F1 H1 (Own S1 σ) b = H1 b := fun b h => by unfold lent; rw [if_pos h]
      have ln : ∀ b, ¬ Own S1 σ b → lent F1 H1 (Own S1 σ) b = F1 b := fun b h => by unfold lent; rw [if_neg h]
      have sF : Same F1 (lent F1 H1 (Own S1 σ)) := fun b u e => by
        rw [ln b (fun h => by have := (ow b h).2.1; rw [this] at e; cases e)]
        exact e
      have sH : Same (lent F1 H1 (Own S1 σ)) H1 := fun b u e => by
        by_cases h : Own S1 σ b
        · rw [lo b h] at e; exact e
        · rw [ln b h] at e; exact A1.a.fh b u e
      have hnb : ¬ Own S1 σ c.g.nb := fun h => (ow _ h).2.2 rfl
      refine ⟨lent F1 H1 (Own S1 σ), ts, S1.nb, hl, gets_rep A1 sF (fun b u h e => by rw [lo b h]; exact e) r1 e1, sH, by rw [ln _ hnb]; exact A1.a.fn, ⟨c0, n1, sF _ _ n2⟩, A1.a.ext.tabs, fun b u e => ?_, ?_⟩
      · by_cases h : Own S1 σ b
        · rw [lo b h] at e
          obtain ⟨⟨u2, t2, hu, mk⟩, _⟩ := ow b h
          rw [hu] at e
          cases e
          exact mk.noT
        · rw [ln b h] at e
          exact A1.a.ext.nt b u e
      cases e2 : fn ts S1.nb with
      | ok x n =>
        rw [e2] at q1
        cases x with
        | no => exact q1.elim
        | fu => exact q1.elim
        | ow t => exact q1.elim
        | sh t =>
          dsimp only at q1
          split at q1
          · rename_i hlf
            intro nf v F' H' p r
            have ko : ∀ b, Own S1 σ b → kept F' (Own S1 σ) b = none := fun b h => by unfold kept; rw [if_pos h]
            have kn : ∀ b, ¬ Own S1 σ b → kept F' (Own S1 σ) b = F' b := fun b h => by unfold kept; rw [if_neg h]
            have sK : Same (kept F' (Own S1 σ)) F' := fun b u e => by
              by_cases h : Own S1 σ b
              · rw [ko b h] at e; cases e
              · rw [kn b h] at e; exact e
            have s2 : Same F1 (kept F' (Own S1 σ)) := fun b u e => by
              rw [kn b (fun h => by have := (ow b h).2.1; rw [this] at e; cases e)]
              exact p.sF b u (sF b u e)
            have p2 : Post c.g F1 H1 (kept F' (Own S1 σ)) H' n := by
              refine ⟨s2, fun b u e => p.fh b u (sK b u e), ?_, ?_, p.keep, p.tabs, fun b u e1 e2 e3 => ?_, fun b u e => p.nt b u (sK b u e), p.cel⟩
              · rw [kn _ hnb]; exact p.fn
              · obtain ⟨c1, m1, m2⟩ := p.nib
                obtain ⟨x', y', m3⟩ := p.cel _ _ _ n1
                rw [m3] at m1
                cases m1
                exact ⟨c0, m3, by rw [kn c0 nc0]; exact m2⟩
              · by_cases h : Own S1 σ b
                · exact ko b h
                · rw [kn b h]
                  exact p.fre b u e1 e2 (by rw [ln b h]; exact e3)
            obtain ⟨w, ew, rw1⟩ := r
            cases ew
            have r2 : Rep c.g (kept F' (Own S1 σ)) v t := lf_rep (fun b o xs e => by
              rw [kn b (fun h => by
                obtain ⟨⟨u2, t2, hu, mk⟩, _⟩ := ow b h
                have := p.sF b u2 (by rw [lo b h]; exact hu)
                rw [e] at this
                cases this
                cases mk)]
              exact e) rw1 hlf
            exact q1 H' _ s2 v (p2.res A1 nf ⟨v, rfl, r2⟩)
          · exact q1.elim
      | exc e n => rw [e2] at q1; exact q1.elim
      | stuck => rw [e2] at q1; exact q1.elim
    · exact q1.elim
  · exact q1.elim
end
section
variable {X : Cx} {c : Cfg} {k : Nat} {f : Addr} {fd : FuncData} {ps : List Str} {fn : Fn} {x : Str} {p pos : Pos} {e : Expr} {es : List Expr}
theorem de_callBo {fa : AF} (F : FnOk X.prog X.w X.K X.mg X.base (L2.CX X.prog X.w) k f fd ps (spT c.g ps.length fn)) (hr : Room k X.A) (hg : Gl X x) (hm : X.mg x = some (.ref f)) (hk : PySem.W.keepIn X.K (.ref f) = true) (hb : Binds X.K fd ps []) (hx : ∀ σ, PassesAt (L2.CX X.prog X.w) X σ (c.E σ))
    (ha : PA X (e :: es) (rdA c fa)) (hdb : (x == ("__debug__" : Str)) = false := by decide) (he : starEach (e :: es) X.env = (false, eval e X.env) :: starEach es X.env := by rfl) (hpl : (backTo pos (starEach es X.env)).any (·.1) = false := by rfl) :
    PE X (.Call (.Name x p) (e :: es) [] pos) (rdE c (callBF ps.length fn fa)) :=
  PE.imp (pe_callS F hr hg hm hk hb hx ha hdb he hpl) fun _ _ _ q => callBOut q
end
end TL

end
section
set_option Elab.async false
set_option linter.all false
set_option maxRecDepth 100000
set_option autoImplicit false
set_option maxHeartbeats 400000
/-! TL31: the runner for dicts and borrowing calls -/
open PySem PySem.Spec PyProof.Rows L2
namespace TL
def gFRB (S1 : Sta) (o : FR) : R Slot := match o with
  | .ok (.sh t) n => if lf t = true then .ok (.sh t) { S1 with nb := n } else .stuck
  | _ => .stuck
def gCallB (np : Nat) (fn : Fn) (o : Option (List T)) (S1 : Sta) : R Slot := match o with
  | some ts => if ts.length = np then gFRB S1 (fn ts S1.nb) else .stuck
  | none => .stuck
def kCallB (np : Nat) (fn : Fn) : List Opd → Sta → R Slot := fun os S1 => gCallB np fn (gets S1 os) S1
section
variable (S : Sta) (i np : Nat) (a : OF) (r : AF) (fn : Fn) (t u : T) (z : Slot) (ts : List T) (kts : List (T × T)) (os : List Opd) (l gh : List Slot) (nb nb' : Nib)
theorem w_callBF : callBF np fn r S = (r S).bind (kCallB np fn) := rfl
theorem kCallB_ap : kCallB np fn os S = gCallB np fn (gets S os) S := rfl
theorem gCallB_ap (h : ts.length = np) : gCallB np fn (some ts) ⟨l, gh, nb⟩ = gFRB ⟨l, gh, nb⟩ (fn ts nb) := if_pos h
theorem gFRB_ok (h : lf t = true) : gFRB ⟨l, gh, nb⟩ (.ok (.sh t) nb') = .ok (.sh t) ⟨l, gh, nb'⟩ := if_pos h
theorem lf_int (j : Int) : lf (.int j) = true := by simp [lf]
theorem lf_bl (b : Bool) : lf (.bl b) = true := by simp [lf]
theorem lf_non : lf .non = true := by simp [lf]
theorem lf_str (x : Str) : lf (.str x) = true := by simp [lf]
theorem lfs_tn : ∀ p : List Nat, lfs (tn p) = true
  | [] => by simp [tn, lfs]
  | a :: p => by rw [tn_cons, lfs, lf_int, lfs_tn p]; rfl
theorem lf_tn (p : List Nat) : lf (.tup (tn p)) = true := by rw [lf, lfs_tn]
theorem lfs_tr : ∀ P : List (List Nat), lfs (tr P) = true
  | [] => by simp [tr, lfs]
  | p :: P => by
    show lfs (.tup (tn p) :: tr P) = true
    rw [lfs, lf_tn, lfs_tr P]
    rfl
theorem lf_tr (P : List (List Nat)) : lf (.tup (tr P)) = true := by rw [lf, lfs_tr]
def gSetD (i : Nat) (o o' : Opd) (x : Option Slot) (S2 : Sta) : R Flow := match o, o', x with
  | .val t, .val u, some (.ow (.dic ts)) => match keyOf u with
    | some k => if ts.length < sz then .ok .nx (S2.put i (.ow (.dic (putT ts k t)))) else .stuck
    | none => .stuck
  | _, _, _ => .stuck
def kSetD2 (i : Nat) (o : Opd) : Opd → Sta → R Flow := fun o' S2 => gSetD i o o' S2.lo[i]? S2
def gSetD0 (i : Nat) (fi : OF) (o : Opd) (x : Option Slot) (S1 : Sta) : R Flow := match x with
  | some (.ow (.dic _)) => (fi S1).bind (kSetD2 i o)
  | _ => .stuck
def kSetD (i : Nat) (fi : OF) : Opd → Sta → R Flow := fun o S1 => gSetD0 i fi o S1.lo[i]? S1
theorem w_setDF (fv fi : OF) : setDF i fv fi S = (fv S).bind (kSetD i fi) := by
  unfold setDF kSetD gSetD0 kSetD2 gSetD
  rfl
theorem kSetD_ap (fi : OF) (o : Opd) : kSetD i fi o ⟨l, gh, nb⟩ = gSetD0 i fi o l[i]? ⟨l, gh, nb⟩ := rfl
theorem gSetD0_ap (fi : OF) (o : Opd) : gSetD0 i fi o (some (.ow (.dic kts))) S = (fi S).bind (kSetD2 i o) := rfl
theorem kSetD2_ap (o o' : Opd) : kSetD2 i o o' ⟨l, gh, nb⟩ = gSetD i o o' l[i]? ⟨l, gh, nb⟩ := rfl
theorem gSetD_ap (j : Int) (h : kts.length < sz) : gSetD i (.val t) (.val (.int j)) (some (.ow (.dic kts))) ⟨l, gh, nb⟩ = .ok .nx ⟨l.set i (.ow (.dic (putT kts (.inl j) t))), gh, nb⟩ := if_pos h
end
def dT (ks : List Nat) : List (T × T) := ks.map fun (k : Nat) => (T.int (k : Int), T.bl true)
theorem dT_length (ks : List Nat) : (dT ks).length = ks.length := List.length_map _
theorem hasK_dT (s : Nat) : ∀ ks : List Nat, hasK (dT ks) (.inl (s : Int)) = decide (s ∈ ks)
  | [] => by simp [dT, hasK]
  | k :: ks => by
    show (decide (keyOf (.int (k : Int)) = some (.inl (s : Int))) || hasK (dT ks) (.inl (s : Int))) = _
    rw [hasK_dT s ks, Bool.eq_iff_iff]
    simp only [Bool.or_eq_true, decide_eq_true_eq, List.mem_cons, keyOf, Option.some.injEq, Sum.inl.injEq]
    constructor
    · rintro (h | h)
      · exact .inl (by omega)
      · exact .inr h
    · rintro (h | h)
      · exact .inl (by omega)
      · exact .inr h
theorem notin_dT (s : Nat) (ks : List Nat) : inDT true (.int (s : Int)) (.dic (dT ks)) = some (.sh (.bl (!decide (s ∈ ks)))) := by
  show some (Slot.sh (T.bl (if true = true then !hasK (dT ks) (.inl (s : Int)) else hasK (dT ks) (.inl (s : Int))))) = _
  rw [if_pos rfl, hasK_dT]
theorem put_dT {s : Nat} {ks : List Nat} (h : s ∉ ks) : putT (dT ks) (.inl (s : Int)) (.bl true) = dT (ks ++ [s]) := by
  unfold putT
  rw [hasK_dT, decide_eq_false h, if_neg (by decide)]
  unfold dT
  rw [List.map_append]
  rfl
end TL

end
section
set_option Elab.async false
set_option linter.all false
set_option maxRecDepth 100000
set_option autoImplicit false
set_option maxHeartbeats 2000000
/-! TL32: t[::-1] of a tuple, of a list -/
namespace HT
open PySem PySem.Spec PyProof.Rows L2
section
variable {prog : Program} {w : World} {A : Around} {E : Value → Shared → Prop} {s : Shared}
theorem adjust_rev (n : Nat) : Builtin.Slice.sliceAdjust none none (-1) (n : Int) = ((n : Int) - 1, -1) := by
  unfold Builtin.Slice.sliceAdjust
  have h1 : (-1 : Int) < 0 := by omega
  simp only [h1, if_true]
theorem places_rev (n : Nat) : Builtin.Slice.slicePlaces ((n : Int) - 1) (-1) (-1) = n := by
  unfold Builtin.Slice.slicePlaces
  have h1 : ¬ ((-1 : Int) > 0) := by omega
  have h2 : (- -1 : Int) = 1 := by decide
  simp only [h1, h2, if_false, Int.ediv_one]
  split <;> omega
theorem fm_congr {α β : Type} {f g : α → Option β} : ∀ {l : List α}, (∀ a ∈ l, f a = g a) → l.filterMap f = l.filterMap g
  | [], _ => rfl
  | a :: l, h => by
    rw [List.filterMap_cons, List.filterMap_cons, h a List.mem_cons_self, fm_congr fun b hb => h b (List.mem_cons_of_mem _ hb)]
theorem sliceApplied_rev {sl : Addr} {vl vu vs : Value} {n : Nat} {Q : Int × Int × Nat → Shared → Prop} (hs : s.heap.IsSliceOf sl vl vu vs) (pl : IsPart vl none) (pu : IsPart vu none) (ps : IsPart vs (some (-1)))
    (h : Q ((n : Int) - 1, -1, n) s) : wpAny (model prog w) A (Builtin.Slice.sliceApplied (.ref sl) (pure (n : Int))) Q E s := by
  obtain ⟨os, hos, hcs, hds⟩ := id hs
  unfold Builtin.Slice.sliceApplied Builtin.Slice.sliceFields
  refine wpAny_bind (wpAny_bind (wpAny_field hos hds (x := vl) rfl (wpAny_bind (wpAny_field hos hds (x := vu) rfl (wpAny_bind (wpAny_field hos hds (x := vs) rfl (wpAny_pure ?_)))))))
  refine wpAny_bind (slicePart_ ps ?_)
  show wpAny _ _ (if ((-1 : Int) == 0) = true then _ else _) _ _ s
  rw [if_neg (by decide)]
  refine wpAny_bind (slicePart_ pl (wpAny_bind (slicePart_ pu (wpAny_bind (wpAny_pure ?_)))))
  show wpAny _ _ (match Builtin.Slice.sliceAdjust none none (-1) (n : Int) with | (lo, hi) => pure (lo, (-1 : Int), Builtin.Slice.slicePlaces lo hi (-1))) _ _ s
  rw [adjust_rev n]
  show wpAny _ _ (pure ((n : Int) - 1, (-1 : Int), Builtin.Slice.slicePlaces ((n : Int) - 1) (-1) (-1))) _ _ s
  rw [places_rev]
  exact wpAny_pure h
theorem pick_rev (xs : Array Value) : ((List.range xs.size).filterMap fun (k : Nat) => xs[(((xs.size : Int) - 1) + (k : Int) * (-1)).toNat]?).toArray = xs.toList.reverse.toArray := by
  congr 1
  have e : ∀ k ∈ List.range xs.size, xs[(((xs.size : Int) - 1) + (k : Int) * (-1)).toNat]? = xs.toList.reverse[k]? := fun k hk => by
    have hk := List.mem_range.mp hk
    have : (((xs.size : Int) - 1) + (k : Int) * (-1)).toNat = xs.size - 1 - k := by omega
    rw [this, List.getElem?_reverse (by rw [Array.length_toList]; exact hk), Array.length_toList, Array.getElem?_toList]
  have key : ∀ (l : List Value) (n : Nat), n = l.length → (List.range n).filterMap (fun k => l[k]?) = l := by
    intro l n hn
    subst hn
    induction l with
    | nil => rfl
    | cons a l ih =>
      rw [List.length_cons, List.range_succ_eq_map, List.filterMap_cons]
      show a :: _ = _
      rw [List.filterMap_map]
      exact congrArg (a :: ·) ih
  rw [fm_congr e]
  exact key _ _ (by rw [List.length_reverse, Array.length_toList])
theorem getItem_tuple_rev {t sl : Addr} {items : Array Value} {vl vu vs : Value} {Q : Value → Shared → Prop} (ht : IsTup s.heap t items) (hs : s.heap.IsSliceOf sl vl vu vs) (pl : IsPart vl none) (pu : IsPart vu none) (ps : IsPart vs (some (-1)))
    (h : Q (.ref s.heap.objs.size) { s with heap := s.heap.push { cls := .type "tuple", data := .seq items.toList.reverse.toArray } })
    (hsz : items.size ≤ sizeLine) : wpAny (model prog w) A (getItem (.ref t) (.ref sl)) Q E s := by
  have htake : sizeOk (.seq items.toList.reverse.toArray) := by
    show items.toList.reverse.toArray.size ≤ sizeLine
    rw [List.size_toArray, List.length_reverse, Array.length_toList]
    exact hsz
  obtain ⟨os, hos, hcs, hds⟩ := id hs
  have hTs : s.TypeIs (.ref sl) "slice" := ⟨os, hos, hcs⟩
  unfold getItem
  try with_reducible refine wpAny_holding ?_
  first | refine wpAny_bind (wpAny_pure ?_) | skip
  refine wpAny_bind (wpAny_sequenceKey ht.typeIs (by decide) ?_)
  refine wpAny_bind (wpAny_callSpecial?_slot (name := Str.ofString "__getitem__") ht.typeIs PyProof.Rows.slot_tuple_getitem
    (wpAny_call_entry PyProof.Rows.slot_tuple_getitem ht.typeIs entry_tuple_getitem ?_ (args_tuple_getitem _ _)))
  show wpAny _ _ (Builtin.Tuple.tupleItemsOf (.ref t) >>= _) _ _ s
  refine wpAny_bind (tupleItemsOf_ ht ?_)
  refine wpAny_bind (wpAny_typeOf hTs ?_)
  rw [if_pos (by decide)]
  refine wpAny_bind (sliceApplied_rev hs pl pu ps ?_)
  have hno : ¬ ((((items.size : Int) - 1) == 0 && (-1 : Int) == 1 && items.size == items.size) = true) := by
    intro q
    rw [Bool.and_eq_true, Bool.and_eq_true] at q
    exact absurd q.1.2 (by decide)
  show wpAny _ _ (if (((items.size : Int) - 1) == 0 && (-1 : Int) == 1 && items.size == items.size) = true then _ else _) _ _ s
  rw [if_neg hno, pick_rev]
  first
    | exact wpAny_bind (m := Builtin.Tuple.tupleExact _) (wpAny_newObj_type (wpAny_pure ⟨_, rfl, wpAny_pure h⟩) htake)
    | exact wpAny_bind (m := Builtin.Tuple.tupleExact _) (wpAny_newObj_type (wpAny_bind (wpAny_pure (wpAny_pure ⟨_, rfl, wpAny_pure h⟩))) htake)
    | exact wpAny_bind (wpAny_bind (m := Builtin.Tuple.tupleExact _) (wpAny_newObj_type (wpAny_pure (wpAny_pure ⟨_, rfl, wpAny_pure h⟩)) htake))
    | exact wpAny_bind (wpAny_bind (m := Builtin.Tuple.tupleExact _) (wpAny_newObj_type (wpAny_pure ⟨_, rfl, wpAny_pure h⟩) htake))
end
end HT
namespace TL
open PySem PySem.Spec PyProof.Rows L2
section
variable {X : Cx} {c : Cfg} {e : Expr} {te : TE} {fa : OF} {k : Nat} {p1 p2 p3 pos : Pos}
def tRevT (K : PySem.W.Frag) (te : TE) : TE := fun σ H Q => te σ H fun x H1 => ∃ a xs, x = .ref a ∧ SqT K H1 a xs ∧ ∀ p o, H1 p = none → o.dict = none → Q (.ref p) (upd H1 p (.frz o (.tup xs.reverse)))
theorem pe_revT (he : PE X e te) : PE X (.Subscript e (.Slice none none (some (.UnaryOp .USub (.Constant (.int 1) k p1) p2)) p3) pos) (tRevT X.K te) := by
  refine ⟨fun pins s σ H Q I h => ?_⟩
  refine Subscript_ (thn (he.run pins s σ H _ I h) fun v s1 ⟨x, H1, I1, r1, q1⟩ => ?_)
  obtain ⟨a, xs, ex, hx, q⟩ := q1
  subst ex
  cases r1
  have hst : PO X (some (.UnaryOp .USub (.Constant (.int 1) k p1) p2)) (tPart (tUn (rU fun i => .int (-i)) (tC (.int 1)))) := po_some (pe_un un_neg pe_int)
  refine wpAny_Slice (thn (po_none.run pins s1 σ H1 (fun o H2 => o = none ∧ H2 = H1) I1 ⟨rfl, rfl⟩) fun vl s2 ⟨l, H2, I2, pl, el, e2⟩ => ?_)
  subst el e2
  refine thn (po_none.run pins s2 σ H2 (fun o H3 => o = none ∧ H3 = H2) I2 ⟨rfl, rfl⟩) fun vu s3 ⟨u, H3, I3, pu, eu, e3⟩ => ?_
  subst eu e3
  refine thn (hst.run pins s3 σ H3 (fun o H4 => o = some (-1) ∧ H4 = H3) I3 ⟨1, rfl, -1, rfl, rfl, rfl⟩) fun vs s4 ⟨o, H4, I4, ps, eo, e4⟩ => ?_
  subst eo e4
  have I5 : Inv X pins σ H4 { s4 with heap := s4.heap.push { cls := .type "slice", data := .fields #[vl, vu, vs] } } := I4.kept (t' := s4.toks) fun b ob q => Heap.get?_push_of_some _ q
  obtain ⟨its, r, ht, hz⟩ := I5.tuple hx
  have hlen := r.length
  show wpAny (model X.prog X.w) X.A (subscriptTail e (.Slice none none (some (.UnaryOp .USub (.Constant (.int 1) k p1) p2)) p3) (.ref a) (.ref s4.heap.objs.size)) (EP X pins σ Q) X.xe { s4 with heap := s4.heap.push { cls := .type "slice", data := .fields #[vl, vu, vs] } }
  refine tail_any (ops := [.ref a, .ref s4.heap.objs.size]) ht.typeIs (PyProof.Rows.slot_tuple_getitem.lookup) ?_ (by with_unfolding_all rfl)
  refine HT.getItem_tuple_rev ht (Heap.IsSliceOf.new _ vl vu vs) pl pu ps ?_ (by rw [List.size_toArray]; omega)
  exact ⟨.ref _, _, I5.laid (t' := s4.toks) (o := .frz (tupObj its.reverse) (.tup xs.reverse)) (fun b ob q => Heap.get?_push_of_some _ q) (Nat.le_refl _) (frz_tup (by rw [List.length_reverse]; exact hz) r.reverse), rfl, q _ _ (I5.hok.fresh (Nat.le_refl _)) rfl⟩
/-- [::-1] of either kind -/
def revA : T → Option Slot
  | .lst ts => some (.ow (.lst ts.reverse))
  | .tup ts => some (.sh (.tup ts.reverse))
  | _ => none
theorem RepAll.rev {g : Ga} {F : Hp} : ∀ {vs : List V} {ts : List T}, RepAll g F vs ts → RepAll g F vs.reverse ts.reverse
  | _, _, .nil => .nil
  | _, _, .cons r q => by
    rw [List.reverse_cons, List.reverse_cons]
    exact q.rev.append (.cons r .nil)
theorem de_revA (hK : c.g.K = X.K) (ha : PE X e (rdO c fa)) : PE X (.Subscript e (.Slice none none (some (.UnaryOp .USub (.Constant (.int 1) k p1) p2)) p3) pos) (rdE c (op1 revA fa)) := by
  refine PE.either (pe_revL ha) (pe_revT ha) fun σ H Q q => ?_
  obtain ⟨τ, F, S, A, q⟩ := q
  cases e : fa S with
  | stuck =>
    have q : rOut c F σ τ _ (op1 revA fa S) := q
    unfold op1 at q
    rw [e] at q
    exact q.elim
  | exc ex S1 =>
    refine .inl ⟨τ, F, S, A, ?_⟩
    have q : rOut c F σ τ _ (op1 revA fa S) := q
    unfold op1 at q
    rw [e] at q ⊢
    exact q
  | ok o S1 =>
    have q : rOut c F σ τ _ (op1 revA fa S) := q
    unfold op1 at q
    rw [e, R.bind_ok] at q
    cases e1 : o.get S1 with
    | none => simp only [e1] at q; exact q.elim
    | some t =>
      simp only [e1] at q
      unfold res at q
      cases hz : revA t with
      | none => rw [hz] at q; exact q.elim
      | some z =>
        rw [hz] at q
        unfold revA at hz
        split at hz
        · cases hz
          refine .inl ⟨τ, F, S, A, ?_⟩
          rw [e]
          intro H1 F1 s1 v A1 r1
          obtain ⟨a, vs, rfl, h1, r2⟩ := (A1.opd r1 e1).lst A1.a.fh
          exact ⟨a, vs, rfl, .inl (.inl h1), fun p np => (q.mono s1) _ F1 (Same.refl F1) (.ref p) (A1.newOw (.lst r2.rev) np)⟩
        · cases hz
          refine .inr ⟨τ, F, S, A, ?_⟩
          rw [e]
          intro H1 F1 s1 v A1 r1
          obtain ⟨a, vs, rfl, h1, r2⟩ := (A1.opd r1 e1).tup A1.a.fh
          refine ⟨a, vs, rfl, hK ▸ h1, fun p o2 np hd => ?_⟩
          obtain ⟨F2, s2, A2⟩ := A1.newTup r2.rev np hd
          exact (q.mono s1) _ F2 s2 (.ref p) A2
        · cases hz
end
end TL

end
section
set_option Elab.async false
set_option linter.all false
set_option maxRecDepth 100000
set_option autoImplicit false
set_option maxHeartbeats 2000000
/-! TL33: texts: list of a text, place in a text, upper, one sign in a text, < of lists, the least of tuples of texts, {k: v} -/
namespace HT
open PySem PySem.Spec PyProof.Rows
section
variable {prog : Program} {w : World} {A : Around} {E : Value → Shared → Prop} {s : Shared}
theorem hint_str {x : Str} {t : Tok} {Q : Bool → Shared → Prop} (h : Q false s) : wpAny (model prog w) A (Builtin.List.listLengthHint (.str x t)) Q E s := by
  have hT : s.TypeIs (.str x t) "str" := typeIs_str s x t
  unfold Builtin.List.listLengthHint
  refine wpAny_bind (wpAny_specialOf hT PySem.F.slot_str_len.lookup ?_)
  generalize hid : ("str.__len__" : String) = id0
  wp_delta
  rw [show splitId id0 = some ("str", "__len__") from by subst hid; decide +kernel]
  subst hid
  refine wpAny_bind (wpAny_isInstance (T := "str") (b := true) hT (by rw [isSubtype_type]; kernel_rfl) ?_)
  refine wpAny_ite_split (fun hab => absurd hab (by decide)) (fun _ => ?_)
  refine wpAny_ite_split (fun _ => ?_) (fun hab => absurd (by decide +kernel) hab)
  refine wpAny_bind (wpAny_typeOf hT ?_)
  exact wpAny_pure h
theorem extend_str {R : Result → Shared → Prop} (hh : A.handled = none) (x : Str) (t : Tok) (S : Addr) (res : Value) (c₀ : Nat) (hS : s.heap.get? S = some { cls := .type "list", data := .seq #[] c₀ })
    (hR : ∀ h' tk acc' c', (∀ b o, b ≠ S → s.heap.get? b = some o → h'.get? b = some o) → h'.get? S = some { cls := .type "list", dict := none, data := .seq acc' c', slots := #[] } →
      ItemsOf (SignAt x) acc' x.cps.size → R (.ok (.ret res)) { s with heap := h', toks := tk }) (hn : x.cps.size ≤ sizeLine) :
    wpAny (model prog w) A.in1 (Builtin.List.listExtendWith (.ref S) (.str x t) res)
      (fun fin s' => match fin with | .done f => R (.ok f) s' | .again c' => c'.quiet = true ∧ codeAny (model prog w) A c' R s') (fun e s' => R (.error e) s') s := by
  have hSI : S ≠ s.heap.objs.size := Nat.ne_of_lt (Heap.lt_size hS)
  have hSf : S ∉ [s.heap.objs.size] := fun hm => hSI (List.mem_singleton.mp hm)
  unfold Builtin.List.listExtendWith
  refine wpAny_bind (wpAny_typeOf (T := "str") (v := .str x t) (typeIs_str s x t) ?_)
  have h1 : Builtin.List.listSameRef (.ref S) (.str x t) = false := rfl
  have h2 : (Value.type "str" == Value.type "list") = false := by decide
  have h3 : (Value.type "str" == Value.type "tuple") = false := by decide
  simp only [h1, h2, h3, Bool.or_false, Bool.false_eq_true, if_false]
  refine wpAny_bind (wpAny_pyIter_str fun o St hW hst => ?_)
  refine wpAny_bind (wpAny_holding (hint_str ?_))
  rw [if_neg (by first | decide | decide +kernel)]
  have W := hW A.in1 hh
  refine wpAny_pure ⟨plainId_quiet PySem.F.plain_extend_loop _, codeAny_extend_loopS W.toS hn _ hSf _ x.cps.size 0 _ _ _ rfl (Nat.zero_le _) hst (Heap.get?_push_of_some _ hS) (ItemsOf.nil _) fun s' acc' c' hm hS' hacc => ?_⟩
  rw [Moved.eq_with hm]
  refine hR s'.heap s'.toks acc' c' (fun b ob hb e => hm.heap b ob (fun hmem => ?_) (Heap.get?_push_of_some _ e)) hS' hacc
  rcases List.mem_cons.mp hmem with e' | hmem
  · exact hb e'
  · exact absurd (Heap.lt_size e) (by rw [List.mem_singleton.mp hmem]; exact Nat.lt_irrefl _)
theorem list_init_str {R : Result → Shared → Prop} (hh : A.handled = none) (x : Str) (t : Tok) (S : Addr) (hS : s.heap.get? S = some { cls := .type "list", data := .seq #[] })
    (hR : ∀ h' tk acc' c', (∀ b o, b ≠ S → s.heap.get? b = some o → h'.get? b = some o) → h'.get? S = some { cls := .type "list", dict := none, data := .seq acc' c', slots := #[] } →
      ItemsOf (SignAt x) acc' x.cps.size → R (.ok (.ret .none)) { s with heap := h', toks := tk }) (hn : x.cps.size ≤ sizeLine) :
    wpAny (model prog w) A.in1 (Builtin.«list.__init__» ⟨[.ref S, .str x t], []⟩)
      (fun fin s' => match fin with | .done f => R (.ok f) s' | .again c' => c'.quiet = true ∧ codeAny (model prog w) A c' R s') (fun e s' => R (.error e) s') s := by
  show wpAny _ _ (do let old ← Builtin.List.listItems (.ref S); Builtin.List.listUpdate (.ref S) (fun _ => #[]); letGo old.toList.reverse; Builtin.List.listExtendWith (.ref S) (.str x t) .none) _ _ s
  refine wpAny_bind ?_
  unfold Builtin.List.listItems
  refine wpAny_bind (wpAny_seqItems hS rfl (wpAny_pure ?_))
  show wpAny _ _ (updateSeq S (fun _ => #[]) >>= fun _ => letGo (#[] : Array Value).toList.reverse >>= fun _ => Builtin.List.listExtendWith (.ref S) (.str x t) .none) _ _ s
  refine wpAny_bind (wpAny_updateSeq hS rfl ?_)
  have hS₂ := Heap.get?_update_self (Obj.mapSeq (fun _ => (#[] : Array Value))) hS rfl
  have oth : ∀ b o, b ≠ S → s.heap.get? b = some o → (s.heap.update S (Obj.mapSeq (fun _ => (#[] : Array Value)))).get? b = some o :=
    fun b o hb e => (Heap.get?_update_other _ _ (Ne.symm hb)).trans e
  refine wpAny_bind (wpAny_letGo ?_)
  refine extend_str hh x t S .none _ hS₂ (fun h' tk acc' c' hk hS' hacc => ?_) hn
  exact hR h' tk acc' c' (fun b o hb e => hk b o hb (oth b o hb e)) hS' hacc
/-- list(s): a new list of its signs -/
theorem call_list_str {x : Str} {t : Tok} {Q : Value → Shared → Prop} (hh : A.handled = none) (hn : x.cps.size ≤ sizeLine)
    (hQ : ∀ h' tk acc' c', (∀ b o, s.heap.get? b = some o → h'.get? b = some o) →
      h'.get? s.heap.objs.size = some { cls := .type "list", dict := none, data := .seq acc' c', slots := #[] } → ItemsOf (SignAt x) acc' x.cps.size → Q (.ref s.heap.objs.size) { s with heap := h', toks := tk }) :
    wpAny (model prog w) A (call (.type "list") [.str x t]) Q E s := by
  refine callType_codes (Q₁ := fun obj s₁ => obj = .ref s.heap.objs.size ∧ s₁ = { s with heap := s.heap.push { cls := .type "list", data := .seq #[] } }) PySem.F.called_list (PySem.F.typeCall_list_1 _) PySem.F.entry_list_init
    (code_list_new _ ⟨rfl, rfl⟩) fun obj s₁ h₁ => ?_
  obtain ⟨rfl, rfl⟩ := h₁
  have hS : (s.heap.push { cls := .type "list", data := .seq #[] }).get? s.heap.objs.size = some { cls := .type "list", data := .seq #[] } := Heap.get?_push_size _ rfl
  refine ⟨⟨_, hS, rfl⟩, PySem.F.args_list_init_2 _ _, list_init_str (A := A.in1) hh x t _ hS (fun h' tk acc' c' hk hS' hacc => ?_) hn⟩
  exact ⟨rfl, hQ h' tk acc' c' (fun b o e => hk b o (Nat.ne_of_lt (Heap.lt_size e)) (Heap.get?_push_of_some _ e)) hS' hacc⟩
end
end HT
open PySem PySem.Spec PyProof.Rows L2
namespace TL
section
variable {X : Cx} {c : Cfg}
def sigS (x : Str) : List Str := x.cps.toList.map fun c => ⟨#[c]⟩
theorem call_list_s (hc : X.calm = true) : CallR X (.type "list") (fun xs H Q => ∃ z : Str, xs = [.str z] ∧ z.cps.size ≤ sizeLine ∧ ∀ l, H l = none → Q (.ref l) (upd H l (.lst ((sigS z).map V.str)))) := by
  intro pins s σ H xs us Q I r h
  obtain ⟨z, rfl, hz, q⟩ := h
  obtain ⟨u, rfl, t, rfl⟩ := vals1 r
  refine HT.call_list_str (I.ok.hd hc) hz fun h' tk acc' c' hkeep hS hacc => ?_
  have el : acc'.toList.length = acc'.size := by simp
  have len : ((sigS z).map V.str).length = z.cps.size := by unfold sigS; simp
  refine ⟨.ref s.heap.objs.size, upd H s.heap.objs.size (.lst ((sigS z).map V.str)), I.laid hkeep (Nat.le_refl _) (show ObjOk X.prog X.w _ _ _ (.lst ((sigS z).map V.str)) from ⟨?_, acc'.toList, c', ?_, ?_⟩), rfl, q _ (I.hok.fresh (Nat.le_refl _))⟩
  · rw [len]; exact hz
  · refine vals_of_at (by rw [len, el, hacc.1]) fun j x w h1 h2 => ?_
    obtain ⟨c, u, hc', rfl⟩ := hacc.2 j w (by rw [← Array.getElem?_toList]; exact h2)
    unfold sigS at h1
    rw [List.getElem?_map, List.getElem?_map, Array.getElem?_toList, hc'] at h1
    cases h1
    exact ⟨u, rfl⟩
  · rw [Array.toArray_toList]; exact hS
/-- list(text) -/
def listSN : List T → Option Slot
  | [.str x] => if x.cps.size ≤ sizeLine then some (.ow (.lst ((sigS x).map T.str))) else none
  | _ => none
theorem reps_strs {g : Ga} {F : Hp} : ∀ ys : List Str, RepAll g F (ys.map V.str) (ys.map T.str)
  | [] => .nil
  | y :: ys => .cons (.str y) (reps_strs ys)
theorem p_listS : OpN c (fun xs H Q => ∃ z : Str, xs = [.str z] ∧ z.cps.size ≤ sizeLine ∧ ∀ l, H l = none → Q (.ref l) (upd H l (.lst ((sigS z).map V.str)))) listSN := by
  intro F S σ τ H xs ts z Q A hx hz k
  unfold listSN at hz
  split at hz
  · split at hz
    · cases hz
      rename_i hl
      obtain ⟨v, rfl, h⟩ := hx.one
      rw [h.str]
      exact ⟨_, rfl, hl, fun q np => fin_ow A k (.lst (reps_strs _)) np⟩
    · cases hz
  · cases hz

/-! ### x.index(y) of texts, y in it; x.upper() -/
def rIdxS : V → List V → Hp → VK → Prop := fun x xs H Q => ∃ (a b : Str) (k : Nat), x = .str a ∧ xs = [.str b] ∧ Txt.index0 a b = some k ∧ Q (.int (k : Nat)) H
theorem mt_idxS : MtR X "str.index" rIdxS := by
  intro pins s σ H x xs v us Q I rx rs h
  obtain ⟨a, b, k, rfl, rfl, hk, q⟩ := h
  obtain ⟨t, rfl⟩ := rx
  cases rs with
  | cons r1 rs =>
    cases rs
    obtain ⟨u, rfl⟩ := r1
    cases e : Builtin.Str.occurrences a b 0 a.length 1 with
    | nil =>
      unfold Txt.index0 at hk
      rw [e] at hk
      cases hk
    | cons k' rest =>
      have e2 : k' = k := by
        unfold Txt.index0 at hk
        rw [e] at hk
        cases hk
        rfl
      subst e2
      exact PySem.SC.index e ⟨.int (k' : Nat), H, I.tok _, ⟨_, rfl⟩, q⟩
def idxS (x : Str) : T → Option Slot
  | .str y => (Txt.index0 x y).map fun k => .sh (.int (k : Nat))
  | _ => none
theorem de_idxS {x : Str} {o e : Expr} {fa : OF} {apos pos : Pos} (ho : PE X o (tC (.str x))) (he : PE X e (rdO c fa)) (hs : starEach [e] X.env = [(false, eval e X.env)] := by rfl) (hbase : attributeBase o "index" X.env (eval o X.env) = eval o X.env := by rfl) (hline : (apos.endLine == pos.line) = true := by rfl) :
    PE X (.Call (.Attribute o "index" apos) [e] [] pos) (rdE c (op1 (idxS x) fa)) := by
  refine PE.imp (pe_m1 F.slot_str_index F.type_str_index mt_idxS ho he hs hbase hline) fun σ H Q q => ?_
  refine ⟨⟨_, rfl⟩, ?_⟩
  refine op1_out (r := fun y H1 Q => rIdxS (.str x) [y] H1 Q) ?_ q
  intro F S σ τ H x1 t z Q A hx hz k
  unfold idxS at hz
  split at hz
  · obtain ⟨j, h1, h2⟩ := Option.map_eq_some_iff.mp hz
    subst h2
    rw [hx.str]
    exact ⟨x, _, j, rfl, rfl, h1, fin_sh A k (.int _)⟩
  · cases hz
def upT : T → Option Slot
  | .str x => if x.length ≤ 5592405 then some (.sh (.str (Txt.upper x))) else none
  | _ => none
theorem de_upper {o : Expr} {fa : OF} {apos pos : Pos} (ho : PE X o (rdO c fa)) (hbase : attributeBase o "upper" X.env (eval o X.env) = eval o X.env := by rfl) (hline : (apos.endLine == pos.line) = true := by rfl) :
    PE X (.Call (.Attribute o "upper" apos) [] [] pos) (rdE c (op1 upT fa)) := by
  refine PE.imp (pe_upper ho hbase hline) fun σ H Q q => ?_
  refine op1_out (r := fun y H1 Q => (∃ a, y = .str a) ∧ ∃ a, y = .str a ∧ ([] : List V) = [] ∧ a.length ≤ 5592405 ∧ Q (.str (Txt.upper a)) H1) ?_ q
  intro F S σ τ H x1 t z Q A hx hz k
  unfold upT at hz
  split at hz
  · split at hz
    · cases hz
      rename_i hl
      rw [hx.str]
      exact ⟨⟨_, rfl⟩, _, rfl, rfl, hl, fin_sh A k (.str _)⟩
    · cases hz
  · cases hz
theorem str_one {x : Str} {c : Nat} (h : x.cps.toList = [c]) : x = ⟨#[c]⟩ := by
  obtain ⟨w⟩ := x
  have e : w = #[c] := Array.toList_inj.mp h
  rw [e]
/-- a sign in a text -/
def inST : T → T → Option Slot
  | .str x, .str z => match x.cps.toList with
    | [c] => some (.sh (.bl (decide (c ∈ z.cps.toList))))
    | _ => none
  | _, _ => none
theorem p_inS : Op2 c rInS inST := by
  intro F S σ τ H x y t u z Q A hx hy hz k
  unfold inST at hz
  split at hz
  · split at hz
    · cases hz
      rename_i x' z' _ c' hc
      have e : x' = ⟨#[c']⟩ := str_one hc
      subst e
      rw [hx.str, hy.str]
      exact ⟨c', z', rfl, rfl, fin_sh A k (.bl _)⟩
    · cases hz
  · cases hz
/-! ### < of data that are alike -/
def dSome : PyData → Bool
  | .none => false
  | _ => true
def ltDT (t u : T) : Option Slot := if T.okD 60 t = true ∧ T.okD 60 u = true ∧ PySem.W.alike t.d u.d = true ∧ dSome t.d = true then some (.sh (.bl (PySem.W.dataLt t.d u.d))) else none
def rLtD (K : PySem.W.Frag) : R2 := fun x y H Q => ∃ d e, Dp K H x d ∧ Dp K H y e ∧ PySem.W.alike d e = true ∧ d ≠ .none ∧ d.depth ≤ 60 ∧ Q (.bl (PySem.W.dataLt d e)) H
theorem op_ltD (hu : X.A.units + 64 < cLine) : OpR X (compareOp .Lt) (rLtD X.K) := by
  intro pins s σ H x y v u Q I rx ry h
  obtain ⟨d, e, hd, he, al, nn, dd, q⟩ := h
  obtain ⟨as, r1⟩ := Dp.reads I d x v hd rx
  obtain ⟨bs, r2⟩ := Dp.reads I e y u he ry
  exact PySem.W.lt_data r1 r2 al nn (by have := Nat.min_le_left d.depth e.depth; omega) ⟨.bl _, H, I, rfl, q⟩
theorem p_ltD (hK : c.g.K = X.K) : Op2 c (rLtD X.K) ltDT := by
  intro F S σ τ H x y t u z Q A hx hy hz k
  unfold ltDT at hz
  split at hz
  · rename_i h
    cases hz
    exact ⟨t.d, u.d, hK ▸ hx.dp A.a.fh h.1, hK ▸ hy.dp A.a.fh h.2.1, h.2.2.1, (fun e => by have := h.2.2.2; rw [e] at this; cases this), (okD_lay t 60 h.1).2, fin_sh A k (.bl _)⟩
  · cases hz

/-! ### min(list of tuples of texts, default=d) -/
def rowS : T → Option (List Str)
  | .tup ts => strsT ts
  | _ => none
def rowsS : List T → Option (List (List Str))
  | [] => some []
  | t :: ts => (rowS t).bind fun r => (rowsS ts).map (r :: ·)
abbrev TS := PySem.W.Tup Str
def minTS (r : List Str) (rs : List (List Str)) : List Str := rs.foldl (fun a y => if PySem.W.listLt y a = true then y else a) r
def minDS : T → T → Option Slot
  | .lst ts, .tup us => match rowsS ts with
    | some [] => some (.sh (.tup us))
    | some (r :: rs) => some (.sh (.tup ((minTS r rs).map T.str)))
    | none => none
  | _, _ => none
def tpS (r : List Str) : T := .tup (r.map T.str)
theorem strsT_of : ∀ {ts : List T} {ys : List Str}, strsT ts = some ys → ts = ys.map T.str
  | [], _, h => by cases h; rfl
  | t :: ts, ys, h => by
    cases t <;> simp only [strsT] at h <;> try cases h
    obtain ⟨zs, h1, h2⟩ := Option.map_eq_some_iff.mp h
    subst h2
    rw [strsT_of h1]
    rfl
theorem rowsS_of : ∀ {ts : List T} {L : List (List Str)}, rowsS ts = some L → ts = L.map tpS
  | [], _, h => by cases h; rfl
  | t :: ts, L, h => by
    rw [rowsS] at h
    obtain ⟨r, h1, h2⟩ := Option.bind_eq_some_iff.mp h
    obtain ⟨qs, h3, h4⟩ := Option.map_eq_some_iff.mp h2
    subst h4
    have e : t = tpS r := by
      cases t <;> simp only [rowS] at h1 <;> try cases h1
      rw [strsT_of h1]
      rfl
    rw [rowsS_of h3, e]
    rfl
theorem rowsS_map : ∀ L : List (List Str), rowsS (L.map tpS) = some L
  | [] => rfl
  | r :: L => by
    rw [List.map_cons, rowsS, rowsS_map L]
    show (strsT (r.map T.str)).bind _ = _
    rw [strsT_map]
    rfl
theorem minTS_mem : ∀ (rs : List (List Str)) (r : List Str), minTS r rs ∈ r :: rs
  | [], r => List.mem_singleton.mpr rfl
  | q :: rs, r => by
    show minTS (if PySem.W.listLt q r = true then q else r) rs ∈ _
    by_cases h : PySem.W.listLt q r = true
    · rw [if_pos h]
      exact List.mem_cons_of_mem _ (minTS_mem rs q)
    · rw [if_neg h]
      rcases List.mem_cons.mp (minTS_mem rs r) with e | e
      · rw [e]; exact List.mem_cons_self
      · exact List.mem_cons_of_mem _ (List.mem_cons_of_mem _ e)
theorem rep_zipS {g : Ga} {F : Hp} : ∀ {vs : List V} {L : List (List Str)}, RepAll g F vs (L.map tpS) → (vs.zip L).map (·.1) = vs ∧ (vs.zip L).map (·.2) = L ∧ ∀ z ∈ vs.zip L, Rep g F z.1 (tpS z.2)
  | [], [], _ => ⟨rfl, rfl, fun _ h => nomatch h⟩
  | v :: vs, n :: L, h => by
    cases h with
    | cons a b =>
      obtain ⟨h1, h2, h3⟩ := rep_zipS b
      refine ⟨by rw [List.zip_cons_cons, List.map_cons, h1], by rw [List.zip_cons_cons, List.map_cons, h2], fun z hz => ?_⟩
      rw [List.zip_cons_cons] at hz
      rcases List.mem_cons.mp hz with rfl | hz
      · exact a
      · exact h3 z hz
  | [], _ :: _, h => by cases h
  | _ :: _, [], h => by cases h
theorem reps_of_strs {g : Ga} {F : Hp} : ∀ {vs : List V} {ys : List Str}, RepAll g F vs (ys.map T.str) → vs = ys.map V.str
  | [], [], _ => rfl
  | _ :: _, y :: ys, h => by
    cases h with
    | cons a b =>
      cases a
      rw [List.map_cons, reps_of_strs b]
  | [], _ :: _, h => by cases h
  | _ :: _, [], h => by cases h
def IsRowS (K : PySem.W.Frag) (H : Hp) (x : V) (r : List Str) : Prop := ∃ t, x = .ref t ∧ SqT K H t (r.map V.str)
def rMinS (K : PySem.W.Frag) : List V → List V → Hp → VK → Prop := fun vs ws H Q => ∃ (a : Addr) (zs : List (V × List Str)) (d : V), vs = [V.ref a] ∧ ws = [d] ∧ SqL K H a (zs.map (·.1)) ∧ (∀ z ∈ zs, IsRowS K H z.1 z.2) ∧ (zs = [] → Q d H) ∧ ∀ r qs, zs.map (·.2) = r :: qs → ∀ z ∈ zs, z.2 = minTS r qs → Q z.1 H
theorem reads_strs {h : Heap} : ∀ {ys : List Str} {us : List Value}, Vals (ys.map V.str) us → ReadsAll h us (ys.map PyData.str) []
  | [], _, r => by
    rw [List.map_nil] at r
    cases r
    exact .nil
  | y :: ys, _, r => by
    rw [List.map_cons] at r
    cases r with
    | cons r1 r2 =>
      obtain ⟨t, rfl⟩ := r1
      rw [List.map_cons]
      exact ReadsAll.cons (Reads.str y t) (reads_strs r2)
theorem min_tup (r : List Str) (qs : List (List Str)) : PySem.W.minOf (⟨r⟩ : TS) (qs.map PySem.W.Tup.mk) = ⟨minTS r qs⟩ := by
  unfold PySem.W.minOf minTS
  induction qs generalizing r with
  | nil => rfl
  | cons q qs ih =>
    rw [List.map_cons, List.foldl_cons, List.foldl_cons]
    have e : PySem.W.DatumOrd.lt (⟨q⟩ : TS) ⟨r⟩ = PySem.W.listLt q r := rfl
    rw [e]
    by_cases h : PySem.W.listLt q r = true
    · rw [if_pos h, if_pos h]; exact ih q
    · rw [if_neg h, if_neg h]; exact ih r
theorem run_minS {pins : List (Addr × Obj)} {s : Shared} {σ : L2.St} {H : Hp} {vs ws : List V} {us zs : List Value} {Q : VK} (hc : X.calm = true) (hu : X.A.units + 10 < cLine) (I : Inv X pins σ H s) (r : Vals vs us) (rz : Vals ws zs) (h : rMinS X.K vs ws H Q) :
    wpAny (model X.prog X.w) X.A (call (.builtin "min") us [("default", zs.headD .none)]) (EP X pins σ Q) X.xe s := by
  obtain ⟨a, ps, d, rfl, rfl, hs, hr, h0, h1⟩ := h
  obtain ⟨its, rv, hl, hz⟩ := I.list hs
  rw [Vals.ref1 r]
  cases rz with
  | cons rd rt =>
    cases rt
    rename_i dv
    have hold1 : ∀ (z : V × List Str) (u : Value), IsRowS X.K H z.1 z.2 → RelV z.1 u → PySem.W.Holds s.heap u (⟨z.2⟩ : TS) := by
      intro z u ⟨t, e, ht⟩ ru
      rw [e] at ru
      cases ru
      obtain ⟨is, ri, pi, _⟩ := I.tuple ht
      obtain ⟨o, ho, hcls, n, hd⟩ := pi
      exact ⟨[], Reads.tuple ho hcls hd (by rw [List.toList_toArray]; exact reads_strs ri)⟩
    have hold : ∀ (ps : List (V × List Str)) (its : List Value), (∀ z ∈ ps, IsRowS X.K H z.1 z.2) → Vals (ps.map (·.1)) its → PySem.W.HoldAll s.heap its (ps.map fun z => (⟨z.2⟩ : TS)) := by
      intro ps
      induction ps with
      | nil => intro its _ rv; cases rv; exact PySem.W.HoldAll.nil
      | cons z ps ih =>
        intro its hr rv
        cases rv with
        | cons r1 r2 => exact PySem.W.HoldAll.cons (hold1 z _ (hr z List.mem_cons_self) r1) (ih _ (fun y hy => hr y (List.mem_cons_of_mem _ hy)) r2)
    refine PySem.W.min_list_datum_default (α := TS) (I.ok.hd hc) hl.isList (xs := ps.map fun z => (⟨z.2⟩ : TS)) (by rw [List.toList_toArray]; exact hold ps its hr rv) ?_ (fun e h' tk k => ?_) (fun y ys i v h' tk e hv hh k => ?_)
    · show X.A.units + 1 + 1 < cLine; omega
    · exact ⟨d, H, I.kept (t' := tk) k, rd, h0 (List.map_eq_nil_iff.mp e)⟩
    · have hi : i < its.length := by
        have := (Array.getElem?_eq_some_iff.mp hv).1
        simpa using this
      have hi2 : i < ps.length := by
        have := rv.length
        rw [List.length_map] at this
        omega
      have ev : its[i] = v := by
        have := (Array.getElem?_eq_some_iff.mp hv).2
        simpa using this
      have rel : RelV (ps[i]).1 v := by
        obtain ⟨u, h3, h4⟩ := Vals.get (i := i) (x := (ps[i]).1) rv (by rw [List.getElem?_map, List.getElem?_eq_getElem hi2]; rfl)
        rw [List.getElem?_eq_getElem hi, ev] at h3
        cases h3
        exact h4
      have hm : ps[i] ∈ ps := List.getElem_mem hi2
      obtain ⟨as, ra⟩ := PySem.W.Holds.keeps k (hold1 ps[i] v (hr _ hm) rel)
      obtain ⟨bs, rb⟩ := hh
      have e2 := (Reads.unique ra _ _ rb).1
      have e3 : (⟨(ps[i]).2⟩ : TS) = PySem.W.minOf y ys := by
        have := PySem.W.Datum.eqv (⟨(ps[i]).2⟩ : TS) (PySem.W.minOf y ys)
        rw [← e2, PySem.W.Datum.eqv, decide_eq_true rfl] at this
        exact of_decide_eq_true this.symm
      cases ps with
      | nil => cases e
      | cons z0 zs0 =>
        rw [List.map_cons] at e
        injection e with e4 e5
        have e6 : ys = (zs0.map (·.2)).map PySem.W.Tup.mk := by rw [← e5, List.map_map]; rfl
        rw [← e4, e6, min_tup] at e3
        injection e3 with e3
        exact ⟨_, H, I.kept (t' := tk) k, rel, h1 _ _ rfl _ hm e3⟩

theorem pe_minS {e d : Expr} {es : List Expr} {x : Str} {p pos kp : Pos} {ta td : TE} (hc : X.calm = true) (hu : X.A.units + 10 < cLine) (hg : Gl X "min") (hm : X.mg "min" = none) (ha : PE X e ta) (hd : PE X d td)
    (he : starEach [e] X.env = (false, eval e X.env) :: starEach [] X.env := by rfl) :
    PE X (.Call (.Name "min" p) [e] [⟨some "default", d, kp⟩] pos) (fun σ H Q => ta σ H fun v H1 => td σ H1 fun w H2 => rMinS X.K [v] [w] H2 Q) := by
  refine ⟨fun pins s σ H Q I h => ?_⟩
  refine wpAny_Call_Name_kw (ld_blt (u := .builtin "min") I hg hm (by decide +kernel) ?_ (by decide))
  have hs : starEach [e] X.env = (false, eval e X.env) :: starEach [] X.env := he
  refine callWith_kw (id := "min") (kws := [⟨some "default", d, kp⟩]) (thn ((pa_cons ha pa_nil hs).run pos pins s σ H (fun vs H1 => tCons td tNil σ H1 fun ws H2 => rMinS X.K vs ws H2 Q) I h) fun us s1 ⟨vs, H1, I1, r, q⟩ => ?_) (by rw [hs]; rfl) (by rw [hs]; rfl) (by rfl) (by rfl)
  refine thn ((pk_cons (nm := some "default") (kpos := kp) hd pk_nil).run pos pins s1 σ H1 (fun ws H2 => rMinS X.K vs ws H2 Q) I1 q) fun zs s2 ⟨ws, H2, I2, rz, q2⟩ => ?_
  have q3 := run_minS hc hu I2 r rz q2
  obtain ⟨_, _, _, _, e2, _⟩ := q2
  subst e2
  cases rz with
  | cons rd rt =>
    cases rt
    exact q3
theorem de_minS {e d : Expr} {p' kp pos : Pos} {fa fd : OF} (hK : c.g.K = X.K) (hc : X.calm = true) (hu : X.A.units + 10 < cLine) (hg : Gl X "min") (hm : X.mg "min" = none) (ha : PE X e (rdO c fa)) (hd : PE X d (rdO c fd))
    (he : starEach [e] X.env = (false, eval e X.env) :: starEach [] X.env := by rfl) : PE X (.Call (.Name "min" p') [e] [⟨some "default", d, kp⟩] pos) (rdE c (op2 minDS fa fd)) := by
  refine PE.imp (pe_minS (es := []) (x := "min") hc hu hg hm ha hd he) fun σ H Q q => op2_out (r := fun v w H2 Q => rMinS X.K [v] [w] H2 Q) ?_ q
  intro F S σ τ H x y t u z Q A hx hy hz k
  unfold minDS at hz
  split at hz
  · rename_i ts us
    have hy2 : Rep c.g F y (.tup us) := by
      rcases hy with hy | ⟨a, u', e', hu', hm'⟩
      · exact hy
      · cases hm'
    obtain ⟨p, vs, rfl, h3, r⟩ := hx.lst A.a.fh
    split at hz
    · rename_i hr
      cases hz
      have e1 := rowsS_of hr
      subst e1
      cases r
      exact ⟨p, [], y, rfl, rfl, .inl (.inl h3), (fun z hz => nomatch hz), fun _ => fin_sh A k hy2, fun r qs e => by cases e⟩
    · rename_i r0 rs hr
      cases hz
      have e1 := rowsS_of hr
      subst e1
      obtain ⟨z1, z2, z3⟩ := rep_zipS r
      refine ⟨p, vs.zip (r0 :: rs), y, rfl, rfl, .inl (.inl (by rw [z1]; exact h3)), fun z hz => ?_, fun e => ?_, fun r1 qs e z hz e2 => ?_⟩
      · have := z3 z hz
        cases ez : z.1 with
        | ref t =>
          rw [ez] at this
          cases this with
          | tup hd ra =>
            refine ⟨t, rfl, ?_⟩
            rw [reps_of_strs ra] at hd
            exact hK ▸ sameSqT A.a.fh hd.sq
        | _ => rw [ez] at this; cases this
      · rw [e] at z2
        cases z2
      · rw [z2] at e
        cases e
        have := z3 z hz
        rw [e2] at this
        exact fin_sh A k this
    · cases hz
  · cases hz
/-! ### {k: v}, k a text -/
def dicV (i j : Nat) : EF := fun S => match S.lo[i]?, S.lo[j]? with
  | some (.sh (.str x)), some (.sh u) => .ok (.ow (.dic [(.str x, u)])) S
  | _, _ => .stuck
theorem de_dicV {a b : Expr} {pos : Pos} {i j : Nat} (ha : PE X a (tVar i)) (hb : PE X b (tVar j)) : PE X (.Dict [some a] [b] pos) (rdE c (dicV i j)) := by
  refine PE.imp (pe_disp (pps_cons ha hb pps_nil) rfl rfl (by simp) (Nat.le_of_ble_eq_true rfl)) fun σ H Q q => ?_
  obtain ⟨τ, F, S, A, q⟩ := q
  unfold dicV at q
  split at q
  · rename_i x u e1 e2
    obtain ⟨o1, h1, w1, g1, r1⟩ := A.slot e1
    obtain ⟨o2, h2, w2, g2, r2⟩ := A.slot e2
    subst g1
    subst g2
    cases r1
    intro p np
    refine ⟨_, h1, _, h2, upd_same, [(.inr x, w2)], rfl, Nat.le_of_ble_eq_true rfl, ?_⟩
    have e : upd (upd H p (.dK [])) p (.dK (mergeK [] [(.inr x, w2)])) = upd H p (.dK [(.inr x, w2)]) := by
      funext b
      unfold upd
      split <;> rfl
    rw [e]
    exact q _ F (Same.refl F) (.ref p) (A.newOw (.dic (.cons r2 .nil)) np)
  · exact q.elim
end
end TL

end
section
set_option Elab.async false
set_option linter.all false
set_option maxRecDepth 100000
set_option autoImplicit false
set_option maxHeartbeats 0
open PySem PySem.Spec PyProof.Rows L2 TL
namespace K35
def topS (i : Nat) : Stmt := PySem.Challenge.pw_fromsize_k35_words_turned_and_gone_round.main.body.getD i (.Pass ⟨0, 0, 0, 0⟩)
def clsS (i j : Nat) : Stmt := match topS i with
  | .ClassDef _ _ _ b _ _ _ _ _ _ _ => b.getD j (.Pass ⟨0, 0, 0, 0⟩)
  | _ => .Pass ⟨0, 0, 0, 0⟩
abbrev st_init_BadWord : Stmt := clsS 2 0
theorem sc_init_BadWord : FnScope ["self", "part"] ["self", "part"] (defScope st_init_BadWord) := ⟨rfl, rfl, rfl, by decide +kernel, rfl, by decide +kernel, by decide +kernel⟩
abbrev st_law_spool : Stmt := topS 17
abbrev N_law_spool : List Str := ["_law_script", "_law_cell"]
theorem sc_law_spool : FnScope N_law_spool ["_law_script"] (defScope st_law_spool) := ⟨rfl, rfl, rfl, by decide +kernel, rfl, by decide +kernel, by decide +kernel⟩
abbrev st_law_over : Stmt := topS 20
abbrev N_law_over : List Str := ["_law_word_here", "_law_found", "_law_sign"]
theorem sc_law_over : FnScope N_law_over ["_law_word_here"] (defScope st_law_over) := ⟨rfl, rfl, rfl, by decide +kernel, rfl, by decide +kernel, by decide +kernel⟩
abbrev st_law_rank : Stmt := topS 21
abbrev N_law_rank : List Str := ["_law_word_here", "_law_sign"]
theorem sc_law_rank : FnScope N_law_rank ["_law_word_here"] (defScope st_law_rank) := ⟨rfl, rfl, rfl, by decide +kernel, rfl, by decide +kernel, by decide +kernel⟩
abbrev st_law_least : Stmt := topS 22
abbrev N_law_least : List Str := ["_law_word_here", "_law_best", "_law_own", "_law_at", "_law_other"]
theorem sc_law_least : FnScope N_law_least ["_law_word_here"] (defScope st_law_least) := ⟨rfl, rfl, rfl, by decide +kernel, rfl, by decide +kernel, by decide +kernel⟩
abbrev st_is_letter : Stmt := topS 6
abbrev N_is_letter : List Str := ["value"]
theorem sc_is_letter : FnScope N_is_letter ["value"] (defScope st_is_letter) := ⟨rfl, rfl, rfl, by decide +kernel, rfl, by decide +kernel, by decide +kernel⟩
abbrev st_is_sign : Stmt := topS 7
abbrev N_is_sign : List Str := ["value"]
theorem sc_is_sign : FnScope N_is_sign ["value"] (defScope st_is_sign) := ⟨rfl, rfl, rfl, by decide +kernel, rfl, by decide +kernel, by decide +kernel⟩
abbrev st_is_word : Stmt := topS 8
abbrev N_is_word : List Str := ["value", "each"]
theorem sc_is_word : FnScope N_is_word ["value"] (defScope st_is_word) := ⟨rfl, rfl, rfl, by decide +kernel, rfl, by decide +kernel, by decide +kernel⟩
abbrev st_need_word : Stmt := topS 9
abbrev N_need_word : List Str := ["value", "part"]
theorem sc_need_word : FnScope N_need_word ["value", "part"] (defScope st_need_word) := ⟨rfl, rfl, rfl, by decide +kernel, rfl, by decide +kernel, by decide +kernel⟩
abbrev st_turned_sign : Stmt := topS 10
abbrev N_turned_sign : List Str := ["sign"]
theorem sc_turned_sign : FnScope N_turned_sign ["sign"] (defScope st_turned_sign) := ⟨rfl, rfl, rfl, by decide +kernel, rfl, by decide +kernel, by decide +kernel⟩
abbrev st_turned_over : Stmt := topS 11
abbrev N_turned_over : List Str := ["word", "each"]
theorem sc_turned_over : FnScope N_turned_over ["word"] (defScope st_turned_over) := ⟨rfl, rfl, rfl, by decide +kernel, rfl, by decide +kernel, by decide +kernel⟩
abbrev st_turned_word : Stmt := topS 14
abbrev N_turned_word : List Str := ["word"]
theorem sc_turned_word : FnScope N_turned_word ["word"] (defScope st_turned_word) := ⟨rfl, rfl, rfl, by decide +kernel, rfl, by decide +kernel, by decide +kernel⟩
abbrev st_begun_anew : Stmt := topS 12
abbrev N_begun_anew : List Str := ["word", "at"]
theorem sc_begun_anew : FnScope N_begun_anew ["word"] (defScope st_begun_anew) := ⟨rfl, rfl, rfl, by decide +kernel, rfl, by decide +kernel, by decide +kernel⟩
abbrev st_least_word : Stmt := topS 13
abbrev N_least_word : List Str := ["word"]
theorem sc_least_word : FnScope N_least_word ["word"] (defScope st_least_word) := ⟨rfl, rfl, rfl, by decide +kernel, rfl, by decide +kernel, by decide +kernel⟩
abbrev st_round_of : Stmt := topS 15
abbrev N_round_of : List Str := ["word"]
theorem sc_round_of : FnScope N_round_of ["word"] (defScope st_round_of) := ⟨rfl, rfl, rfl, by decide +kernel, rfl, by decide +kernel, by decide +kernel⟩
abbrev st_law_word_right : Stmt := topS 27
abbrev N_law_word_right : List Str := ["_law_word_here", "_law_over_here", "_law_least_here", "_law_held", "_law_at", "_law_sign"]
theorem sc_law_word_right : FnScope N_law_word_right ["_law_word_here"] (defScope st_law_word_right) := ⟨rfl, rfl, rfl, by decide +kernel, rfl, by decide +kernel, by decide +kernel⟩
abbrev st_law_wind : Stmt := topS 18
abbrev N_law_wind : List Str := ["_law_spool_here", "_law_many", "_law_rest", "_law_at", "_law_cell", "_law_mixed"]
theorem sc_law_wind : FnScope N_law_wind ["_law_spool_here", "_law_many"] (defScope st_law_wind) := ⟨rfl, rfl, rfl, by decide +kernel, rfl, by decide +kernel, by decide +kernel⟩
abbrev st_law_pick : Stmt := topS 19
abbrev N_law_pick : List Str := ["_law_spool_here", "_law_some"]
theorem sc_law_pick : FnScope N_law_pick ["_law_spool_here", "_law_some"] (defScope st_law_pick) := ⟨rfl, rfl, rfl, by decide +kernel, rfl, by decide +kernel, by decide +kernel⟩
abbrev st_law_word : Stmt := topS 23
abbrev N_law_word : List Str := ["_law_spool_here", "_law_letters_here", "_law_most", "_law_found", "_law_strokes", "_law_turn"]
theorem sc_law_word : FnScope N_law_word ["_law_spool_here", "_law_letters_here", "_law_most"] (defScope st_law_word) := ⟨rfl, rfl, rfl, by decide +kernel, rfl, by decide +kernel, by decide +kernel⟩
abbrev st_law_letters : Stmt := topS 24
abbrev N_law_letters : List Str := ["_law_spool_here", "_law_many", "_law_turn"]
theorem sc_law_letters : FnScope N_law_letters ["_law_spool_here", "_law_many"] (defScope st_law_letters) := ⟨rfl, rfl, rfl, by decide +kernel, rfl, by decide +kernel, by decide +kernel⟩
abbrev st_law_drawn : Stmt := topS 26
abbrev N_law_drawn : List Str := ["_law_spool_here", "_law_word_here", "_law_way"]
theorem sc_law_drawn : FnScope N_law_drawn ["_law_spool_here"] (defScope st_law_drawn) := ⟨rfl, rfl, rfl, by decide +kernel, rfl, by decide +kernel, by decide +kernel⟩
abbrev st_law_all : Stmt := topS 25
abbrev N_law_all : List Str := ["_law_letters_here", "_law_many", "_law_signs", "_law_found", "_law_turn", "_law_longer", "_law_word_here", "_law_letter", "_law_sign"]
theorem sc_law_all : FnScope N_law_all ["_law_letters_here", "_law_many"] (defScope st_law_all) := ⟨rfl, rfl, rfl, by decide +kernel, rfl, by decide +kernel, by decide +kernel⟩
abbrev st_law_refused_right : Stmt := topS 29
abbrev N_law_refused_right : List Str := ["_law_spool_here", "_law_letter", "_law_odd", "_law_value", "_law_turn", "_law_heard_here"]
theorem sc_law_refused_right : FnScope N_law_refused_right ["_law_spool_here"] (defScope st_law_refused_right) := ⟨rfl, rfl, rfl, by decide +kernel, rfl, by decide +kernel, by decide +kernel⟩
abbrev st_law : Stmt := topS 30
abbrev N_law : List Str := ["_law_script", "_law_spool_here", "_law_turn", "_law_two", "_law_word_here"]
theorem sc_law : FnScope N_law ["_law_script"] (defScope st_law) := ⟨rfl, rfl, rfl, by decide +kernel, rfl, by decide +kernel, by decide +kernel⟩
abbrev st_law_heard : Stmt := topS 28
abbrev N_law_heard : List Str := ["_law_ask", "_law_caught", "error"]
theorem sc_law_heard : FnScope N_law_heard ["_law_ask"] (defScope st_law_heard) := ⟨rfl, rfl, rfl, by decide +kernel, rfl, by decide +kernel, by decide +kernel⟩
def btN : String → Option Bool := fun n => if n = "NoneType" then some false else none
def ctch_SizeError : Nat → Option Bool
  | 1 => some true
  | _ => none
def own_BadWord : Nat → Option Bool
  | 1 => some true
  | _ => none
def okc_part : Nat → Bool
  | 1 => true
  | _ => false
def b_law_heard (ask : Nib → FR) : SF := seqF (setF 1 (con .non)) (seqF (tryF ctch_SizeError 2 (dropF (askF 0 ask)) (setF 1 (varE 2))) (retF (ite3 (tst (op2 (isT false) (var 1) (opE (con .non)))) (con .non) (ite3 (tst (op1 (isX own_BadWord btN) (var 1))) (op1 (attrT okc_part "part") (var 1)) (con (.str "other"))))))
def b_law_over_L1 : SF := setF 1 (op2 addT (opE (lstF (consA (opE (ite3 (tst (op2 eqT (opE (opN lenN (consA (var 2) (nilA)))) (opE (con (.int 2))))) (op2 ixT (var 2) (opE (con (.int 0)))) (op2 addT (var 2) (opE (con (.str "'")))))) (nilA)))) (var 1))
def b_law_over : SF := seqF (setF 1 (lstF (nilA))) (seqF (forF (seqI (opE (varE 0))) (.nm 2) (b_law_over_L1)) (retF (varR 1)))
def f_law_over : Fn := fnOf N_law_over.length b_law_over
def b_law_rank_C1 : EF := compF [1] (seqI (opE (varE 0))) (.nm 1) (yesT) (op2 subT (opE (op2 addT (opE (op2 mulT (opE (con (.int 2))) (opE (op1 (idxS "abcdefghijklmnopqrstuvwxyz") (opE (op2 ixT (var 1) (opE (con (.int 0))))))))) (opE (opN lenN (consA (var 1) (nilA)))))) (opE (con (.int 1))))
def b_law_rank : SF := retF (b_law_rank_C1)
def f_law_rank : Fn := fnOf N_law_rank.length b_law_rank
def b_law_least_L1 : SF := seqF (setF 4 (op2 addT (opE (slF slT' (var 2) (someB (var 3)) (noB))) (opE (slF slT' (var 2) (noB) (someB (var 3)))))) (setF 1 (ite3 (tst (op2 ltDT (opE (callF 1 f_law_rank (consA (opE (varE 4)) (nilA)))) (opE (callF 1 f_law_rank (consA (opE (varE 1)) (nilA)))))) (varE 4) (varE 1)))
def b_law_least_L2 : SF := forF (rngI1 (opE (opN lenN (consA (var 2) (nilA))))) (.nm 3) (b_law_least_L1)
def b_law_least : SF := seqF (setF 1 (opN listN (consA (var 0) (nilA)))) (seqF (forF (seqI (opE (tupF (consA (opE (opN listN (consA (var 0) (nilA)))) (consA (opE (callF 1 f_law_over (consA (opE (varE 0)) (nilA)))) (nilA)))))) (.nm 2) (b_law_least_L2)) (retF (opN tupleN (consA (var 1) (nilA)))))
def f_law_least : Fn := fnOf N_law_least.length b_law_least
def b_is_letter : SF := retF (andE (op1 (isN ["str"]) (var 0)) (andE (op2 eqT (opE (opN lenN (consA (var 0) (nilA)))) (opE (con (.int 1)))) (op2 inST (var 0) (opE (con (.str "abcdefghijklmnopqrstuvwxyz"))))))
def f_is_letter : Fn := fnOf N_is_letter.length b_is_letter
def b_is_sign : SF := seqF (ifF (orT (notT (tst (op1 (isN ["str"]) (var 0)))) (tst (op2 (inT true) (opE (slF slT' (var 0) (someB (opE (con (.int 1)))) (noB))) (opE (tupF (consA (opE (con (.str ""))) (consA (opE (con (.str "'"))) (nilA)))))))) (retF (con (.bl false))) (nxF)) (retF (callF 1 f_is_letter (consA (opE (slF slT' (var 0) (noB) (someB (opE (con (.int 1)))))) (nilA))))
def f_is_sign : Fn := fnOf N_is_sign.length b_is_sign
def b_is_word_C1 : EF := compF [1] (seqI (opE (varE 0))) (.nm 1) (yesT) (callF 1 f_is_sign (consA (opE (varE 1)) (nilA)))
def b_is_word : SF := retF (andE (op1 (isN ["list", "tuple"]) (var 0)) (opN allN (consA (opE (b_is_word_C1)) (nilA))))
def f_is_word : Fn := fnOf N_is_word.length b_is_word
def b_need_word : SF := ifF (notT (tst (callF 1 f_is_word (consA (opE (varE 0)) (nilA))))) (raiseF 1 ["part"] (consA (opE (varE 1)) (nilA))) (nxF)
def f_need_word : Fn := fnOf N_need_word.length b_need_word
def b_turned_sign : SF := retF (ite3 (tst (op2 eqT (opE (slF slT' (var 0) (someB (opE (con (.int 1)))) (noB))) (opE (con (.str "'"))))) (op2 ixT (var 0) (opE (con (.int 0)))) (op2 addT (var 0) (opE (con (.str "'")))))
def f_turned_sign : Fn := fnOf N_turned_sign.length b_turned_sign
def b_turned_over_C1 : EF := compF [1] (seqI (opE (op1 revA (var 0)))) (.nm 1) (yesT) (callF 1 f_turned_sign (consA (opE (varE 1)) (nilA)))
def b_turned_over : SF := retF (opN tupleN (consA (opE (b_turned_over_C1)) (nilA)))
def f_turned_over : Fn := fnOf N_turned_over.length b_turned_over
def b_turned_word : SF := seqF (dropF (callF 2 f_need_word (consA (opE (varE 0)) (consA (opE (con (.str "word"))) (nilA))))) (retF (callF 1 f_turned_over (consA (opE (varE 0)) (nilA))))
def f_turned_word : Fn := fnOf N_turned_word.length b_turned_word
def b_begun_anew_C1 : EF := compF [1] (rngI1 (opE (opN lenN (consA (var 0) (nilA))))) (.nm 1) (yesT) (op2 addT (opE (opN tupleN (consA (opE (slF slT' (var 0) (someB (var 1)) (noB))) (nilA)))) (opE (opN tupleN (consA (opE (slF slT' (var 0) (noB) (someB (var 1)))) (nilA)))))
def b_begun_anew : SF := retF (b_begun_anew_C1)
def f_begun_anew : Fn := fnOf N_begun_anew.length b_begun_anew
def b_least_word : SF := retF (op2 minDS (opE (lstF (starA (opE (callF 1 f_begun_anew (consA (opE (varE 0)) (nilA)))) (starA (opE (callF 1 f_begun_anew (consA (opE (callF 1 f_turned_over (consA (opE (varE 0)) (nilA)))) (nilA)))) (nilA))))) (opE (tupF (nilA))))
def f_least_word : Fn := fnOf N_least_word.length b_least_word
def b_round_of : SF := seqF (dropF (callF 2 f_need_word (consA (opE (varE 0)) (consA (opE (con (.str "word"))) (nilA))))) (retF (callF 1 f_least_word (consA (opE (varE 0)) (nilA))))
def f_round_of : Fn := fnOf N_round_of.length b_round_of
def b_law_word_right_L1 : SF := ifF (orT (tst (op2 neT (opE (callF 1 f_round_of (consA (opE (op2 addT (opE (slF slT' (var 0) (someB (var 4)) (noB))) (opE (slF slT' (var 0) (noB) (someB (var 4)))))) (nilA)))) (var 2))) (tst (op2 neT (opE (callF 1 f_round_of (consA (opE (op2 addT (opE (slF slT' (var 1) (someB (var 4)) (noB))) (opE (slF slT' (var 1) (noB) (someB (var 4)))))) (nilA)))) (var 2)))) (retF (con (.bl false))) (nxF)
def b_law_word_right_C2 : EF := compF [5] (seqI (opE (varE 0))) (.nm 5) (tst (op2 eqT (opE (opN lenN (consA (var 5) (nilA)))) (opE (con (.int 2))))) (varE 5)
def b_law_word_right_C3 : EF := compF [5] (seqI (opE (varE 2))) (.nm 5) (tst (op2 eqT (opE (opN lenN (consA (var 5) (nilA)))) (opE (con (.int 2))))) (varE 5)
def b_law_word_right : SF := seqF (par3E 1 2 3 (opN tupleN (consA (opE (callF 1 f_law_over (consA (opE (varE 0)) (nilA)))) (nilA))) (callF 1 f_law_least (consA (opE (varE 0)) (nilA))) (opN listN (consA (var 0) (nilA)))) (seqF (ifF (orT (tst (op2 (isT true) (opE (callF 1 f_is_word (consA (opE (varE 0)) (nilA)))) (opE (con (.bl true))))) (orT (tst (op2 (isT true) (opE (callKF 1 1 [0] f_is_word nilA (consA (opE (opN tupleN (consA (var 0) (nilA)))) (nilA)))) (opE (con (.bl true))))) (orT (tst (op2 neT (opE (callF 1 f_turned_word (consA (opE (varE 0)) (nilA)))) (var 1))) (tst (op2 neT (opE (callKF 1 1 [0] f_turned_word nilA (consA (opE (varE 1)) (nilA)))) (opE (opN tupleN (consA (var 0) (nilA))))))))) (retF (con (.bl false))) (nxF)) (seqF (ifF (orT (tst (op2 neT (opE (callF 1 f_round_of (consA (opE (varE 0)) (nilA)))) (var 2))) (orT (tst (op2 neT (opE (callKF 1 1 [0] f_round_of nilA (consA (opE (varE 1)) (nilA)))) (var 2))) (orT (tst (op2 neT (opE (callF 1 f_round_of (consA (opE (varE 2)) (nilA)))) (var 2))) (tst (op2 neT (opE (callF 1 f_turned_word (consA (opE (opN listN (consA (var 1) (nilA)))) (nilA)))) (opE (opN tupleN (consA (var 3) (nilA))))))))) (retF (con (.bl false))) (nxF)) (seqF (forF (rngI1 (opE (opN lenN (consA (var 0) (nilA))))) (.nm 4) (b_law_word_right_L1)) (seqF (ifF (orT (tst (op2 neT (var 0) (var 3))) (orT (notT (tst (op1 (isN ["tuple"]) (opE (callF 1 f_round_of (consA (opE (varE 0)) (nilA))))))) (notT (tst (op1 (isN ["tuple"]) (opE (callF 1 f_turned_word (consA (opE (varE 0)) (nilA))))))))) (retF (con (.bl false))) (nxF)) (seqF (ifF (andT (tst (op2 eqT (opE (b_law_word_right_C2)) (opE (lstF (nilA))))) (tst (op2 neT (opE (b_law_word_right_C3)) (opE (lstF (nilA)))))) (retF (con (.bl false))) (nxF)) (retF (orE (op2 eqT (var 2) (opE (tupF (nilA)))) (op2 eqT (opE (opN lenN (consA (opE (op2 ixT (var 2) (opE (con (.int 0))))) (nilA)))) (opE (con (.int 1)))))))))))
def f_law_word_right : Fn := fnOf N_law_word_right.length b_law_word_right
def b_law_wind : SF := seqF (ifF (tst (op2 gtA (opE (nibGet 0 2)) (opE (con (.int 0))))) (seqF (setF 2 (nibGet 0 2)) (seqF (nibSet 0 2 (opE (op2 fdivT (opE (opN intN (consA (var 2) (nilA)))) (var 1)))) (retF (op2 modT (opE (opN intN (consA (var 2) (nilA)))) (var 1))))) (nxF)) (seqF (setF 3 (nibGet 0 1)) (seqF (nibSet 0 1 (opE (op2 addT (var 3) (opE (con (.int 1)))))) (seqF (setF 4 (op2 addT (opE (op2 mulT (opE (con (.int 60101))) (var 3))) (opE (con (.int 2203))))) (seqF (ifF (tst (op2 neT (opE (nibGet 0 0)) (opE (lstF (nilA))))) (setF 4 (op2 ixT (opE (nibGet 0 0)) (opE (op2 modT (opE (opN intN (consA (var 3) (nilA)))) (opE (opN lenN (consA (opE (nibGet 0 0)) (nilA)))))))) (nxF)) (seqF (ifF (andT (tst (op2 ltA (var 3) (opE (opN lenN (consA (opE (nibGet 0 0)) (nilA)))))) (tst (op2 geT (opE (opN absN (consA (var 4) (nilA)))) (opE (op2 powT (opE (con (.int 10))) (opE (con (.int 18)))))))) (seqF (setF 2 (op2 addT (opE (op2 mulT (opE (con (.int 2))) (opE (op2 subT (opE (opN absN (consA (var 4) (nilA)))) (opE (op2 powT (opE (con (.int 10))) (opE (con (.int 18))))))))) (opE (opN intN (consA (opE (op2 ltA (var 4) (opE (con (.int 0))))) (nilA)))))) (seqF (nibSet 0 2 (opE (op2 fdivT (opE (opN intN (consA (var 2) (nilA)))) (var 1)))) (retF (op2 modT (opE (opN intN (consA (var 2) (nilA)))) (var 1))))) (nxF)) (seqF (setF 5 (op2 modT (opE (opN intN (consA (opE (op2 powT (opE (op2 addT (opE (op2 addT (opE (op2 modT (opE (opN intN (consA (var 4) (nilA)))) (opE (con (.int 2147483629))))) (opE (op2 mulT (opE (con (.int 71233))) (var 3))))) (opE (con (.int 2203))))) (opE (con (.int 5))))) (nilA)))) (opE (con (.int 2147483587))))) (seqF (setF 5 (op2 modT (opE (opN intN (consA (opE (op2 powT (opE (op2 addT (opE (op2 addT (opE (op2 mulT (var 5) (opE (op2 addT (opE (op2 mulT (opE (con (.int 2))) (var 3))) (opE (con (.int 1907))))))) (opE (op2 mulT (opE (op2 mulT (opE (con (.int 60101))) (var 3))) (var 3))))) (opE (con (.int 61403))))) (opE (con (.int 3))))) (nilA)))) (opE (con (.int 2147483563))))) (retF (op2 modT (opE (opN intN (consA (opE (op2 fdivT (var 5) (opE (con (.int 64))))) (nilA)))) (var 1))))))))))
def f_law_wind : Fn := fnOf N_law_wind.length b_law_wind
def b_law_pick : SF := retF (op2 ixT (var 1) (opE (callF 2 f_law_wind (consA (opE (varE 0)) (consA (opE (opN lenN (consA (var 1) (nilA)))) (nilA))))))
def f_law_pick : Fn := fnOf N_law_pick.length b_law_pick
def b_law_word_L1 : SF := dropF (methF 3 apP (consA (opE (op2 addT (opE (callF 2 f_law_pick (consA (opE (varE 0)) (consA (opE (varE 1)) (nilA))))) (opE (ite3 (tst (op2 ltA (opE (callF 2 f_law_wind (consA (opE (varE 0)) (consA (opE (con (.int 4))) (nilA))))) (var 4))) (con (.str "'")) (con (.str "")))))) (nilA)))
def b_law_word : SF := seqF (parF 3 4 (lstF (nilA)) (callF 2 f_law_pick (consA (opE (varE 0)) (consA (opE (lstF (consA (opE (con (.int 0))) (consA (opE (con (.int 1))) (consA (opE (con (.int 2))) (consA (opE (con (.int 1))) (nilA))))))) (nilA))))) (seqF (forF (rngI1 (opE (callF 2 f_law_wind (consA (opE (varE 0)) (consA (opE (op2 addT (var 2) (opE (con (.int 1))))) (nilA)))))) (.nm 5) (b_law_word_L1)) (retF (varR 3)))
def f_law_word : Fn := fnOf N_law_word.length b_law_word
def b_law_letters_C1 : EF := compF [2] (rngI1 (opE (varE 1))) (.nm 2) (yesT) (callF 2 f_law_pick (consA (opE (varE 0)) (consA (opE (opN listSN (consA (opE (con (.str "abcdefghijklmnopqrstuvwxyz"))) (nilA)))) (nilA))))
def b_law_letters : SF := retF (b_law_letters_C1)
def f_law_letters : Fn := fnOf N_law_letters.length b_law_letters
def b_law_drawn : SF := seqF (setF 1 (callF 3 f_law_word (consA (opE (varE 0)) (consA (opE (callF 2 f_law_letters (consA (opE (varE 0)) (consA (opE (op2 addT (opE (con (.int 1))) (opE (callF 2 f_law_wind (consA (opE (varE 0)) (consA (opE (con (.int 4))) (nilA))))))) (nilA))))) (consA (opE (callF 2 f_law_pick (consA (opE (varE 0)) (consA (opE (lstF (consA (opE (con (.int 4))) (consA (opE (con (.int 9))) (consA (opE (con (.int 2))) (consA (opE (con (.int 6))) (consA (opE (con (.int 1))) (nilA)))))))) (nilA))))) (nilA)))))) (seqF (setF 2 (callF 2 f_law_wind (consA (opE (varE 0)) (consA (opE (con (.int 5))) (nilA))))) (seqF (ifF (tst (op2 eqT (var 2) (opE (con (.int 0))))) (retF (op2 addT (opE (op2 addT (var 1) (var 1))) (opE (ite3 (tst (op2 ltA (opE (opN lenN (consA (var 1) (nilA)))) (opE (con (.int 4))))) (varE 1) (lstF (nilA)))))) (nxF)) (retF (ite3 (tst (op2 eqT (var 2) (opE (con (.int 1))))) (op2 addT (var 1) (opE (callF 1 f_law_over (consA (opE (varE 1)) (nilA))))) (varE 1)))))
def f_law_drawn : Fn := fnOf N_law_drawn.length b_law_drawn
def b_law_all_C1 : EF := compF [7] (seqI (opE (varE 0))) (.nm 7) (yesT) (op2 addT (var 7) (opE (con (.str "'"))))
def b_law_all_C2 : EF := compF [8] (seqI (opE (varE 2))) (.nm 8) (yesT) (op2 addT (var 6) (opE (lstF (consA (opE (varE 8)) (nilA)))))
def b_law_all_L3 : SF := dropF (methF 5 exP (consA (opE (b_law_all_C2)) (nilA)))
def b_law_all_L4 : SF := seqF (setF 5 (lstF (nilA))) (seqF (forF (seqI (opE (varE 3))) (.nm 6) (b_law_all_L3)) (setF 3 (varE 5)))
def b_law_all : SF := seqF (parF 2 3 (op2 addT (var 0) (opE (b_law_all_C1))) (lstF (consA (opE (lstF (nilA))) (nilA)))) (seqF (forF (rngI1 (opE (varE 1))) (.nm 4) (b_law_all_L4)) (retF (varR 3)))
def f_law_all : Fn := fnOf N_law_all.length b_law_all
def b_law_refused_right_C1 : EF := compF [4] (rngI1 (opE (con (.int 5)))) (.nm 4) (yesT) (callF 2 f_law_pick (consA (opE (varE 0)) (consA (opE (varE 2)) (nilA))))
def b_law_refused_right_X2 : EF := callF 1 f_turned_word (consA (opE (varE 3)) (nilA))
def b_law_refused_right_X3 : EF := callF 1 f_round_of (consA (opE (varE 3)) (nilA))
def b_law_refused_right_C4 : EF := compF [5] (seqI (opE (lstF (consA (opE (lamF [3] (b_law_refused_right_X3) (hFn N_law_heard.length b_law_heard))) (nilA))))) (.nm 5) (tst (op2 neT (var 5) (opE (con (.str "word"))))) (con (.int 1))
def b_law_refused_right_L5 : SF := seqF (ifF (orT (tst (op2 (isT true) (opE (callF 1 f_is_word (consA (opE (varE 3)) (nilA)))) (opE (con (.bl false))))) (tst (op2 neT (opE (lamF [3] (b_law_refused_right_X2) (hFn N_law_heard.length b_law_heard))) (opE (con (.str "word")))))) (retF (con (.bl false))) (nxF)) (ifF (tst (op2 neT (opE (b_law_refused_right_C4)) (opE (lstF (nilA))))) (retF (con (.bl false))) (nxF))
def b_law_refused_right : SF := seqF (setF 1 (callF 2 f_law_pick (consA (opE (varE 0)) (consA (opE (opN listSN (consA (opE (con (.str "abcdefghijklmnopqrstuvwxyz"))) (nilA)))) (nilA))))) (seqF (setF 2 (lstF (consA (opE (varE 1)) (consA (opE (op2 addT (var 1) (var 1))) (consA (opE (con .non)) (consA (opE (con (.int 5))) (consA (opE (con (.bl true))) (consA (opE (dicF)) (consA (opE (dicV 1 1)) (consA (opE (lstF (consA (opE (op1 upT (var 1))) (nilA)))) (consA (opE (lstF (consA (opE (op2 addT (var 1) (opE (con (.str "''"))))) (nilA)))) (consA (opE (lstF (consA (opE (op2 addT (opE (con (.str "'"))) (var 1))) (nilA)))) (consA (opE (lstF (consA (opE (con (.str ""))) (nilA)))) (consA (opE (lstF (consA (opE (con (.str "'"))) (nilA)))) (consA (opE (lstF (consA (opE (op2 addT (var 1) (var 1))) (nilA)))) (nilA)))))))))))))))) (seqF (setF 2 (op2 addT (var 2) (opE (lstF (consA (opE (lstF (consA (opE (con (.int 1))) (nilA)))) (consA (opE (lstF (consA (opE (con .non)) (nilA)))) (consA (opE (lstF (consA (opE (varE 1)) (consA (opE (lstF (consA (opE (varE 1)) (nilA)))) (nilA))))) (consA (opE (lstF (consA (opE (op2 addT (var 1) (opE (con (.str " "))))) (nilA)))) (consA (opE (lstF (consA (opE (con (.str "1"))) (nilA)))) (consA (opE (lstF (consA (opE (varE 1)) (consA (opE (op2 addT (var 1) (opE (con (.str "1"))))) (nilA))))) (consA (opE (lstF (consA (opE (varE 1)) (consA (opE (con (.bl true))) (nilA))))) (consA (opE (con (.str ""))) (consA (opE (lstF (consA (opE (varE 1)) (consA (opE (con (.str "-"))) (nilA))))) (consA (opE (lstF (consA (opE (con (.str " "))) (nilA)))) (consA (opE (lstF (consA (opE (con (.str "_"))) (nilA)))) (consA (opE (lstF (consA (opE (op2 addT (var 1) (opE (con (.str "\n"))))) (nilA)))) (consA (opE (lstF (consA (opE (varE 1)) (consA (opE (op2 addT (var 1) (opE (con (.str "'\n"))))) (nilA))))) (nilA)))))))))))))))))) (seqF (forF (seqI (opE (b_law_refused_right_C1))) (.nm 3) (b_law_refused_right_L5)) (retF (con (.bl true))))))
def f_law_refused_right : Fn := fnOf N_law_refused_right.length b_law_refused_right
def b_law_L1 : SF := ifF (notT (tst (callF 1 f_law_word_right (consA (opE (callF 1 f_law_drawn (consA (opE (varE 1)) (nilA)))) (nilA))))) (retF (con (.bl false))) (nxF)
def b_law_C2 : EF := compF [4] (seqI (opE (callF 2 f_law_all (consA (opE (ite3 (tst (op2 neT (opE (op2 ixT (var 3) (opE (con (.int 0))))) (opE (op2 ixT (var 3) (opE (con (.int 1))))))) (varE 3) (slF slT' (var 3) (noB) (someB (opE (con (.int 1))))))) (consA (opE (callF 2 f_law_pick (consA (opE (varE 1)) (consA (opE (lstF (consA (opE (con (.int 2))) (consA (opE (con (.int 1))) (consA (opE (con (.int 3))) (consA (opE (con (.int 2))) (nilA))))))) (nilA))))) (nilA)))))) (.nm 4) (notT (tst (callF 1 f_law_word_right (consA (opE (varE 4)) (nilA))))) (varE 4)
def b_law : SF := seqF (forF (rngI1 (opE (con (.int 6)))) (.nm 2) (b_law_L1)) (seqF (setF 3 (callF 2 f_law_letters (consA (opE (varE 1)) (consA (opE (con (.int 2))) (nilA))))) (seqF (ifF (tst (op2 neT (opE (b_law_C2)) (opE (lstF (nilA))))) (retF (con (.bl false))) (nxF)) (seqF (ifF (orT (notT (tst (callF 1 f_law_word_right (consA (opE (lstF (nilA))) (nilA))))) (notT (tst (callF 1 f_law_refused_right (consA (opE (varE 1)) (nilA)))))) (retF (con (.bl false))) (nxF)) (retF (andE (op2 eqT (opE (callF 1 f_round_of (consA (opE (lstF (consA (opE (con (.str "b"))) (consA (opE (con (.str "a'"))) (consA (opE (con (.str "a"))) (nilA)))))) (nilA)))) (opE (tupF (consA (opE (con (.str "a"))) (consA (opE (con (.str "b"))) (consA (opE (con (.str "a'"))) (nilA))))))) (op2 eqT (opE (callF 1 f_round_of (consA (opE (tupF (consA (opE (con (.str "b'"))) (consA (opE (con (.str "a'"))) (nilA))))) (nilA)))) (opE (tupF (consA (opE (con (.str "a"))) (consA (opE (con (.str "b"))) (nilA)))))))))))
structure Tab (K : PySem.W.Frag) (mg : Str → Option Value) where
  X_SizeError : Addr
  G_SizeError : mg "SizeError" = some (.ref X_SizeError)
  X_BadWord : Addr
  G_BadWord : mg "BadWord" = some (.ref X_BadWord)
  I_BadWord : Addr
  DI_BadWord : FuncData
  FI_BadWord : Fun K "__init__" "BadWord.__init__" st_init_BadWord I_BadWord DI_BadWord
  B_BadWord : Binds K DI_BadWord ["self", "part"] []
  E_BadWord : ExcT K mg "BadWord" X_BadWord I_BadWord
  no_BadWord_part : PySem.W.findIn K (.ref X_BadWord) "part" = some none
  kitN_BadWord : PySem.W.kitOne K (.type "NoneType") (.ref X_BadWord) = some false
  kit_BadWord_BadWord : PySem.W.kitOne K (.ref X_BadWord) (.ref X_BadWord) = some true
  exm_BadWord_SizeError : PySem.W.exmOne K (.ref X_BadWord) (.ref X_SizeError) = some true
  a_law_spool : Addr
  d_law_spool : FuncData
  F_law_spool : Fun K "_law_spool" "_law_spool" st_law_spool a_law_spool d_law_spool
  m_law_spool : mg "_law_spool" = some (.ref a_law_spool)
  b_law_spool : Binds K d_law_spool ["_law_script"] []
  a_law_over : Addr
  d_law_over : FuncData
  F_law_over : Fun K "_law_over" "_law_over" st_law_over a_law_over d_law_over
  m_law_over : mg "_law_over" = some (.ref a_law_over)
  b_law_over : Binds K d_law_over ["_law_word_here"] []
  a_law_rank : Addr
  d_law_rank : FuncData
  F_law_rank : Fun K "_law_rank" "_law_rank" st_law_rank a_law_rank d_law_rank
  m_law_rank : mg "_law_rank" = some (.ref a_law_rank)
  b_law_rank : Binds K d_law_rank ["_law_word_here"] []
  a_law_least : Addr
  d_law_least : FuncData
  F_law_least : Fun K "_law_least" "_law_least" st_law_least a_law_least d_law_least
  m_law_least : mg "_law_least" = some (.ref a_law_least)
  b_law_least : Binds K d_law_least ["_law_word_here"] []
  a_is_letter : Addr
  d_is_letter : FuncData
  F_is_letter : Fun K "is_letter" "is_letter" st_is_letter a_is_letter d_is_letter
  m_is_letter : mg "is_letter" = some (.ref a_is_letter)
  b_is_letter : Binds K d_is_letter ["value"] []
  a_is_sign : Addr
  d_is_sign : FuncData
  F_is_sign : Fun K "is_sign" "is_sign" st_is_sign a_is_sign d_is_sign
  m_is_sign : mg "is_sign" = some (.ref a_is_sign)
  b_is_sign : Binds K d_is_sign ["value"] []
  a_is_word : Addr
  d_is_word : FuncData
  F_is_word : Fun K "is_word" "is_word" st_is_word a_is_word d_is_word
  m_is_word : mg "is_word" = some (.ref a_is_word)
  b_is_word : Binds K d_is_word ["value"] []
  a_need_word : Addr
  d_need_word : FuncData
  F_need_word : Fun K "need_word" "need_word" st_need_word a_need_word d_need_word
  m_need_word : mg "need_word" = some (.ref a_need_word)
  b_need_word : Binds K d_need_word ["value", "part"] []
  a_turned_sign : Addr
  d_turned_sign : FuncData
  F_turned_sign : Fun K "turned_sign" "turned_sign" st_turned_sign a_turned_sign d_turned_sign
  m_turned_sign : mg "turned_sign" = some (.ref a_turned_sign)
  b_turned_sign : Binds K d_turned_sign ["sign"] []
  a_turned_over : Addr
  d_turned_over : FuncData
  F_turned_over : Fun K "turned_over" "turned_over" st_turned_over a_turned_over d_turned_over
  m_turned_over : mg "turned_over" = some (.ref a_turned_over)
  b_turned_over : Binds K d_turned_over ["word"] []
  a_turned_word : Addr
  d_turned_word : FuncData
  F_turned_word : Fun K "turned_word" "turned_word" st_turned_word a_turned_word d_turned_word
  m_turned_word : mg "turned_word" = some (.ref a_turned_word)
  b_turned_word : Binds K d_turned_word ["word"] []
  a_begun_anew : Addr
  d_begun_anew : FuncData
  F_begun_anew : Fun K "begun_anew" "begun_anew" st_begun_anew a_begun_anew d_begun_anew
  m_begun_anew : mg "begun_anew" = some (.ref a_begun_anew)
  b_begun_anew : Binds K d_begun_anew ["word"] []
  a_least_word : Addr
  d_least_word : FuncData
  F_least_word : Fun K "least_word" "least_word" st_least_word a_least_word d_least_word
  m_least_word : mg "least_word" = some (.ref a_least_word)
  b_least_word : Binds K d_least_word ["word"] []
  a_round_of : Addr
  d_round_of : FuncData
  F_round_of : Fun K "round_of" "round_of" st_round_of a_round_of d_round_of
  m_round_of : mg "round_of" = some (.ref a_round_of)
  b_round_of : Binds K d_round_of ["word"] []
  a_law_word_right : Addr
  d_law_word_right : FuncData
  F_law_word_right : Fun K "_law_word_right" "_law_word_right" st_law_word_right a_law_word_right d_law_word_right
  m_law_word_right : mg "_law_word_right" = some (.ref a_law_word_right)
  b_law_word_right : Binds K d_law_word_right ["_law_word_here"] []
  a_law_wind : Addr
  d_law_wind : FuncData
  F_law_wind : Fun K "_law_wind" "_law_wind" st_law_wind a_law_wind d_law_wind
  m_law_wind : mg "_law_wind" = some (.ref a_law_wind)
  b_law_wind : Binds K d_law_wind ["_law_spool_here", "_law_many"] []
  a_law_pick : Addr
  d_law_pick : FuncData
  F_law_pick : Fun K "_law_pick" "_law_pick" st_law_pick a_law_pick d_law_pick
  m_law_pick : mg "_law_pick" = some (.ref a_law_pick)
  b_law_pick : Binds K d_law_pick ["_law_spool_here", "_law_some"] []
  a_law_word : Addr
  d_law_word : FuncData
  F_law_word : Fun K "_law_word" "_law_word" st_law_word a_law_word d_law_word
  m_law_word : mg "_law_word" = some (.ref a_law_word)
  b_law_word : Binds K d_law_word ["_law_spool_here", "_law_letters_here", "_law_most"] []
  a_law_letters : Addr
  d_law_letters : FuncData
  F_law_letters : Fun K "_law_letters" "_law_letters" st_law_letters a_law_letters d_law_letters
  m_law_letters : mg "_law_letters" = some (.ref a_law_letters)
  b_law_letters : Binds K d_law_letters ["_law_spool_here", "_law_many"] []
  a_law_drawn : Addr
  d_law_drawn : FuncData
  F_law_drawn : Fun K "_law_drawn" "_law_drawn" st_law_drawn a_law_drawn d_law_drawn
  m_law_drawn : mg "_law_drawn" = some (.ref a_law_drawn)
  b_law_drawn : Binds K d_law_drawn ["_law_spool_here"] []
  a_law_all : Addr
  d_law_all : FuncData
  F_law_all : Fun K "_law_all" "_law_all" st_law_all a_law_all d_law_all
  m_law_all : mg "_law_all" = some (.ref a_law_all)
  b_law_all : Binds K d_law_all ["_law_letters_here", "_law_many"] []
  a_law_refused_right : Addr
  d_law_refused_right : FuncData
  cc_law_refused_right : Addr
  P_law_refused_right : Addr
  FC_law_refused_right : FunC K "_law_refused_right" "_law_refused_right" st_law_refused_right a_law_refused_right d_law_refused_right cc_law_refused_right
  kp_law_refused_right : PySem.W.keepIn K (.ref a_law_refused_right) = true
  ti_law_refused_right : PySem.W.tabIn K "_law_refused_right" = some (cc_law_refused_right, P_law_refused_right)
  m_law_refused_right : mg "_law_refused_right" = some (.ref a_law_refused_right)
  b_law_refused_right : Binds K d_law_refused_right ["_law_spool_here"] []
  a_law : Addr
  d_law : FuncData
  F_law : Fun K "law" "law" st_law a_law d_law
  m_law : mg "law" = some (.ref a_law)
  b_law : Binds K d_law ["_law_script"] []
  a_law_heard : Addr
  d_law_heard : FuncData
  F_law_heard : Fun K "_law_heard" "_law_heard" st_law_heard a_law_heard d_law_heard
  m_law_heard : mg "_law_heard" = some (.ref a_law_heard)
  b_law_heard : Binds K d_law_heard ["_law_ask"] []
  k_is_word_value : BindsK d_is_word ["value"] ["value"] [0]
  k_round_of_word : BindsK d_round_of ["word"] ["word"] [0]
  k_turned_word_word : BindsK d_turned_word ["word"] ["word"] [0]
  z_abs : mg "abs" = none
  z_all : mg "all" = none
  z_int : mg "int" = none
  z_isinstance : mg "isinstance" = none
  z_len : mg "len" = none
  z_list : mg "list" = none
  z_min : mg "min" = none
  z_range : mg "range" = none
  z_str : mg "str" = none
  z_tuple : mg "tuple" = none
  tk_LETTERS : Tok
  c_LETTERS : mg "LETTERS" = some (.str "abcdefghijklmnopqrstuvwxyz" tk_LETTERS)
  tk_STROKE : Tok
  c_STROKE : mg "STROKE" = some (.str "'" tk_STROKE)
namespace Tab
variable {K : PySem.W.Frag} {mg : Str → Option Value}
def ca (T : Tab K mg) : Nat → Addr
  | 0 => T.X_SizeError
  | _ => T.X_BadWord
def tb (T : Tab K mg) : List (Addr × Str) := [(T.P_law_refused_right, "_law_refused_right.<locals>.<lambda>")]
theorem tbm_law_refused_right (T : Tab K mg) (q : Str) (h : q = "_law_refused_right.<locals>.<lambda>") : (T.P_law_refused_right, q) ∈ T.tb := by subst h; exact .head _
theorem tbu_law_refused_right (T : Tab K mg) : ∀ p ∈ T.tb, p.1 = T.P_law_refused_right → p.2 = "_law_refused_right.<locals>.<lambda>" := fun p hp _ => by
  rw [List.mem_singleton.mp hp]
theorem ct_SizeError (T : Tab K mg) : ∀ k b, ctch_SizeError k = some b → PySem.W.exmOne K (.ref (T.ca k)) (.ref T.X_SizeError) = some b := fun k b h => by
  match k, h with
  | 1, h => cases h; exact T.exm_BadWord_SizeError
theorem is_BadWord (T : Tab K mg) : IsOk K T.ca own_BadWord btN [.ref T.X_BadWord] where
  own := fun k b h => by
    match k, h with
    | 1, h => cases h; exact ⟨T.E_BadWord.exc, kitAny1 T.kit_BadWord_BadWord⟩
  bt := fun n b h => by
    unfold btN at h
    split at h
    · rename_i e; subst e; cases h; exact kitAny1 T.kitN_BadWord
    · cases h
theorem at_part (T : Tab K mg) : ∀ k, okc_part k = true → ExcC K (T.ca k) ∧ PySem.W.findIn K (.ref (T.ca k)) "part" = some none := fun k h => by
  match k, h with
  | 1, h => exact ⟨T.E_BadWord.exc, T.no_BadWord_part⟩
end Tab
structure TabL {K : PySem.W.Frag} {mg : Str → Option Value} (T : Tab K mg) (base : Heap) : Prop where
  tb_law_refused_right : LamX.TabB base mg T.cc_law_refused_right T.P_law_refused_right
section
variable {P : Program} {w : World} {K : PySem.W.Frag} {mg : Str → Option Value} {base : Heap}
theorem ok_init_BadWord (T : Tab K mg) : FnOk P w K mg base (L2.CX P w) 1 T.I_BadWord T.DI_BadWord ["self", "part"] (spInit K T.X_BadWord ["part"]) := by
  refine T.FI_BadWord.okX (k := 0) sc_init_BadWord (fun vs H Q E h => ?_) (fun cdv A outer s H vs Q E hr h => ⟨_, pss_one (ps_ost (pv 0) (pv 1)), init1_read T.E_BadWord.oex T.no_BadWord_part h⟩)
  obtain ⟨a, ys, rfl, hl, _⟩ := h
  rw [List.length_cons, hl] <;> rfl
end
theorem bk_is_word_value {kV doc pm : Value} {an : Option Addr} {cdv ct : Value} (us ws : List Value) (h1 : us.length + ws.length = 1) (h2 : ws.length = 1) : bindArgs (PySem.W.fnOf "is_word" "is_word" (defArgs st_is_word) (defBody st_is_word) (defScope st_is_word) .none kV doc pm an cdv ct) ⟨us, (["value"] : List Str).zip ws⟩ = pure ((["value"] : List Str).zip (us ++ prm [0] ws)) := by
  obtain ⟨w0, rfl⟩ : ∃ w0, ws = [w0] := by
    match ws, h2 with | [w0], _ => exact ⟨w0, rfl⟩
  obtain rfl : us = [] := by
    match us, h1 with | [], _ => rfl
  rfl
theorem bk_round_of_word {kV doc pm : Value} {an : Option Addr} {cdv ct : Value} (us ws : List Value) (h1 : us.length + ws.length = 1) (h2 : ws.length = 1) : bindArgs (PySem.W.fnOf "round_of" "round_of" (defArgs st_round_of) (defBody st_round_of) (defScope st_round_of) .none kV doc pm an cdv ct) ⟨us, (["word"] : List Str).zip ws⟩ = pure ((["word"] : List Str).zip (us ++ prm [0] ws)) := by
  obtain ⟨w0, rfl⟩ : ∃ w0, ws = [w0] := by
    match ws, h2 with | [w0], _ => exact ⟨w0, rfl⟩
  obtain rfl : us = [] := by
    match us, h1 with | [], _ => rfl
  rfl
theorem bk_turned_word_word {kV doc pm : Value} {an : Option Addr} {cdv ct : Value} (us ws : List Value) (h1 : us.length + ws.length = 1) (h2 : ws.length = 1) : bindArgs (PySem.W.fnOf "turned_word" "turned_word" (defArgs st_turned_word) (defBody st_turned_word) (defScope st_turned_word) .none kV doc pm an cdv ct) ⟨us, (["word"] : List Str).zip ws⟩ = pure ((["word"] : List Str).zip (us ++ prm [0] ws)) := by
  obtain ⟨w0, rfl⟩ : ∃ w0, ws = [w0] := by
    match ws, h2 with | [w0], _ => exact ⟨w0, rfl⟩
  obtain rfl : us = [] := by
    match us, h1 with | [], _ => rfl
  rfl
end K35

end
section
set_option Elab.async false
set_option linter.all false
set_option maxRecDepth 100000
set_option autoImplicit false
set_option maxHeartbeats 0
open PySem PySem.Spec PyProof.Rows L2 TL
namespace K35
section
variable {P : Program} {w : World} {K : PySem.W.Frag} {mg : Str → Option Value} {base : Heap} {nb : Addr}
theorem gives_law_heard (T : Tab K mg) {X : Cx} (hK : X.K = K) (hm : X.mg = mg) {q : Str} {gd : Addr} {cdg : Value} : GivesS X N_law_heard "_law_heard" (defScope st_law_heard) gd cdg (defBody st_law_heard) "_law_ask" q (TTh ⟨K, nb, T.ca, T.tb⟩ (hFn N_law_heard.length b_law_heard)) := by
  subst hK; subst hm
  exact heard_gives rfl fun ask f c' s H F tl act hc hn ht =>
    ds_cons (ds_set (i := 1) sc_law_heard.nd rfl (.inl rfl) (de_con pe_non (fun _ => .non)) (.inr rfl)) (ds_cons (ds_try (i := 2) rfl rfl rfl sc_law_heard.nd rfl rfl ⟨rfl, by decide, .inl T.G_SizeError⟩ T.ct_SizeError LamX.takes0 (fun W pn xe tk hp => by exact ds_one (ds_expr (by exact de_ask (act W pn xe _ _ tk) hc hn rfl rfl ht))) (fun a pn => by exact ds_one (ds_set (i := 1) sc_law_heard.nd rfl (.inl rfl) (de_var (pv 2)) (.inr rfl)))) (ds_one (ds_ret (de_if (dt_cmp op_isA p_is (do_var (pv 1)) (do_of (de_con pe_non (fun _ => .non))) (nomark _)) (de_con pe_non (fun _ => .non)) (de_if (dt_val (de_isE (cv := .ref T.X_BadWord) rfl (by rfl) T.z_isinstance (do_var (pv 1)) (pe_glob (v := .ref T.X_BadWord) (by rfl) (by exact T.G_BadWord) rfl) (.own _) T.is_BadWord)) (de_attr rfl (do_var (pv 1)) T.at_part) (de_con pe_str (fun _ => .str _)))))))
end
end K35

end
section
set_option Elab.async false
set_option linter.all false
set_option maxRecDepth 100000
set_option autoImplicit false
set_option maxHeartbeats 0
open PySem PySem.Spec PyProof.Rows L2 TL
namespace K35
section
variable {P : Program} {w : World} {K : PySem.W.Frag} {mg : Str → Option Value} {base : Heap} {nb : Addr}
theorem ok_law_over (T : Tab K mg) : FnOk P w K mg base (L2.CX P w) 1 T.a_law_over T.d_law_over ["_law_word_here"] (spT ⟨K, nb, T.ca, T.tb⟩ 1 f_law_over) :=
  fn_ok (g := ⟨K, nb, T.ca, T.tb⟩) (k := 0) (b := b_law_over) (N := N_law_over) (ps := ["_law_word_here"]) T.F_law_over sc_law_over fun cdv A outer s H F0 E hr =>
    ds_cons (ds_set (i := 1) sc_law_over.nd rfl (.inl rfl) (de_lst (da_nil)) (.inr rfl)) (ds_cons (ds_for (passes_of rfl) rfl (di_seq rfl (do_of (de_var (pv 0)))) (dg_nm (pg_name (i := 2) sc_law_over.nd rfl (by first | exact .inl rfl | exact .inr rfl))) (ds_one (ds_set (i := 1) sc_law_over.nd rfl (.inl rfl) (de_bin op_addA (p_add rfl) (do_of (de_lst (da_cons (do_of (de_if (dt_cmp (op_eqD hr.units) (p_eq rfl) (do_of (de_callB call_len (p_len rfl) (by rfl) T.z_len bt_len (da_cons (do_var (pv 2)) (da_nil)))) (do_of (de_con pe_int (fun _ => .int _))) (nomark _)) (de_ix ix_seq (p_ix rfl) (do_var (pv 2)) (do_of (de_con pe_int (fun _ => .int _))) (fun _ _ => rfl)) (de_bin op_addA (p_add rfl) (do_var (pv 2)) (do_of (de_con pe_str (fun _ => .str _)))))) (da_nil)))) (do_var (pv 1))) (.inr rfl)))) (ds_one (ds_ret (de_varR (pv 1)))))
end
end K35

end
section
set_option Elab.async false
set_option linter.all false
set_option maxRecDepth 100000
set_option autoImplicit false
set_option maxHeartbeats 0
open PySem PySem.Spec PyProof.Rows L2 TL
namespace K35
section
variable {P : Program} {w : World} {K : PySem.W.Frag} {mg : Str → Option Value} {base : Heap} {nb : Addr}
theorem ok_law_rank (T : Tab K mg) : FnOk P w K mg base (L2.CX P w) 1 T.a_law_rank T.d_law_rank ["_law_word_here"] (spT ⟨K, nb, T.ca, T.tb⟩ 1 f_law_rank) :=
  fn_ok (g := ⟨K, nb, T.ca, T.tb⟩) (k := 0) (b := b_law_rank) (N := N_law_rank) (ps := ["_law_word_here"]) T.F_law_rank sc_law_rank fun cdv A outer s H F0 E hr =>
    ds_one (ds_ret (by exact de_comp (own := [("_law_sign", 1)]) rfl sc_law_rank.nd (di_seq rfl (do_of (de_var (pv 0)))) (blkOk_by (own := [("_law_sign", 1)]) (N := N_law_rank) (sc := defScope st_law_rank) (by decide +kernel)) (fun _ _ _ _ _ => dg_nm (pg_name (i := 1) sc_law_rank.nd rfl (by first | exact .inl rfl | exact .inr rfl))) (fun _ _ _ _ _ => dts_nil) (fun _ _ _ _ _ => de_bin op_sub p_sub (do_of (de_bin op_addA (p_add rfl) (do_of (de_bin op_mulA p_mul (do_of (de_con pe_int (fun _ => .int _))) (do_of (by exact de_idxS pe_str (do_of (de_ix ix_seq (p_ix rfl) (do_var (pv 1)) (do_of (de_con pe_int (fun _ => .int _))) (fun _ _ => rfl))))))) (do_of (de_callB call_len (p_len rfl) (by rfl) T.z_len bt_len (da_cons (do_var (pv 1)) (da_nil)))))) (do_of (de_con pe_int (fun _ => .int _))))))
end
end K35

end
section
set_option Elab.async false
set_option linter.all false
set_option maxRecDepth 100000
set_option autoImplicit false
set_option maxHeartbeats 0
open PySem PySem.Spec PyProof.Rows L2 TL
namespace K35
section
variable {P : Program} {w : World} {K : PySem.W.Frag} {mg : Str → Option Value} {base : Heap} {nb : Addr}
theorem ok_law_least (T : Tab K mg) : FnOk P w K mg base (L2.CX P w) 2 T.a_law_least T.d_law_least ["_law_word_here"] (spT ⟨K, nb, T.ca, T.tb⟩ 1 f_law_least) :=
  fn_ok (g := ⟨K, nb, T.ca, T.tb⟩) (k := 1) (b := b_law_least) (N := N_law_least) (ps := ["_law_word_here"]) T.F_law_least sc_law_least fun cdv A outer s H F0 E hr =>
    ds_cons (ds_set (i := 1) sc_law_least.nd rfl (.inl rfl) (de_callTy call_list_of (p_list rfl) (by rfl) T.z_list bt_list (da_cons (do_var (pv 0)) (da_nil))) (.inr rfl)) (ds_cons (ds_for (passes_of rfl) rfl (di_seq rfl (do_of (de_tup (da_cons (do_of (de_callTy call_list_of (p_list rfl) (by rfl) T.z_list bt_list (da_cons (do_var (pv 0)) (da_nil)))) (da_cons (do_of (by exact de_call (ps := ["_law_word_here"]) (fn := f_law_over) (ok_law_over T) (hr.mono (by decide)) (by rfl) T.m_law_over T.F_law_over.kp T.b_law_over (passS (pass_own rfl rfl rfl rfl)) (da_cons (do_of (de_var (pv 0))) (da_nil)))) (da_nil)))))) (dg_nm (pg_name (i := 2) sc_law_least.nd rfl (by first | exact .inl rfl | exact .inr rfl))) (ds_one (ds_for (passes_of rfl) rfl (di_rng1 (by rfl) T.z_range (do_of (de_callB call_len (p_len rfl) (by rfl) T.z_len bt_len (da_cons (do_var (pv 2)) (da_nil))))) (dg_nm (pg_name (i := 3) sc_law_least.nd rfl (by first | exact .inl rfl | exact .inr rfl))) (ds_cons (ds_set (i := 4) sc_law_least.nd rfl (.inl rfl) (de_bin op_addA (p_add rfl) (do_of (de_sl sl_all (p_sl rfl) (do_var (pv 2)) (db_some (do_var (pv 3))) (db_none))) (do_of (de_sl sl_all (p_sl rfl) (do_var (pv 2)) (db_none) (db_some (do_var (pv 3)))))) (.inr rfl)) (ds_one (ds_set (i := 1) sc_law_least.nd rfl (.inl rfl) (de_if (dt_cmp (op_ltD hr.units) (p_ltD rfl) (do_of (by exact de_call (ps := ["_law_word_here"]) (fn := f_law_rank) (ok_law_rank T) (hr.mono (by decide)) (by rfl) T.m_law_rank T.F_law_rank.kp T.b_law_rank (passS (pass_own rfl rfl rfl rfl)) (da_cons (do_of (de_var (pv 4))) (da_nil)))) (do_of (by exact de_call (ps := ["_law_word_here"]) (fn := f_law_rank) (ok_law_rank T) (hr.mono (by decide)) (by rfl) T.m_law_rank T.F_law_rank.kp T.b_law_rank (passS (pass_own rfl rfl rfl rfl)) (da_cons (do_of (de_var (pv 1))) (da_nil)))) (nomark _)) (de_var (pv 4)) (de_var (pv 1))) (.inr rfl))))))) (ds_one (ds_ret (de_callTy call_tuple_ofF (p_tuple rfl) (by rfl) T.z_tuple bt_tuple (da_cons (do_var (pv 1)) (da_nil))))))
end
end K35

end
section
set_option Elab.async false
set_option linter.all false
set_option maxRecDepth 100000
set_option autoImplicit false
set_option maxHeartbeats 0
open PySem PySem.Spec PyProof.Rows L2 TL
namespace K35
section
variable {P : Program} {w : World} {K : PySem.W.Frag} {mg : Str → Option Value} {base : Heap} {nb : Addr}
theorem ok_is_letter (T : Tab K mg) : FnOk P w K mg base (L2.CX P w) 1 T.a_is_letter T.d_is_letter ["value"] (spT ⟨K, nb, T.ca, T.tb⟩ 1 f_is_letter) :=
  fn_ok (g := ⟨K, nb, T.ca, T.tb⟩) (k := 0) (b := b_is_letter) (N := N_is_letter) (ps := ["value"]) T.F_is_letter sc_is_letter fun cdv A outer s H F0 E hr =>
    ds_one (ds_ret (de_and (de_isi rfl (by rfl) T.z_isinstance (do_var (pv 0)) (by rfl) T.z_str bt_str) (de_and (de_cmp (op_eqD hr.units) (p_eq rfl) (do_of (de_callB call_len (p_len rfl) (by rfl) T.z_len bt_len (da_cons (do_var (pv 0)) (da_nil)))) (do_of (de_con pe_int (fun _ => .int _))) (nomark _)) (de_one (de_cmp op_inS p_inS (do_var (pv 0)) (do_of (de_con (pe_glob (v := .str "abcdefghijklmnopqrstuvwxyz") (by rfl) T.c_LETTERS ⟨T.tk_LETTERS, rfl⟩) (fun _ => .str _))) (by rfl))))))
end
end K35

end
section
set_option Elab.async false
set_option linter.all false
set_option maxRecDepth 100000
set_option autoImplicit false
set_option maxHeartbeats 0
open PySem PySem.Spec PyProof.Rows L2 TL
namespace K35
section
variable {P : Program} {w : World} {K : PySem.W.Frag} {mg : Str → Option Value} {base : Heap} {nb : Addr}
theorem ok_is_sign (T : Tab K mg) : FnOk P w K mg base (L2.CX P w) 2 T.a_is_sign T.d_is_sign ["value"] (spT ⟨K, nb, T.ca, T.tb⟩ 1 f_is_sign) :=
  fn_ok (g := ⟨K, nb, T.ca, T.tb⟩) (k := 1) (b := b_is_sign) (N := N_is_sign) (ps := ["value"]) T.F_is_sign sc_is_sign fun cdv A outer s H F0 E hr =>
    ds_cons (ds_if ((dw_or (dt_not (dt_val (de_isi rfl (by rfl) T.z_isinstance (do_var (pv 0)) (by rfl) T.z_str bt_str))) (dw_or1 (dt_cmp (op_notinA (hu65 hr)) (p_notin rfl) (do_of (de_sl sl_all (p_sl rfl) (do_var (pv 0)) (db_some (do_of (de_con pe_int (fun _ => .int _)))) (db_none))) (do_of (de_tup (da_cons (do_of (de_con pe_str (fun _ => .str _))) (da_cons (do_of (de_con (pe_glob (v := .str "'") (by rfl) T.c_STROKE ⟨T.tk_STROKE, rfl⟩) (fun _ => .str _))) (da_nil))))) (by rfl)))).pt) (ds_one (ds_ret (de_con pe_bl (fun _ => .bl _)))) (ds_nil)) (ds_one (ds_ret (by exact de_call (ps := ["value"]) (fn := f_is_letter) (ok_is_letter T) (hr.mono (by decide)) (by rfl) T.m_is_letter T.F_is_letter.kp T.b_is_letter (passS (pass_own rfl rfl rfl rfl)) (da_cons (do_of (de_sl sl_all (p_sl rfl) (do_var (pv 0)) (db_none) (db_some (do_of (de_con pe_int (fun _ => .int _)))))) (da_nil)))))
end
end K35

end
section
set_option Elab.async false
set_option linter.all false
set_option maxRecDepth 100000
set_option autoImplicit false
set_option maxHeartbeats 0
open PySem PySem.Spec PyProof.Rows L2 TL
namespace K35
section
variable {P : Program} {w : World} {K : PySem.W.Frag} {mg : Str → Option Value} {base : Heap} {nb : Addr}
theorem ok_is_word (T : Tab K mg) : FnOk P w K mg base (L2.CX P w) 3 T.a_is_word T.d_is_word ["value"] (spT ⟨K, nb, T.ca, T.tb⟩ 1 f_is_word) :=
  fn_ok (g := ⟨K, nb, T.ca, T.tb⟩) (k := 2) (b := b_is_word) (N := N_is_word) (ps := ["value"]) T.F_is_word sc_is_word fun cdv A outer s H F0 E hr =>
    ds_one (ds_ret (de_and (de_isi2 rfl (by rfl) T.z_isinstance (do_var (pv 0)) (by rfl) T.z_list bt_list (by rfl) T.z_tuple bt_tuple) (de_one (de_callB (cr_all rfl) p_all (by rfl) T.z_all bt_all (da_cons (do_of (by exact de_comp (own := [("each", 1)]) rfl sc_is_word.nd (di_seq rfl (do_of (de_var (pv 0)))) (blkOk_by (own := [("each", 1)]) (N := N_is_word) (sc := defScope st_is_word) (by decide +kernel)) (fun _ _ _ _ _ => dg_nm (pg_name (i := 1) sc_is_word.nd rfl (by first | exact .inl rfl | exact .inr rfl))) (fun _ _ _ _ _ => dts_nil) (fun _ _ _ _ _ => by exact de_call (ps := ["value"]) (fn := f_is_sign) (ok_is_sign T) (hr.mono (by decide)) (by rfl) T.m_is_sign T.F_is_sign.kp T.b_is_sign (passS passL) (da_cons (do_of (de_var (pv 1))) (da_nil))))) (da_nil))))))
end
end K35

end
section
set_option Elab.async false
set_option linter.all false
set_option maxRecDepth 100000
set_option autoImplicit false
set_option maxHeartbeats 0
open PySem PySem.Spec PyProof.Rows L2 TL
namespace K35
section
variable {P : Program} {w : World} {K : PySem.W.Frag} {mg : Str → Option Value} {base : Heap} {nb : Addr}
theorem ok_need_word (T : Tab K mg) : FnOk P w K mg base (L2.CX P w) 4 T.a_need_word T.d_need_word ["value", "part"] (spT ⟨K, nb, T.ca, T.tb⟩ 2 f_need_word) :=
  fn_ok (g := ⟨K, nb, T.ca, T.tb⟩) (k := 3) (b := b_need_word) (N := N_need_word) (ps := ["value", "part"]) T.F_need_word sc_need_word fun cdv A outer s H F0 E hr =>
    ds_one (ds_if (dt_not (dt_val (by exact de_call (ps := ["value"]) (fn := f_is_word) (ok_is_word T) (hr.mono (by decide)) (by rfl) T.m_is_word T.F_is_word.kp T.b_is_word (passS (pass_own rfl rfl rfl rfl)) (da_cons (do_of (de_var (pv 0))) (da_nil))))) (ds_one (by exact ds_raise (fl := ["part"]) (ps := ["self", "part"]) rfl (takes_of rfl rfl rfl rfl) T.E_BadWord rfl (ok_init_BadWord T) (hr.mono (by decide)) T.B_BadWord passL (by rfl) (da_cons (do_of (de_var (pv 1))) (da_nil)))) (ds_nil))
end
end K35

end
section
set_option Elab.async false
set_option linter.all false
set_option maxRecDepth 100000
set_option autoImplicit false
set_option maxHeartbeats 0
open PySem PySem.Spec PyProof.Rows L2 TL
namespace K35
section
variable {P : Program} {w : World} {K : PySem.W.Frag} {mg : Str → Option Value} {base : Heap} {nb : Addr}
theorem ok_turned_sign (T : Tab K mg) : FnOk P w K mg base (L2.CX P w) 1 T.a_turned_sign T.d_turned_sign ["sign"] (spT ⟨K, nb, T.ca, T.tb⟩ 1 f_turned_sign) :=
  fn_ok (g := ⟨K, nb, T.ca, T.tb⟩) (k := 0) (b := b_turned_sign) (N := N_turned_sign) (ps := ["sign"]) T.F_turned_sign sc_turned_sign fun cdv A outer s H F0 E hr =>
    ds_one (ds_ret (de_if (dt_cmp (op_eqD hr.units) (p_eq rfl) (do_of (de_sl sl_all (p_sl rfl) (do_var (pv 0)) (db_some (do_of (de_con pe_int (fun _ => .int _)))) (db_none))) (do_of (de_con (pe_glob (v := .str "'") (by rfl) T.c_STROKE ⟨T.tk_STROKE, rfl⟩) (fun _ => .str _))) (nomark _)) (de_ix ix_seq (p_ix rfl) (do_var (pv 0)) (do_of (de_con pe_int (fun _ => .int _))) (fun _ _ => rfl)) (de_bin op_addA (p_add rfl) (do_var (pv 0)) (do_of (de_con (pe_glob (v := .str "'") (by rfl) T.c_STROKE ⟨T.tk_STROKE, rfl⟩) (fun _ => .str _))))))
end
end K35

end
section
set_option Elab.async false
set_option linter.all false
set_option maxRecDepth 100000
set_option autoImplicit false
set_option maxHeartbeats 0
open PySem PySem.Spec PyProof.Rows L2 TL
namespace K35
section
variable {P : Program} {w : World} {K : PySem.W.Frag} {mg : Str → Option Value} {base : Heap} {nb : Addr}
theorem ok_turned_over (T : Tab K mg) : FnOk P w K mg base (L2.CX P w) 2 T.a_turned_over T.d_turned_over ["word"] (spT ⟨K, nb, T.ca, T.tb⟩ 1 f_turned_over) :=
  fn_ok (g := ⟨K, nb, T.ca, T.tb⟩) (k := 1) (b := b_turned_over) (N := N_turned_over) (ps := ["word"]) T.F_turned_over sc_turned_over fun cdv A outer s H F0 E hr =>
    ds_one (ds_ret (de_callTy call_tuple_ofF (p_tuple rfl) (by rfl) T.z_tuple bt_tuple (da_cons (do_of (by exact de_comp (own := [("each", 1)]) rfl sc_turned_over.nd (di_seq rfl (do_of (by exact de_revA rfl (do_var (pv 0))))) (blkOk_by (own := [("each", 1)]) (N := N_turned_over) (sc := defScope st_turned_over) (by decide +kernel)) (fun _ _ _ _ _ => dg_nm (pg_name (i := 1) sc_turned_over.nd rfl (by first | exact .inl rfl | exact .inr rfl))) (fun _ _ _ _ _ => dts_nil) (fun _ _ _ _ _ => by exact de_call (ps := ["sign"]) (fn := f_turned_sign) (ok_turned_sign T) (hr.mono (by decide)) (by rfl) T.m_turned_sign T.F_turned_sign.kp T.b_turned_sign (passS passL) (da_cons (do_of (de_var (pv 1))) (da_nil))))) (da_nil))))
end
end K35

end
section
set_option Elab.async false
set_option linter.all false
set_option maxRecDepth 100000
set_option autoImplicit false
set_option maxHeartbeats 0
open PySem PySem.Spec PyProof.Rows L2 TL
namespace K35
section
variable {P : Program} {w : World} {K : PySem.W.Frag} {mg : Str → Option Value} {base : Heap} {nb : Addr}
theorem ok_turned_word (T : Tab K mg) : FnOk P w K mg base (L2.CX P w) 5 T.a_turned_word T.d_turned_word ["word"] (spT ⟨K, nb, T.ca, T.tb⟩ 1 f_turned_word) :=
  fn_ok (g := ⟨K, nb, T.ca, T.tb⟩) (k := 4) (b := b_turned_word) (N := N_turned_word) (ps := ["word"]) T.F_turned_word sc_turned_word fun cdv A outer s H F0 E hr =>
    ds_cons (ds_expr (by exact de_call (ps := ["value", "part"]) (fn := f_need_word) (ok_need_word T) (hr.mono (by decide)) (by rfl) T.m_need_word T.F_need_word.kp T.b_need_word (passS (pass_own rfl rfl rfl rfl)) (da_cons (do_of (de_var (pv 0))) (da_cons (do_of (de_con pe_str (fun _ => .str _))) (da_nil))))) (ds_one (ds_ret (by exact de_call (ps := ["word"]) (fn := f_turned_over) (ok_turned_over T) (hr.mono (by decide)) (by rfl) T.m_turned_over T.F_turned_over.kp T.b_turned_over (passS (pass_own rfl rfl rfl rfl)) (da_cons (do_of (de_var (pv 0))) (da_nil)))))
end
end K35

end
section
set_option Elab.async false
set_option linter.all false
set_option maxRecDepth 100000
set_option autoImplicit false
set_option maxHeartbeats 0
open PySem PySem.Spec PyProof.Rows L2 TL
namespace K35
section
variable {P : Program} {w : World} {K : PySem.W.Frag} {mg : Str → Option Value} {base : Heap} {nb : Addr}
theorem ok_begun_anew (T : Tab K mg) : FnOk P w K mg base (L2.CX P w) 1 T.a_begun_anew T.d_begun_anew ["word"] (spT ⟨K, nb, T.ca, T.tb⟩ 1 f_begun_anew) :=
  fn_ok (g := ⟨K, nb, T.ca, T.tb⟩) (k := 0) (b := b_begun_anew) (N := N_begun_anew) (ps := ["word"]) T.F_begun_anew sc_begun_anew fun cdv A outer s H F0 E hr =>
    ds_one (ds_ret (by exact de_comp (own := [("at", 1)]) rfl sc_begun_anew.nd (di_rng1 (by rfl) T.z_range (do_of (de_callB call_len (p_len rfl) (by rfl) T.z_len bt_len (da_cons (do_var (pv 0)) (da_nil))))) (blkOk_by (own := [("at", 1)]) (N := N_begun_anew) (sc := defScope st_begun_anew) (by decide +kernel)) (fun _ _ _ _ _ => dg_nm (pg_name (i := 1) sc_begun_anew.nd rfl (by first | exact .inl rfl | exact .inr rfl))) (fun _ _ _ _ _ => dts_nil) (fun _ _ _ _ _ => de_bin op_addA (p_add rfl) (do_of (de_callTy call_tuple_ofF (p_tuple rfl) (by rfl) T.z_tuple bt_tuple (da_cons (do_of (de_sl sl_all (p_sl rfl) (do_var (pv 0)) (db_some (do_var (pv 1))) (db_none))) (da_nil)))) (do_of (de_callTy call_tuple_ofF (p_tuple rfl) (by rfl) T.z_tuple bt_tuple (da_cons (do_of (de_sl sl_all (p_sl rfl) (do_var (pv 0)) (db_none) (db_some (do_var (pv 1))))) (da_nil)))))))
end
end K35

end
section
set_option Elab.async false
set_option linter.all false
set_option maxRecDepth 100000
set_option autoImplicit false
set_option maxHeartbeats 0
open PySem PySem.Spec PyProof.Rows L2 TL
namespace K35
section
variable {P : Program} {w : World} {K : PySem.W.Frag} {mg : Str → Option Value} {base : Heap} {nb : Addr}
theorem ok_least_word (T : Tab K mg) : FnOk P w K mg base (L2.CX P w) 3 T.a_least_word T.d_least_word ["word"] (spT ⟨K, nb, T.ca, T.tb⟩ 1 f_least_word) :=
  fn_ok (g := ⟨K, nb, T.ca, T.tb⟩) (k := 2) (b := b_least_word) (N := N_least_word) (ps := ["word"]) T.F_least_word sc_least_word fun cdv A outer s H F0 E hr =>
    ds_one (ds_ret (by exact de_minS rfl rfl (hu10 hr) (by rfl) T.z_min (do_of (de_lst (da_star rfl (do_of (by exact de_call (ps := ["word"]) (fn := f_begun_anew) (ok_begun_anew T) (hr.mono (by decide)) (by rfl) T.m_begun_anew T.F_begun_anew.kp T.b_begun_anew (passS (pass_own rfl rfl rfl rfl)) (da_cons (do_of (de_var (pv 0))) (da_nil)))) (da_star rfl (do_of (by exact de_call (ps := ["word"]) (fn := f_begun_anew) (ok_begun_anew T) (hr.mono (by decide)) (by rfl) T.m_begun_anew T.F_begun_anew.kp T.b_begun_anew (passS (pass_own rfl rfl rfl rfl)) (da_cons (do_of (by exact de_call (ps := ["word"]) (fn := f_turned_over) (ok_turned_over T) (hr.mono (by decide)) (by rfl) T.m_turned_over T.F_turned_over.kp T.b_turned_over (passS (pass_own rfl rfl rfl rfl)) (da_cons (do_of (de_var (pv 0))) (da_nil)))) (da_nil)))) (da_nil))))) (do_of (de_tup (da_nil)))))
end
end K35

end
section
set_option Elab.async false
set_option linter.all false
set_option maxRecDepth 100000
set_option autoImplicit false
set_option maxHeartbeats 0
open PySem PySem.Spec PyProof.Rows L2 TL
namespace K35
section
variable {P : Program} {w : World} {K : PySem.W.Frag} {mg : Str → Option Value} {base : Heap} {nb : Addr}
theorem ok_round_of (T : Tab K mg) : FnOk P w K mg base (L2.CX P w) 5 T.a_round_of T.d_round_of ["word"] (spT ⟨K, nb, T.ca, T.tb⟩ 1 f_round_of) :=
  fn_ok (g := ⟨K, nb, T.ca, T.tb⟩) (k := 4) (b := b_round_of) (N := N_round_of) (ps := ["word"]) T.F_round_of sc_round_of fun cdv A outer s H F0 E hr =>
    ds_cons (ds_expr (by exact de_call (ps := ["value", "part"]) (fn := f_need_word) (ok_need_word T) (hr.mono (by decide)) (by rfl) T.m_need_word T.F_need_word.kp T.b_need_word (passS (pass_own rfl rfl rfl rfl)) (da_cons (do_of (de_var (pv 0))) (da_cons (do_of (de_con pe_str (fun _ => .str _))) (da_nil))))) (ds_one (ds_ret (by exact de_call (ps := ["word"]) (fn := f_least_word) (ok_least_word T) (hr.mono (by decide)) (by rfl) T.m_least_word T.F_least_word.kp T.b_least_word (passS (pass_own rfl rfl rfl rfl)) (da_cons (do_of (de_var (pv 0))) (da_nil)))))
end
end K35

end
section
set_option Elab.async false
set_option linter.all false
set_option maxRecDepth 100000
set_option autoImplicit false
set_option maxHeartbeats 0
open PySem PySem.Spec PyProof.Rows L2 TL
namespace K35
section
variable {P : Program} {w : World} {K : PySem.W.Frag} {mg : Str → Option Value} {base : Heap} {nb : Addr}
theorem ok_law_word_right (T : Tab K mg) : FnOk P w K mg base (L2.CX P w) 6 T.a_law_word_right T.d_law_word_right ["_law_word_here"] (spT ⟨K, nb, T.ca, T.tb⟩ 1 f_law_word_right) :=
  fn_ok (g := ⟨K, nb, T.ca, T.tb⟩) (k := 5) (b := b_law_word_right) (N := N_law_word_right) (ps := ["_law_word_here"]) T.F_law_word_right sc_law_word_right fun cdv A outer s H F0 E hr =>
    ds_cons (ds_par3E rfl sc_law_word_right.nd rfl rfl rfl (by decide) (by decide) (by decide) rfl rfl rfl (de_callTy call_tuple_ofF (p_tuple rfl) (by rfl) T.z_tuple bt_tuple (da_cons (do_of (by exact de_call (ps := ["_law_word_here"]) (fn := f_law_over) (ok_law_over T) (hr.mono (by decide)) (by rfl) T.m_law_over T.F_law_over.kp T.b_law_over (passS (pass_own rfl rfl rfl rfl)) (da_cons (do_of (de_var (pv 0))) (da_nil)))) (da_nil))) (by exact de_call (ps := ["_law_word_here"]) (fn := f_law_least) (ok_law_least T) (hr.mono (by decide)) (by rfl) T.m_law_least T.F_law_least.kp T.b_law_least (passS (pass_own rfl rfl rfl rfl)) (da_cons (do_of (de_var (pv 0))) (da_nil))) (de_callTy call_list_of (p_list rfl) (by rfl) T.z_list bt_list (da_cons (do_var (pv 0)) (da_nil))) (by rfl)) (ds_cons (ds_if ((dw_or (dt_cmp op_isnotA p_isnot (do_of (by exact de_call (ps := ["value"]) (fn := f_is_word) (ok_is_word T) (hr.mono (by decide)) (by rfl) T.m_is_word T.F_is_word.kp T.b_is_word (passS (pass_own rfl rfl rfl rfl)) (da_cons (do_of (de_var (pv 0))) (da_nil)))) (do_of (de_con pe_bl (fun _ => .bl _))) (nomark _)) (dw_or (dt_cmp op_isnotA p_isnot (do_of (by exact de_callKW0 (ps := ["value"]) (fn := f_is_word) (ks := ["value"]) (pm := [0]) (ok_is_word T) (hr.mono (by decide)) (by rfl) T.m_is_word T.F_is_word.kp T.k_is_word_value ⟨rfl, by decide⟩ (passS (pass_own rfl rfl rfl rfl)) (dk_cons (do_of (de_callTy call_tuple_ofF (p_tuple rfl) (by rfl) T.z_tuple bt_tuple (da_cons (do_var (pv 0)) (da_nil)))) (dk_nil)))) (do_of (de_con pe_bl (fun _ => .bl _))) (nomark _)) (dw_or (dt_cmp (op_neD hr.units) (p_ne rfl) (do_of (by exact de_call (ps := ["word"]) (fn := f_turned_word) (ok_turned_word T) (hr.mono (by decide)) (by rfl) T.m_turned_word T.F_turned_word.kp T.b_turned_word (passS (pass_own rfl rfl rfl rfl)) (da_cons (do_of (de_var (pv 0))) (da_nil)))) (do_var (pv 1)) (nomark _)) (dw_or1 (dt_cmp (op_neD hr.units) (p_ne rfl) (do_of (by exact de_callKW0 (ps := ["word"]) (fn := f_turned_word) (ks := ["word"]) (pm := [0]) (ok_turned_word T) (hr.mono (by decide)) (by rfl) T.m_turned_word T.F_turned_word.kp T.k_turned_word_word ⟨rfl, by decide⟩ (passS (pass_own rfl rfl rfl rfl)) (dk_cons (do_of (de_var (pv 1))) (dk_nil)))) (do_of (de_callTy call_tuple_ofF (p_tuple rfl) (by rfl) T.z_tuple bt_tuple (da_cons (do_var (pv 0)) (da_nil)))) (nomark _)))))).pt) (ds_one (ds_ret (de_con pe_bl (fun _ => .bl _)))) (ds_nil)) (ds_cons (ds_if ((dw_or (dt_cmp (op_neD hr.units) (p_ne rfl) (do_of (by exact de_call (ps := ["word"]) (fn := f_round_of) (ok_round_of T) (hr.mono (by decide)) (by rfl) T.m_round_of T.F_round_of.kp T.b_round_of (passS (pass_own rfl rfl rfl rfl)) (da_cons (do_of (de_var (pv 0))) (da_nil)))) (do_var (pv 2)) (nomark _)) (dw_or (dt_cmp (op_neD hr.units) (p_ne rfl) (do_of (by exact de_callKW0 (ps := ["word"]) (fn := f_round_of) (ks := ["word"]) (pm := [0]) (ok_round_of T) (hr.mono (by decide)) (by rfl) T.m_round_of T.F_round_of.kp T.k_round_of_word ⟨rfl, by decide⟩ (passS (pass_own rfl rfl rfl rfl)) (dk_cons (do_of (de_var (pv 1))) (dk_nil)))) (do_var (pv 2)) (nomark _)) (dw_or (dt_cmp (op_neD hr.units) (p_ne rfl) (do_of (by exact de_call (ps := ["word"]) (fn := f_round_of) (ok_round_of T) (hr.mono (by decide)) (by rfl) T.m_round_of T.F_round_of.kp T.b_round_of (passS (pass_own rfl rfl rfl rfl)) (da_cons (do_of (de_var (pv 2))) (da_nil)))) (do_var (pv 2)) (nomark _)) (dw_or1 (dt_cmp (op_neD hr.units) (p_ne rfl) (do_of (by exact de_call (ps := ["word"]) (fn := f_turned_word) (ok_turned_word T) (hr.mono (by decide)) (by rfl) T.m_turned_word T.F_turned_word.kp T.b_turned_word (passS (pass_own rfl rfl rfl rfl)) (da_cons (do_of (de_callTy call_list_of (p_list rfl) (by rfl) T.z_list bt_list (da_cons (do_var (pv 1)) (da_nil)))) (da_nil)))) (do_of (de_callTy call_tuple_ofF (p_tuple rfl) (by rfl) T.z_tuple bt_tuple (da_cons (do_var (pv 3)) (da_nil)))) (nomark _)))))).pt) (ds_one (ds_ret (de_con pe_bl (fun _ => .bl _)))) (ds_nil)) (ds_cons (ds_for (passes_of rfl) rfl (di_rng1 (by rfl) T.z_range (do_of (de_callB call_len (p_len rfl) (by rfl) T.z_len bt_len (da_cons (do_var (pv 0)) (da_nil))))) (dg_nm (pg_name (i := 4) sc_law_word_right.nd rfl (by first | exact .inl rfl | exact .inr rfl))) (ds_one (ds_if ((dw_or (dt_cmp (op_neD hr.units) (p_ne rfl) (do_of (by exact de_call (ps := ["word"]) (fn := f_round_of) (ok_round_of T) (hr.mono (by decide)) (by rfl) T.m_round_of T.F_round_of.kp T.b_round_of (passS (pass_own rfl rfl rfl rfl)) (da_cons (do_of (de_bin op_addA (p_add rfl) (do_of (de_sl sl_all (p_sl rfl) (do_var (pv 0)) (db_some (do_var (pv 4))) (db_none))) (do_of (de_sl sl_all (p_sl rfl) (do_var (pv 0)) (db_none) (db_some (do_var (pv 4))))))) (da_nil)))) (do_var (pv 2)) (nomark _)) (dw_or1 (dt_cmp (op_neD hr.units) (p_ne rfl) (do_of (by exact de_call (ps := ["word"]) (fn := f_round_of) (ok_round_of T) (hr.mono (by decide)) (by rfl) T.m_round_of T.F_round_of.kp T.b_round_of (passS (pass_own rfl rfl rfl rfl)) (da_cons (do_of (de_bin op_addA (p_add rfl) (do_of (de_sl sl_all (p_sl rfl) (do_var (pv 1)) (db_some (do_var (pv 4))) (db_none))) (do_of (de_sl sl_all (p_sl rfl) (do_var (pv 1)) (db_none) (db_some (do_var (pv 4))))))) (da_nil)))) (do_var (pv 2)) (nomark _)))).pt) (ds_one (ds_ret (de_con pe_bl (fun _ => .bl _)))) (ds_nil)))) (ds_cons (ds_if ((dw_or (dt_cmp (op_neD hr.units) (p_ne rfl) (do_var (pv 0)) (do_var (pv 3)) (nomark _)) (dw_or (dt_not (dt_val (de_isi rfl (by rfl) T.z_isinstance (do_of (by exact de_call (ps := ["word"]) (fn := f_round_of) (ok_round_of T) (hr.mono (by decide)) (by rfl) T.m_round_of T.F_round_of.kp T.b_round_of (passS (pass_own rfl rfl rfl rfl)) (da_cons (do_of (de_var (pv 0))) (da_nil)))) (by rfl) T.z_tuple bt_tuple))) (dw_or1 (dt_not (dt_val (de_isi rfl (by rfl) T.z_isinstance (do_of (by exact de_call (ps := ["word"]) (fn := f_turned_word) (ok_turned_word T) (hr.mono (by decide)) (by rfl) T.m_turned_word T.F_turned_word.kp T.b_turned_word (passS (pass_own rfl rfl rfl rfl)) (da_cons (do_of (de_var (pv 0))) (da_nil)))) (by rfl) T.z_tuple bt_tuple)))))).pt) (ds_one (ds_ret (de_con pe_bl (fun _ => .bl _)))) (ds_nil)) (ds_cons (ds_if ((dw_and (dt_cmp (op_eqD hr.units) (p_eq rfl) (do_of (by exact de_comp (own := [("_law_sign", 5)]) rfl sc_law_word_right.nd (di_seq rfl (do_of (de_var (pv 0)))) (blkOk_by (own := [("_law_sign", 5)]) (N := N_law_word_right) (sc := defScope st_law_word_right) (by decide +kernel)) (fun _ _ _ _ _ => dg_nm (pg_name (i := 5) sc_law_word_right.nd rfl (by first | exact .inl rfl | exact .inr rfl))) (fun _ _ _ _ _ => dts_one (dt_cmp (op_eqD hr.units) (p_eq rfl) (do_of (de_callB call_len (p_len rfl) (by rfl) T.z_len bt_len (da_cons (do_var (pv 5)) (da_nil)))) (do_of (de_con pe_int (fun _ => .int _))) (nomark _))) (fun _ _ _ _ _ => de_var (pv 5)))) (do_of (de_lst (da_nil))) (nomark _)) (dw_and1 (dt_cmp (op_neD hr.units) (p_ne rfl) (do_of (by exact de_comp (own := [("_law_sign", 5)]) rfl sc_law_word_right.nd (di_seq rfl (do_of (de_var (pv 2)))) (blkOk_by (own := [("_law_sign", 5)]) (N := N_law_word_right) (sc := defScope st_law_word_right) (by decide +kernel)) (fun _ _ _ _ _ => dg_nm (pg_name (i := 5) sc_law_word_right.nd rfl (by first | exact .inl rfl | exact .inr rfl))) (fun _ _ _ _ _ => dts_one (dt_cmp (op_eqD hr.units) (p_eq rfl) (do_of (de_callB call_len (p_len rfl) (by rfl) T.z_len bt_len (da_cons (do_var (pv 5)) (da_nil)))) (do_of (de_con pe_int (fun _ => .int _))) (nomark _))) (fun _ _ _ _ _ => de_var (pv 5)))) (do_of (de_lst (da_nil))) (nomark _)))).pt) (ds_one (ds_ret (de_con pe_bl (fun _ => .bl _)))) (ds_nil)) (ds_one (ds_ret (de_or (de_cmp (op_eqD hr.units) (p_eq rfl) (do_var (pv 2)) (do_of (de_tup (da_nil))) (nomark _)) (de_one (de_cmp (op_eqD hr.units) (p_eq rfl) (do_of (de_callB call_len (p_len rfl) (by rfl) T.z_len bt_len (da_cons (do_of (de_ix ix_seq (p_ix rfl) (do_var (pv 2)) (do_of (de_con pe_int (fun _ => .int _))) (fun _ _ => rfl))) (da_nil)))) (do_of (de_con pe_int (fun _ => .int _))) (nomark _)))))))))))
end
end K35

end
section
set_option Elab.async false
set_option linter.all false
set_option maxRecDepth 100000
set_option autoImplicit false
set_option maxHeartbeats 0
open PySem PySem.Spec PyProof.Rows L2 TL
namespace K35
section
variable {P : Program} {w : World} {K : PySem.W.Frag} {mg : Str → Option Value} {base : Heap} {nb : Addr}
theorem ok_law_wind (T : Tab K mg) : FnOk P w K mg base (L2.CX P w) 1 T.a_law_wind T.d_law_wind ["_law_spool_here", "_law_many"] (spT ⟨K, nb, T.ca, T.tb⟩ 2 f_law_wind) :=
  fn_ok (g := ⟨K, nb, T.ca, T.tb⟩) (k := 0) (b := b_law_wind) (N := N_law_wind) (ps := ["_law_spool_here", "_law_many"]) T.F_law_wind sc_law_wind fun cdv A outer s H F0 E hr =>
    ds_cons (ds_if (dt_cmp (op_gtA (hu0 hr)) (p_ord rfl _ _) (do_of (de_nib (k := 2) (pv 0))) (do_of (de_con pe_int (fun _ => .int _))) (nomark _)) (ds_cons (ds_set (i := 2) sc_law_wind.nd rfl (.inl rfl) (de_nib (k := 2) (pv 0)) (.inr rfl)) (ds_cons (ds_nib (k := 2) (pv 0) (do_of (de_bin op_fdivW p_fdiv (do_of (de_callTy call_int1 p_int (by rfl) T.z_int bt_int (da_cons (do_var (pv 2)) (da_nil)))) (do_var (pv 1))))) (ds_one (ds_ret (de_bin op_mod p_mod (do_of (de_callTy call_int1 p_int (by rfl) T.z_int bt_int (da_cons (do_var (pv 2)) (da_nil)))) (do_var (pv 1))))))) (ds_nil)) (ds_cons (ds_set (i := 3) sc_law_wind.nd rfl (.inl rfl) (de_nib (k := 1) (pv 0)) (.inr rfl)) (ds_cons (ds_nib (k := 1) (pv 0) (do_of (de_bin op_addA (p_add rfl) (do_var (pv 3)) (do_of (de_con pe_int (fun _ => .int _)))))) (ds_cons (ds_set (i := 4) sc_law_wind.nd rfl (.inl rfl) (de_bin op_addA (p_add rfl) (do_of (de_bin op_mulA p_mul (do_of (de_con pe_int (fun _ => .int _))) (do_var (pv 3)))) (do_of (de_con pe_int (fun _ => .int _)))) (.inr rfl)) (ds_cons (ds_if (dt_cmp (op_neD hr.units) (p_ne rfl) (do_of (de_nib (k := 0) (pv 0))) (do_of (de_lst (da_nil))) (nomark _)) (ds_one (ds_set (i := 4) sc_law_wind.nd rfl (.inl rfl) (de_ix ix_seq (p_ix rfl) (do_of (de_nib (k := 0) (pv 0))) (do_of (de_bin op_mod p_mod (do_of (de_callTy call_int1 p_int (by rfl) T.z_int bt_int (da_cons (do_var (pv 3)) (da_nil)))) (do_of (de_callB call_len (p_len rfl) (by rfl) T.z_len bt_len (da_cons (do_of (de_nib (k := 0) (pv 0))) (da_nil)))))) (fun _ _ => rfl)) (.inr rfl))) (ds_nil)) (ds_cons (ds_if ((dw_and (dt_cmp (op_ltA (hu0 hr)) (p_ord rfl _ _) (do_var (pv 3)) (do_of (de_callB call_len (p_len rfl) (by rfl) T.z_len bt_len (da_cons (do_of (de_nib (k := 0) (pv 0))) (da_nil)))) (nomark _)) (dw_and1 (dt_cmp op_ge (p_cmp _) (do_of (de_callB call_abs p_abs (by rfl) T.z_abs bt_abs (da_cons (do_var (pv 4)) (da_nil)))) (do_of (de_bin op_pow p_pow (do_of (de_con pe_int (fun _ => .int _))) (do_of (de_con pe_int (fun _ => .int _))))) (nomark _)))).pt) (ds_cons (ds_set (i := 2) sc_law_wind.nd rfl (.inl rfl) (de_bin op_addA (p_add rfl) (do_of (de_bin op_mulA p_mul (do_of (de_con pe_int (fun _ => .int _))) (do_of (de_bin op_sub p_sub (do_of (de_callB call_abs p_abs (by rfl) T.z_abs bt_abs (da_cons (do_var (pv 4)) (da_nil)))) (do_of (de_bin op_pow p_pow (do_of (de_con pe_int (fun _ => .int _))) (do_of (de_con pe_int (fun _ => .int _))))))))) (do_of (de_callTy call_int1 p_int (by rfl) T.z_int bt_int (da_cons (do_of (de_cmp (op_ltA (hu0 hr)) (p_ord rfl _ _) (do_var (pv 4)) (do_of (de_con pe_int (fun _ => .int _))) (nomark _))) (da_nil))))) (.inr rfl)) (ds_cons (ds_nib (k := 2) (pv 0) (do_of (de_bin op_fdivW p_fdiv (do_of (de_callTy call_int1 p_int (by rfl) T.z_int bt_int (da_cons (do_var (pv 2)) (da_nil)))) (do_var (pv 1))))) (ds_one (ds_ret (de_bin op_mod p_mod (do_of (de_callTy call_int1 p_int (by rfl) T.z_int bt_int (da_cons (do_var (pv 2)) (da_nil)))) (do_var (pv 1))))))) (ds_nil)) (ds_cons (ds_set (i := 5) sc_law_wind.nd rfl (.inl rfl) (de_bin op_mod p_mod (do_of (de_callTy call_int1 p_int (by rfl) T.z_int bt_int (da_cons (do_of (de_bin op_pow p_pow (do_of (de_bin op_addA (p_add rfl) (do_of (de_bin op_addA (p_add rfl) (do_of (de_bin op_mod p_mod (do_of (de_callTy call_int1 p_int (by rfl) T.z_int bt_int (da_cons (do_var (pv 4)) (da_nil)))) (do_of (de_con pe_int (fun _ => .int _))))) (do_of (de_bin op_mulA p_mul (do_of (de_con pe_int (fun _ => .int _))) (do_var (pv 3)))))) (do_of (de_con pe_int (fun _ => .int _))))) (do_of (de_con pe_int (fun _ => .int _))))) (da_nil)))) (do_of (de_con pe_int (fun _ => .int _)))) (.inr rfl)) (ds_cons (ds_set (i := 5) sc_law_wind.nd rfl (.inl rfl) (de_bin op_mod p_mod (do_of (de_callTy call_int1 p_int (by rfl) T.z_int bt_int (da_cons (do_of (de_bin op_pow p_pow (do_of (de_bin op_addA (p_add rfl) (do_of (de_bin op_addA (p_add rfl) (do_of (de_bin op_mulA p_mul (do_var (pv 5)) (do_of (de_bin op_addA (p_add rfl) (do_of (de_bin op_mulA p_mul (do_of (de_con pe_int (fun _ => .int _))) (do_var (pv 3)))) (do_of (de_con pe_int (fun _ => .int _))))))) (do_of (de_bin op_mulA p_mul (do_of (de_bin op_mulA p_mul (do_of (de_con pe_int (fun _ => .int _))) (do_var (pv 3)))) (do_var (pv 3)))))) (do_of (de_con pe_int (fun _ => .int _))))) (do_of (de_con pe_int (fun _ => .int _))))) (da_nil)))) (do_of (de_con pe_int (fun _ => .int _)))) (.inr rfl)) (ds_one (ds_ret (de_bin op_mod p_mod (do_of (de_callTy call_int1 p_int (by rfl) T.z_int bt_int (da_cons (do_of (de_bin op_fdivW p_fdiv (do_var (pv 5)) (do_of (de_con pe_int (fun _ => .int _))))) (da_nil)))) (do_var (pv 1))))))))))))
end
end K35

end
section
set_option Elab.async false
set_option linter.all false
set_option maxRecDepth 100000
set_option autoImplicit false
set_option maxHeartbeats 0
open PySem PySem.Spec PyProof.Rows L2 TL
namespace K35
section
variable {P : Program} {w : World} {K : PySem.W.Frag} {mg : Str → Option Value} {base : Heap} {nb : Addr}
theorem ok_law_pick (T : Tab K mg) : FnOk P w K mg base (L2.CX P w) 2 T.a_law_pick T.d_law_pick ["_law_spool_here", "_law_some"] (spT ⟨K, nb, T.ca, T.tb⟩ 2 f_law_pick) :=
  fn_ok (g := ⟨K, nb, T.ca, T.tb⟩) (k := 1) (b := b_law_pick) (N := N_law_pick) (ps := ["_law_spool_here", "_law_some"]) T.F_law_pick sc_law_pick fun cdv A outer s H F0 E hr =>
    ds_one (ds_ret (de_ix ix_seq (p_ix rfl) (do_var (pv 1)) (do_of (by exact de_call (ps := ["_law_spool_here", "_law_many"]) (fn := f_law_wind) (ok_law_wind T) (hr.mono (by decide)) (by rfl) T.m_law_wind T.F_law_wind.kp T.b_law_wind (passS (pass_own rfl rfl rfl rfl)) (da_cons (do_of (de_var (pv 0))) (da_cons (do_of (de_callB call_len (p_len rfl) (by rfl) T.z_len bt_len (da_cons (do_var (pv 1)) (da_nil)))) (da_nil))))) (fun _ _ => rfl)))
end
end K35

end
section
set_option Elab.async false
set_option linter.all false
set_option maxRecDepth 100000
set_option autoImplicit false
set_option maxHeartbeats 0
open PySem PySem.Spec PyProof.Rows L2 TL
namespace K35
section
variable {P : Program} {w : World} {K : PySem.W.Frag} {mg : Str → Option Value} {base : Heap} {nb : Addr}
theorem ok_law_word (T : Tab K mg) : FnOk P w K mg base (L2.CX P w) 3 T.a_law_word T.d_law_word ["_law_spool_here", "_law_letters_here", "_law_most"] (spT ⟨K, nb, T.ca, T.tb⟩ 3 f_law_word) :=
  fn_ok (g := ⟨K, nb, T.ca, T.tb⟩) (k := 2) (b := b_law_word) (N := N_law_word) (ps := ["_law_spool_here", "_law_letters_here", "_law_most"]) T.F_law_word sc_law_word fun cdv A outer s H F0 E hr =>
    ds_cons (ds_par rfl sc_law_word.nd rfl rfl (by decide) rfl rfl (de_lst (da_nil)) (by exact de_call (ps := ["_law_spool_here", "_law_some"]) (fn := f_law_pick) (ok_law_pick T) (hr.mono (by decide)) (by rfl) T.m_law_pick T.F_law_pick.kp T.b_law_pick (passS (pass_own rfl rfl rfl rfl)) (da_cons (do_of (de_var (pv 0))) (da_cons (do_of (de_lst (da_cons (do_of (de_con pe_int (fun _ => .int _))) (da_cons (do_of (de_con pe_int (fun _ => .int _))) (da_cons (do_of (de_con pe_int (fun _ => .int _))) (da_cons (do_of (de_con pe_int (fun _ => .int _))) (da_nil))))))) (da_nil)))) (by rfl)) (ds_cons (ds_for (passes_of rfl) rfl (di_rng1 (by rfl) T.z_range (do_of (by exact de_call (ps := ["_law_spool_here", "_law_many"]) (fn := f_law_wind) (ok_law_wind T) (hr.mono (by decide)) (by rfl) T.m_law_wind T.F_law_wind.kp T.b_law_wind (passS (pass_own rfl rfl rfl rfl)) (da_cons (do_of (de_var (pv 0))) (da_cons (do_of (de_bin op_addA (p_add rfl) (do_var (pv 2)) (do_of (de_con pe_int (fun _ => .int _))))) (da_nil)))))) (dg_nm (pg_name (i := 5) sc_law_word.nd rfl (by first | exact .inl rfl | exact .inr rfl))) (ds_one (ds_expr (by refine de_meth PySem.F.slot_list_append PySem.F.type_list_append mt_append p_append (pv 3) ?_; exact (da_cons (do_of (de_bin op_addA (p_add rfl) (do_of (by exact de_call (ps := ["_law_spool_here", "_law_some"]) (fn := f_law_pick) (ok_law_pick T) (hr.mono (by decide)) (by rfl) T.m_law_pick T.F_law_pick.kp T.b_law_pick (passS (pass_own rfl rfl rfl rfl)) (da_cons (do_of (de_var (pv 0))) (da_cons (do_of (de_var (pv 1))) (da_nil))))) (do_of (de_if (dt_cmp (op_ltA (hu0 hr)) (p_ord rfl _ _) (do_of (by exact de_call (ps := ["_law_spool_here", "_law_many"]) (fn := f_law_wind) (ok_law_wind T) (hr.mono (by decide)) (by rfl) T.m_law_wind T.F_law_wind.kp T.b_law_wind (passS (pass_own rfl rfl rfl rfl)) (da_cons (do_of (de_var (pv 0))) (da_cons (do_of (de_con pe_int (fun _ => .int _))) (da_nil))))) (do_var (pv 4)) (nomark _)) (de_con pe_str (fun _ => .str _)) (de_con pe_str (fun _ => .str _)))))) (da_nil)))))) (ds_one (ds_ret (de_varR (pv 3)))))
end
end K35

end
section
set_option Elab.async false
set_option linter.all false
set_option maxRecDepth 100000
set_option autoImplicit false
set_option maxHeartbeats 0
open PySem PySem.Spec PyProof.Rows L2 TL
namespace K35
section
variable {P : Program} {w : World} {K : PySem.W.Frag} {mg : Str → Option Value} {base : Heap} {nb : Addr}
theorem ok_law_letters (T : Tab K mg) : FnOk P w K mg base (L2.CX P w) 3 T.a_law_letters T.d_law_letters ["_law_spool_here", "_law_many"] (spT ⟨K, nb, T.ca, T.tb⟩ 2 f_law_letters) :=
  fn_ok (g := ⟨K, nb, T.ca, T.tb⟩) (k := 2) (b := b_law_letters) (N := N_law_letters) (ps := ["_law_spool_here", "_law_many"]) T.F_law_letters sc_law_letters fun cdv A outer s H F0 E hr =>
    ds_one (ds_ret (by exact de_comp (own := [("_law_turn", 2)]) rfl sc_law_letters.nd (di_rng1 (by rfl) T.z_range (do_of (de_var (pv 1)))) (blkOk_by (own := [("_law_turn", 2)]) (N := N_law_letters) (sc := defScope st_law_letters) (by decide +kernel)) (fun _ _ _ _ _ => dg_nm (pg_name (i := 2) sc_law_letters.nd rfl (by first | exact .inl rfl | exact .inr rfl))) (fun _ _ _ _ _ => dts_nil) (fun _ _ _ _ _ => by exact de_call (ps := ["_law_spool_here", "_law_some"]) (fn := f_law_pick) (ok_law_pick T) (hr.mono (by decide)) (by rfl) T.m_law_pick T.F_law_pick.kp T.b_law_pick (passS passL) (da_cons (do_of (de_var (pv 0))) (da_cons (do_of (de_callTy (call_list_s rfl) p_listS (by rfl) T.z_list bt_list (da_cons (do_of (de_con pe_str (fun _ => .str _))) (da_nil)))) (da_nil))))))
end
end K35

end
section
set_option Elab.async false
set_option linter.all false
set_option maxRecDepth 100000
set_option autoImplicit false
set_option maxHeartbeats 0
open PySem PySem.Spec PyProof.Rows L2 TL
namespace K35
section
variable {P : Program} {w : World} {K : PySem.W.Frag} {mg : Str → Option Value} {base : Heap} {nb : Addr}
theorem ok_law_drawn (T : Tab K mg) : FnOk P w K mg base (L2.CX P w) 4 T.a_law_drawn T.d_law_drawn ["_law_spool_here"] (spT ⟨K, nb, T.ca, T.tb⟩ 1 f_law_drawn) :=
  fn_ok (g := ⟨K, nb, T.ca, T.tb⟩) (k := 3) (b := b_law_drawn) (N := N_law_drawn) (ps := ["_law_spool_here"]) T.F_law_drawn sc_law_drawn fun cdv A outer s H F0 E hr =>
    ds_cons (ds_set (i := 1) sc_law_drawn.nd rfl (.inl rfl) (by exact de_call (ps := ["_law_spool_here", "_law_letters_here", "_law_most"]) (fn := f_law_word) (ok_law_word T) (hr.mono (by decide)) (by rfl) T.m_law_word T.F_law_word.kp T.b_law_word (passS (pass_own rfl rfl rfl rfl)) (da_cons (do_of (de_var (pv 0))) (da_cons (do_of (by exact de_call (ps := ["_law_spool_here", "_law_many"]) (fn := f_law_letters) (ok_law_letters T) (hr.mono (by decide)) (by rfl) T.m_law_letters T.F_law_letters.kp T.b_law_letters (passS (pass_own rfl rfl rfl rfl)) (da_cons (do_of (de_var (pv 0))) (da_cons (do_of (de_bin op_addA (p_add rfl) (do_of (de_con pe_int (fun _ => .int _))) (do_of (by exact de_call (ps := ["_law_spool_here", "_law_many"]) (fn := f_law_wind) (ok_law_wind T) (hr.mono (by decide)) (by rfl) T.m_law_wind T.F_law_wind.kp T.b_law_wind (passS (pass_own rfl rfl rfl rfl)) (da_cons (do_of (de_var (pv 0))) (da_cons (do_of (de_con pe_int (fun _ => .int _))) (da_nil))))))) (da_nil))))) (da_cons (do_of (by exact de_call (ps := ["_law_spool_here", "_law_some"]) (fn := f_law_pick) (ok_law_pick T) (hr.mono (by decide)) (by rfl) T.m_law_pick T.F_law_pick.kp T.b_law_pick (passS (pass_own rfl rfl rfl rfl)) (da_cons (do_of (de_var (pv 0))) (da_cons (do_of (de_lst (da_cons (do_of (de_con pe_int (fun _ => .int _))) (da_cons (do_of (de_con pe_int (fun _ => .int _))) (da_cons (do_of (de_con pe_int (fun _ => .int _))) (da_cons (do_of (de_con pe_int (fun _ => .int _))) (da_cons (do_of (de_con pe_int (fun _ => .int _))) (da_nil)))))))) (da_nil))))) (da_nil))))) (.inr rfl)) (ds_cons (ds_set (i := 2) sc_law_drawn.nd rfl (.inl rfl) (by exact de_call (ps := ["_law_spool_here", "_law_many"]) (fn := f_law_wind) (ok_law_wind T) (hr.mono (by decide)) (by rfl) T.m_law_wind T.F_law_wind.kp T.b_law_wind (passS (pass_own rfl rfl rfl rfl)) (da_cons (do_of (de_var (pv 0))) (da_cons (do_of (de_con pe_int (fun _ => .int _))) (da_nil)))) (.inr rfl)) (ds_cons (ds_if (dt_cmp (op_eqD hr.units) (p_eq rfl) (do_var (pv 2)) (do_of (de_con pe_int (fun _ => .int _))) (nomark _)) (ds_one (ds_ret (de_bin op_addA (p_add rfl) (do_of (de_bin op_addA (p_add rfl) (do_var (pv 1)) (do_var (pv 1)))) (do_of (de_if (dt_cmp (op_ltA (hu0 hr)) (p_ord rfl _ _) (do_of (de_callB call_len (p_len rfl) (by rfl) T.z_len bt_len (da_cons (do_var (pv 1)) (da_nil)))) (do_of (de_con pe_int (fun _ => .int _))) (nomark _)) (de_var (pv 1)) (de_lst (da_nil))))))) (ds_nil)) (ds_one (ds_ret (de_if (dt_cmp (op_eqD hr.units) (p_eq rfl) (do_var (pv 2)) (do_of (de_con pe_int (fun _ => .int _))) (nomark _)) (de_bin op_addA (p_add rfl) (do_var (pv 1)) (do_of (by exact de_call (ps := ["_law_word_here"]) (fn := f_law_over) (ok_law_over T) (hr.mono (by decide)) (by rfl) T.m_law_over T.F_law_over.kp T.b_law_over (passS (pass_own rfl rfl rfl rfl)) (da_cons (do_of (de_var (pv 1))) (da_nil))))) (de_var (pv 1)))))))
end
end K35

end
section
set_option Elab.async false
set_option linter.all false
set_option maxRecDepth 100000
set_option autoImplicit false
set_option maxHeartbeats 0
open PySem PySem.Spec PyProof.Rows L2 TL
namespace K35
section
variable {P : Program} {w : World} {K : PySem.W.Frag} {mg : Str → Option Value} {base : Heap} {nb : Addr}
theorem ok_law_all (T : Tab K mg) : FnOk P w K mg base (L2.CX P w) 1 T.a_law_all T.d_law_all ["_law_letters_here", "_law_many"] (spT ⟨K, nb, T.ca, T.tb⟩ 2 f_law_all) :=
  fn_ok (g := ⟨K, nb, T.ca, T.tb⟩) (k := 0) (b := b_law_all) (N := N_law_all) (ps := ["_law_letters_here", "_law_many"]) T.F_law_all sc_law_all fun cdv A outer s H F0 E hr =>
    ds_cons (ds_par rfl sc_law_all.nd rfl rfl (by decide) rfl rfl (de_bin op_addA (p_add rfl) (do_var (pv 0)) (do_of (by exact de_comp (own := [("_law_letter", 7)]) rfl sc_law_all.nd (di_seq rfl (do_of (de_var (pv 0)))) (blkOk_by (own := [("_law_letter", 7)]) (N := N_law_all) (sc := defScope st_law_all) (by decide +kernel)) (fun _ _ _ _ _ => dg_nm (pg_name (i := 7) sc_law_all.nd rfl (by first | exact .inl rfl | exact .inr rfl))) (fun _ _ _ _ _ => dts_nil) (fun _ _ _ _ _ => de_bin op_addA (p_add rfl) (do_var (pv 7)) (do_of (de_con pe_str (fun _ => .str _))))))) (de_lst (da_cons (do_of (de_lst (da_nil))) (da_nil))) (by rfl)) (ds_cons (ds_for (passes_of rfl) rfl (di_rng1 (by rfl) T.z_range (do_of (de_var (pv 1)))) (dg_nm (pg_name (i := 4) sc_law_all.nd rfl (by first | exact .inl rfl | exact .inr rfl))) (ds_cons (ds_set (i := 5) sc_law_all.nd rfl (.inl rfl) (de_lst (da_nil)) (.inr rfl)) (ds_cons (ds_for (passes_of rfl) rfl (di_seq rfl (do_of (de_var (pv 3)))) (dg_nm (pg_name (i := 6) sc_law_all.nd rfl (by first | exact .inl rfl | exact .inr rfl))) (ds_one (ds_expr (by refine de_meth PySem.F.slot_list_extend PySem.F.type_list_extend mt_extend p_extend (pv 5) ?_; exact (da_cons (do_of (by exact de_comp (own := [("_law_sign", 8)]) rfl sc_law_all.nd (di_seq rfl (do_of (de_var (pv 2)))) (blkOk_by (own := [("_law_sign", 8)]) (N := N_law_all) (sc := defScope st_law_all) (by decide +kernel)) (fun _ _ _ _ _ => dg_nm (pg_name (i := 8) sc_law_all.nd rfl (by first | exact .inl rfl | exact .inr rfl))) (fun _ _ _ _ _ => dts_nil) (fun _ _ _ _ _ => de_bin op_addA (p_add rfl) (do_var (pv 6)) (do_of (de_lst (da_cons (do_of (de_var (pv 8))) (da_nil))))))) (da_nil)))))) (ds_one (ds_set (i := 3) sc_law_all.nd rfl (.inl rfl) (de_var (pv 5)) (.inr rfl)))))) (ds_one (ds_ret (de_varR (pv 3)))))
end
end K35

end
section
set_option Elab.async false
set_option linter.all false
set_option maxRecDepth 100000
set_option autoImplicit false
set_option maxHeartbeats 0
open PySem PySem.Spec PyProof.Rows L2 TL
namespace K35
section
variable {P : Program} {w : World} {K : PySem.W.Frag} {mg : Str → Option Value} {base : Heap} {nb : Addr}
theorem ok_law_refused_right (T : Tab K mg) (TB : TabL T base) : FnOk P w K mg base (L2.CX P w) 8 T.a_law_refused_right T.d_law_refused_right ["_law_spool_here"] (spT ⟨K, nb, T.ca, T.tb⟩ 1 f_law_refused_right) :=
  fn_okC (g := ⟨K, nb, T.ca, T.tb⟩) (k := 7) (b := b_law_refused_right) (N := N_law_refused_right) (ps := ["_law_spool_here"]) T.FC_law_refused_right sc_law_refused_right fun A outer s H F0 E hr =>
    ds_cons (ds_set (i := 1) sc_law_refused_right.nd rfl (.inl rfl) (by exact de_call (ps := ["_law_spool_here", "_law_some"]) (fn := f_law_pick) (ok_law_pick T) (hr.mono (by decide)) (by rfl) T.m_law_pick T.F_law_pick.kp T.b_law_pick (passS (pass_own rfl rfl rfl rfl)) (da_cons (do_of (de_var (pv 0))) (da_cons (do_of (de_callTy (call_list_s rfl) p_listS (by rfl) T.z_list bt_list (da_cons (do_of (de_con pe_str (fun _ => .str _))) (da_nil)))) (da_nil)))) (.inr rfl)) (ds_cons (ds_set (i := 2) sc_law_refused_right.nd rfl (.inr rfl) (de_lst (da_cons (do_of (de_var (pv 1))) (da_cons (do_of (de_bin op_addA (p_add rfl) (do_var (pv 1)) (do_var (pv 1)))) (da_cons (do_of (de_con pe_non (fun _ => .non))) (da_cons (do_of (de_con pe_int (fun _ => .int _))) (da_cons (do_of (de_con pe_bl (fun _ => .bl _))) (da_cons (do_of (de_dnew)) (da_cons (do_of (de_dicV (pv 1) (pv 1))) (da_cons (do_of (de_lst (da_cons (do_of (by exact de_upper (do_var (pv 1)))) (da_nil)))) (da_cons (do_of (de_lst (da_cons (do_of (de_bin op_addA (p_add rfl) (do_var (pv 1)) (do_of (de_con pe_str (fun _ => .str _))))) (da_nil)))) (da_cons (do_of (de_lst (da_cons (do_of (de_bin op_addA (p_add rfl) (do_of (de_con pe_str (fun _ => .str _))) (do_var (pv 1)))) (da_nil)))) (da_cons (do_of (de_lst (da_cons (do_of (de_con pe_str (fun _ => .str _))) (da_nil)))) (da_cons (do_of (de_lst (da_cons (do_of (de_con pe_str (fun _ => .str _))) (da_nil)))) (da_cons (do_of (de_lst (da_cons (do_of (de_bin op_addA (p_add rfl) (do_var (pv 1)) (do_var (pv 1)))) (da_nil)))) (da_nil))))))))))))))) (.inl rfl)) (ds_cons (ds_set (i := 2) sc_law_refused_right.nd rfl (.inr rfl) (de_bin op_addA (p_add rfl) (do_var (pv 2)) (do_of (de_lst (da_cons (do_of (de_lst (da_cons (do_of (de_con pe_int (fun _ => .int _))) (da_nil)))) (da_cons (do_of (de_lst (da_cons (do_of (de_con pe_non (fun _ => .non))) (da_nil)))) (da_cons (do_of (de_lst (da_cons (do_of (de_var (pv 1))) (da_cons (do_of (de_lst (da_cons (do_of (de_var (pv 1))) (da_nil)))) (da_nil))))) (da_cons (do_of (de_lst (da_cons (do_of (de_bin op_addA (p_add rfl) (do_var (pv 1)) (do_of (de_con pe_str (fun _ => .str _))))) (da_nil)))) (da_cons (do_of (de_lst (da_cons (do_of (de_con pe_str (fun _ => .str _))) (da_nil)))) (da_cons (do_of (de_lst (da_cons (do_of (de_var (pv 1))) (da_cons (do_of (de_bin op_addA (p_add rfl) (do_var (pv 1)) (do_of (de_con pe_str (fun _ => .str _))))) (da_nil))))) (da_cons (do_of (de_lst (da_cons (do_of (de_var (pv 1))) (da_cons (do_of (de_con pe_bl (fun _ => .bl _))) (da_nil))))) (da_cons (do_of (de_con pe_str (fun _ => .str _))) (da_cons (do_of (de_lst (da_cons (do_of (de_var (pv 1))) (da_cons (do_of (de_con pe_str (fun _ => .str _))) (da_nil))))) (da_cons (do_of (de_lst (da_cons (do_of (de_con pe_str (fun _ => .str _))) (da_nil)))) (da_cons (do_of (de_lst (da_cons (do_of (de_con pe_str (fun _ => .str _))) (da_nil)))) (da_cons (do_of (de_lst (da_cons (do_of (de_bin op_addA (p_add rfl) (do_var (pv 1)) (do_of (de_con pe_str (fun _ => .str _))))) (da_nil)))) (da_cons (do_of (de_lst (da_cons (do_of (de_var (pv 1))) (da_cons (do_of (de_bin op_addA (p_add rfl) (do_var (pv 1)) (do_of (de_con pe_str (fun _ => .str _))))) (da_nil))))) (da_nil))))))))))))))))) (.inl rfl)) (ds_cons (ds_for (passes_of rfl) rfl (di_seq rfl (do_of (by exact de_comp (own := [("_law_turn", 4)]) rfl sc_law_refused_right.nd (di_rng1 (by rfl) T.z_range (do_of (de_con pe_int (fun _ => .int _)))) (blkOk_by (own := [("_law_turn", 4)]) (N := N_law_refused_right) (sc := defScope st_law_refused_right) (by decide +kernel)) (fun _ _ _ _ _ => dg_nm (pg_name (i := 4) sc_law_refused_right.nd rfl (by first | exact .inl rfl | exact .inr rfl))) (fun _ _ _ _ _ => dts_nil) (fun _ _ _ _ _ => by exact de_call (ps := ["_law_spool_here", "_law_some"]) (fn := f_law_pick) (ok_law_pick T) (hr.mono (by decide)) (by rfl) T.m_law_pick T.F_law_pick.kp T.b_law_pick (passS passL) (da_cons (do_of (de_var (pv 0))) (da_cons (do_of (de_var (pv 2))) (da_nil))))))) (dg_nm (pg_name (i := 3) sc_law_refused_right.nd rfl (by first | exact .inl rfl | exact .inr rfl))) (ds_cons (ds_if ((dw_or (dt_cmp op_isnotA p_isnot (do_of (by exact de_call (ps := ["value"]) (fn := f_is_word) (ok_is_word T) (hr.mono (by decide)) (by rfl) T.m_is_word T.F_is_word.kp T.b_is_word (passS (pass_own rfl rfl rfl rfl)) (da_cons (do_of (de_var (pv 3))) (da_nil)))) (do_of (de_con pe_bl (fun _ => .bl _))) (nomark _)) (dw_or1 (dt_cmp (op_neD hr.units) (p_ne rfl) (do_of (by exact de_lam (k := 5) (Ng := N_law_heard) (by rfl) T.m_law_heard T.F_law_heard T.b_law_heard sc_law_heard rfl (by first | exact .inl rfl | exact .inr rfl) (fun cdv => gives_law_heard T rfl rfl) TB.tb_law_refused_right rfl (T.tbm_law_refused_right _ rfl) T.tbu_law_refused_right (hr.mono (by decide)) (LamX.lamS_by (by show LamX.lamSB (defScope st_law_refused_right) _ = true; decide +kernel)) rfl (fun _ _ _ _ _ => rfl) (fun A outer s H E f c' B hr => by exact de_call (ps := ["word"]) (fn := f_turned_word) (ok_turned_word T) (hr.mono (by decide)) (by rfl) T.m_turned_word T.F_turned_word.kp T.b_turned_word (passS (pass_own rfl rfl rfl rfl)) (da_cons (do_of (de_var (pv 3))) (da_nil))))) (do_of (de_con pe_str (fun _ => .str _))) (nomark _)))).pt) (ds_one (ds_ret (de_con pe_bl (fun _ => .bl _)))) (ds_nil)) (ds_one (ds_if (dt_cmp (op_neD hr.units) (p_ne rfl) (do_of (by exact de_comp (own := [("_law_heard_here", 5)]) rfl sc_law_refused_right.nd (di_seq rfl (do_of (de_lst (da_cons (do_of (by exact de_lam (k := 5) (Ng := N_law_heard) (by rfl) T.m_law_heard T.F_law_heard T.b_law_heard sc_law_heard rfl (by first | exact .inl rfl | exact .inr rfl) (fun cdv => gives_law_heard T rfl rfl) TB.tb_law_refused_right rfl (T.tbm_law_refused_right _ rfl) T.tbu_law_refused_right (hr.mono (by decide)) (LamX.lamS_by (by show LamX.lamSB (defScope st_law_refused_right) _ = true; decide +kernel)) rfl (fun _ _ _ _ _ => rfl) (fun A outer s H E f c' B hr => by exact de_call (ps := ["word"]) (fn := f_round_of) (ok_round_of T) (hr.mono (by decide)) (by rfl) T.m_round_of T.F_round_of.kp T.b_round_of (passS (pass_own rfl rfl rfl rfl)) (da_cons (do_of (de_var (pv 3))) (da_nil))))) (da_nil))))) (blkOk_by (own := [("_law_heard_here", 5)]) (N := N_law_refused_right) (sc := defScope st_law_refused_right) (by decide +kernel)) (fun _ _ _ _ _ => dg_nm (pg_name (i := 5) sc_law_refused_right.nd rfl (by first | exact .inl rfl | exact .inr rfl))) (fun _ _ _ _ _ => dts_one (dt_cmp (op_neD hr.units) (p_ne rfl) (do_var (pv 5)) (do_of (de_con pe_str (fun _ => .str _))) (nomark _))) (fun _ _ _ _ _ => de_con pe_int (fun _ => .int _)))) (do_of (de_lst (da_nil))) (nomark _)) (ds_one (ds_ret (de_con pe_bl (fun _ => .bl _)))) (ds_nil))))) (ds_one (ds_ret (de_con pe_bl (fun _ => .bl _)))))))
end
end K35

end
section
set_option Elab.async false
set_option linter.all false
set_option maxRecDepth 100000
set_option autoImplicit false
set_option maxHeartbeats 0
open PySem PySem.Spec PyProof.Rows L2 TL
namespace K35
section
variable {P : Program} {w : World} {K : PySem.W.Frag} {mg : Str → Option Value} {base : Heap} {nb : Addr}
theorem ok_law_spool (T : Tab K mg) : FnOk P w K mg base (L2.CX P w) 1 T.a_law_spool T.d_law_spool ["_law_script"] (spCanN 60 K) := by
  refine T.F_law_spool.okX (k := 0) sc_law_spool (fun vs H Q E h => by obtain ⟨a, ns, rfl, _⟩ := h; rfl) (fun cdv A outer s H vs Q E hr h => ?_)
  obtain ⟨a, ns, rfl, hS, hl, q⟩ := h
  refine ⟨_, pss_one (ps_ret (pe_lst (pa_cons (pe_lc (own := [("_law_cell", 1)]) (g := gName 1) (tt := tYes) rfl sc_law_spool.nd (pi_list (pe_slice sl_list (pv 0) po_none (po_some pe_int))) (blkOk_by (N := N_law_spool) (sc := defScope st_law_spool) (by decide +kernel)) (fun _ _ _ _ _ => pg_name (i := 1) sc_law_spool.nd rfl (Or.inl rfl)) (fun _ _ _ _ _ => pts_nil) (fun _ _ _ _ _ => pe_callTy call_int1 (by rfl) T.z_int bt_int (pa_cons (pv 1) pa_nil))) (pa_cons pe_int (pa_cons pe_int pa_nil))))), ?_⟩
  refine ⟨_, rfl, 60, rfl, a, _, rfl, hS, fun c hc => ⟨c, rfl, ⟨_, .inl (.inl upd_same)⟩, fun D hD => ?_⟩⟩
  have e : cutV (ns.map V.int) none (some 60) = (ns.take 60).map V.int := by rw [List.map_take]; exact cut_take _ 60
  have s1 : Same H (upd H c (.lst (cutV (ns.map V.int) none (some 60)))) := lst_new hc
  refine can_lc (te := tCB (fun xs H Q => (∃ i, xs = [.int i] ∧ Q (.int i) H) ∨ ∃ k, xs = [.bl k] ∧ Q (.int (if k then 1 else 0)) H) (tCons (tVar 1) tNil)) (σ := start N_law_spool [.ref a]) (K := K) (c := c) (D := D) (ns := ns.take 60) (by rw [List.length_take]; omega) (by rw [upd_same, e]) hD (fun σ2 i H Q h1 h2 => ⟨_, h1, .inl ⟨i, rfl, h2⟩⟩) (by show 1 < 2; decide) (fun H' s2 hD' => ?_)
  refine ⟨by show 3 ≤ sizeLine; decide, fun p np => ?_⟩
  have npD : p ≠ D := fun z => by subst z; rw [hD'] at np; cases np
  exact q _ p D (fun b x h => lst_new np _ _ (s2 _ _ (s1 _ _ h))) npD upd_same (by rw [upd_ne (Ne.symm npD)]; exact hD')
def LawHolds : Prop := ∀ ns : List Int, ns.length ≤ 63 → (∀ z ∈ ns, Builtin.Int.intBits z ≤ 1048576) → ∃ S', b_law ⟨.no :: .sh .nib :: List.replicate 3 .no, [], ⟨ns.take 60, 0, 0⟩⟩ = .ok (.rt (.sh (.bl true))) S'
theorem ok_law (hL : LawHolds) (T : Tab K mg) (TB : TabL T base) : FnOk P w K mg base (L2.CX P w) 9 T.a_law T.d_law ["_law_script"] (spLaw K T.tb) := by
  refine T.F_law.okX (k := 8) sc_law (fun vs H Q E h => by obtain ⟨a, ns, rfl, _⟩ := h; rfl) (fun cdv A outer s H vs Q E hr h => ?_)
  obtain ⟨a, ns, rfl, hS, hl, hb, ht, q⟩ := h
  refine ⟨_, pss_cons (ps_set (i := 1) sc_law.nd rfl (.inl rfl) (pe_call (ok_law_spool T) (hr.mono (by decide)) (by rfl) T.m_law_spool T.F_law_spool.kp T.b_law_spool .nil (pass_own rfl rfl rfl rfl) (pa_cons (pv 0) pa_nil))) (pss_nb (c := cLaw K T.ca T.tb E) (f := b_law) fun nb => ?_), law_read (n := 5) (m := 60) rfl hS hl ht q (hL ns hl hb) rfl⟩
  exact ds_cons (ds_for (passes_of rfl) rfl (di_rng1 (by rfl) T.z_range (do_of (de_con pe_int (fun _ => .int _)))) (dg_nm (pg_name (i := 2) sc_law.nd rfl (by first | exact .inl rfl | exact .inr rfl))) (ds_one (ds_if (dt_not (dt_val (by exact de_call (ps := ["_law_word_here"]) (fn := f_law_word_right) (ok_law_word_right T) (hr.mono (by decide)) (by rfl) T.m_law_word_right T.F_law_word_right.kp T.b_law_word_right (passS (pass_own rfl rfl rfl rfl)) (da_cons (do_of (by exact de_call (ps := ["_law_spool_here"]) (fn := f_law_drawn) (ok_law_drawn T) (hr.mono (by decide)) (by rfl) T.m_law_drawn T.F_law_drawn.kp T.b_law_drawn (passS (pass_own rfl rfl rfl rfl)) (da_cons (do_of (de_var (pv 1))) (da_nil)))) (da_nil))))) (ds_one (ds_ret (de_con pe_bl (fun _ => .bl _)))) (ds_nil)))) (ds_cons (ds_set (i := 3) sc_law.nd rfl (.inl rfl) (by exact de_call (ps := ["_law_spool_here", "_law_many"]) (fn := f_law_letters) (ok_law_letters T) (hr.mono (by decide)) (by rfl) T.m_law_letters T.F_law_letters.kp T.b_law_letters (passS (pass_own rfl rfl rfl rfl)) (da_cons (do_of (de_var (pv 1))) (da_cons (do_of (de_con pe_int (fun _ => .int _))) (da_nil)))) (.inr rfl)) (ds_cons (ds_if (dt_cmp (op_neD hr.units) (p_ne rfl) (do_of (by exact de_comp (own := [("_law_word_here", 4)]) rfl sc_law.nd (di_seq rfl (do_of (by exact de_call (ps := ["_law_letters_here", "_law_many"]) (fn := f_law_all) (ok_law_all T) (hr.mono (by decide)) (by rfl) T.m_law_all T.F_law_all.kp T.b_law_all (passS (pass_own rfl rfl rfl rfl)) (da_cons (do_of (de_if (dt_cmp (op_neD hr.units) (p_ne rfl) (do_of (de_ix ix_seq (p_ix rfl) (do_var (pv 3)) (do_of (de_con pe_int (fun _ => .int _))) (fun _ _ => rfl))) (do_of (de_ix ix_seq (p_ix rfl) (do_var (pv 3)) (do_of (de_con pe_int (fun _ => .int _))) (fun _ _ => rfl))) (nomark _)) (de_var (pv 3)) (de_sl sl_all (p_sl rfl) (do_var (pv 3)) (db_none) (db_some (do_of (de_con pe_int (fun _ => .int _))))))) (da_cons (do_of (by exact de_call (ps := ["_law_spool_here", "_law_some"]) (fn := f_law_pick) (ok_law_pick T) (hr.mono (by decide)) (by rfl) T.m_law_pick T.F_law_pick.kp T.b_law_pick (passS (pass_own rfl rfl rfl rfl)) (da_cons (do_of (de_var (pv 1))) (da_cons (do_of (de_lst (da_cons (do_of (de_con pe_int (fun _ => .int _))) (da_cons (do_of (de_con pe_int (fun _ => .int _))) (da_cons (do_of (de_con pe_int (fun _ => .int _))) (da_cons (do_of (de_con pe_int (fun _ => .int _))) (da_nil))))))) (da_nil))))) (da_nil)))))) (blkOk_by (own := [("_law_word_here", 4)]) (N := N_law) (sc := defScope st_law) (by decide +kernel)) (fun _ _ _ _ _ => dg_nm (pg_name (i := 4) sc_law.nd rfl (by first | exact .inl rfl | exact .inr rfl))) (fun _ _ _ _ _ => dts_one (dt_not (dt_val (by exact de_call (ps := ["_law_word_here"]) (fn := f_law_word_right) (ok_law_word_right T) (hr.mono (by decide)) (by rfl) T.m_law_word_right T.F_law_word_right.kp T.b_law_word_right (passS passL) (da_cons (do_of (de_var (pv 4))) (da_nil)))))) (fun _ _ _ _ _ => de_var (pv 4)))) (do_of (de_lst (da_nil))) (nomark _)) (ds_one (ds_ret (de_con pe_bl (fun _ => .bl _)))) (ds_nil)) (ds_cons (ds_if ((dw_or (dt_not (dt_val (by exact de_call (ps := ["_law_word_here"]) (fn := f_law_word_right) (ok_law_word_right T) (hr.mono (by decide)) (by rfl) T.m_law_word_right T.F_law_word_right.kp T.b_law_word_right (passS (pass_own rfl rfl rfl rfl)) (da_cons (do_of (de_lst (da_nil))) (da_nil))))) (dw_or1 (dt_not (dt_val (by exact de_call (ps := ["_law_spool_here"]) (fn := f_law_refused_right) (ok_law_refused_right T TB) (hr.mono (by decide)) (by rfl) T.m_law_refused_right T.kp_law_refused_right T.b_law_refused_right (passS (pass_own rfl rfl rfl rfl)) (da_cons (do_of (de_var (pv 1))) (da_nil))))))).pt) (ds_one (ds_ret (de_con pe_bl (fun _ => .bl _)))) (ds_nil)) (ds_one (ds_ret (de_and (de_cmp (op_eqD hr.units) (p_eq rfl) (do_of (by exact de_call (ps := ["word"]) (fn := f_round_of) (ok_round_of T) (hr.mono (by decide)) (by rfl) T.m_round_of T.F_round_of.kp T.b_round_of (passS (pass_own rfl rfl rfl rfl)) (da_cons (do_of (de_lst (da_cons (do_of (de_con pe_str (fun _ => .str _))) (da_cons (do_of (de_con pe_str (fun _ => .str _))) (da_cons (do_of (de_con pe_str (fun _ => .str _))) (da_nil)))))) (da_nil)))) (do_of (de_tup (da_cons (do_of (de_con pe_str (fun _ => .str _))) (da_cons (do_of (de_con pe_str (fun _ => .str _))) (da_cons (do_of (de_con pe_str (fun _ => .str _))) (da_nil)))))) (nomark _)) (de_one (de_cmp (op_eqD hr.units) (p_eq rfl) (do_of (by exact de_call (ps := ["word"]) (fn := f_round_of) (ok_round_of T) (hr.mono (by decide)) (by rfl) T.m_round_of T.F_round_of.kp T.b_round_of (passS (pass_own rfl rfl rfl rfl)) (da_cons (do_of (de_tup (da_cons (do_of (de_con pe_str (fun _ => .str _))) (da_cons (do_of (de_con pe_str (fun _ => .str _))) (da_nil))))) (da_nil)))) (do_of (de_tup (da_cons (do_of (de_con pe_str (fun _ => .str _))) (da_cons (do_of (de_con pe_str (fun _ => .str _))) (da_nil))))) (nomark _)))))))))
end
def tab_mk {K : PySem.W.Frag} {h : Heap} {mg : Str → Option Value} (X : K.In h) (G : h.Ns mainGlobals mg)
    {f0 : Addr} {od0 an0 : Option Addr} {sl0 : Array (Option Value)} {oc0 kV0 dc0 pm0 ct0 : Value}
    {cd0 : Value}
    {f1 : Addr} {od1 an1 : Option Addr} {sl1 : Array (Option Value)} {oc1 kV1 dc1 pm1 ct1 : Value}
    {cd1 : Value}
    {f2 : Addr} {od2 an2 : Option Addr} {sl2 : Array (Option Value)} {oc2 kV2 dc2 pm2 ct2 : Value}
    {cd2 : Value}
    {f3 : Addr} {od3 an3 : Option Addr} {sl3 : Array (Option Value)} {oc3 kV3 dc3 pm3 ct3 : Value}
    {cd3 : Value}
    {f4 : Addr} {od4 an4 : Option Addr} {sl4 : Array (Option Value)} {oc4 kV4 dc4 pm4 ct4 : Value}
    {cd4 : Value}
    {f5 : Addr} {od5 an5 : Option Addr} {sl5 : Array (Option Value)} {oc5 kV5 dc5 pm5 ct5 : Value}
    {cd5 : Value}
    {f6 : Addr} {od6 an6 : Option Addr} {sl6 : Array (Option Value)} {oc6 kV6 dc6 pm6 ct6 : Value}
    {cd6 : Value}
    {f7 : Addr} {od7 an7 : Option Addr} {sl7 : Array (Option Value)} {oc7 kV7 dc7 pm7 ct7 : Value}
    {cd7 : Value}
    {f8 : Addr} {od8 an8 : Option Addr} {sl8 : Array (Option Value)} {oc8 kV8 dc8 pm8 ct8 : Value}
    {cd8 : Value}
    {f9 : Addr} {od9 an9 : Option Addr} {sl9 : Array (Option Value)} {oc9 kV9 dc9 pm9 ct9 : Value}
    {cd9 : Value}
    {f10 : Addr} {od10 an10 : Option Addr} {sl10 : Array (Option Value)} {oc10 kV10 dc10 pm10 ct10 : Value}
    {cd10 : Value}
    {f11 : Addr} {od11 an11 : Option Addr} {sl11 : Array (Option Value)} {oc11 kV11 dc11 pm11 ct11 : Value}
    {cd11 : Value}
    {f12 : Addr} {od12 an12 : Option Addr} {sl12 : Array (Option Value)} {oc12 kV12 dc12 pm12 ct12 : Value}
    {cd12 : Value}
    {f13 : Addr} {od13 an13 : Option Addr} {sl13 : Array (Option Value)} {oc13 kV13 dc13 pm13 ct13 : Value}
    {cd13 : Value}
    {f14 : Addr} {od14 an14 : Option Addr} {sl14 : Array (Option Value)} {oc14 kV14 dc14 pm14 ct14 : Value}
    {cd14 : Value}
    {f15 : Addr} {od15 an15 : Option Addr} {sl15 : Array (Option Value)} {oc15 kV15 dc15 pm15 ct15 : Value}
    {cd15 : Value}
    {f16 : Addr} {od16 an16 : Option Addr} {sl16 : Array (Option Value)} {oc16 kV16 dc16 pm16 ct16 : Value}
    {cd16 : Value}
    {f17 : Addr} {od17 an17 : Option Addr} {sl17 : Array (Option Value)} {oc17 kV17 dc17 pm17 ct17 : Value}
    {cd17 : Value}
    {f18 : Addr} {od18 an18 : Option Addr} {sl18 : Array (Option Value)} {oc18 kV18 dc18 pm18 ct18 : Value}
    {cd18 : Value}
    {f19 : Addr} {od19 an19 : Option Addr} {sl19 : Array (Option Value)} {oc19 kV19 dc19 pm19 ct19 : Value}
    {cd19 : Value}
    {f20 : Addr} {od20 an20 : Option Addr} {sl20 : Array (Option Value)} {oc20 kV20 dc20 pm20 ct20 : Value}
    {cd20 : Value}
    {f21 : Addr} {od21 an21 : Option Addr} {sl21 : Array (Option Value)} {oc21 kV21 dc21 pm21 ct21 : Value}
    {cc21 P21 : Addr} {oC21 : Value} {oD21 : Option Addr} {oS21 : Array (Option Value)} {vs21 : Array Value}
    {f22 : Addr} {od22 an22 : Option Addr} {sl22 : Array (Option Value)} {oc22 kV22 dc22 pm22 ct22 : Value}
    {cd22 : Value}
    {f23 : Addr} {od23 an23 : Option Addr} {sl23 : Array (Option Value)} {oc23 kV23 dc23 pm23 ct23 : Value}
    {cd23 : Value}
    {X_SizeError : Addr}
    {X_BadWord : Addr}
    {nm_BadWord qn_BadWord : Str} {N_BadWord : Addr} {bs_BadWord : List Value} {sn_BadWord : List Str} {su_BadWord : List Value} {ab_BadWord : Bool} {co_BadWord : Option Bool} {dd_BadWord : Option Addr} {m0_BadWord m1_BadWord m2_BadWord m3_BadWord m5_BadWord : Option Value}
    {I_BadWord : Addr} {oi_BadWord ki_BadWord di_BadWord pi_BadWord ci_BadWord ti_BadWord : Value} {odi_BadWord ani_BadWord : Option Addr} {sli_BadWord : Array (Option Value)}
    {tk_LETTERS : Tok}
    {tk_STROKE : Tok}
    (a0 : PySem.W.nsIn K mainGlobals "_law_spool" = some (some (.ref f0)))
    (l0 : K.lookup f0 = some ⟨oc0, od0, .func (PySem.W.fnOf "_law_spool" "_law_spool" (defArgs st_law_spool) (defBody st_law_spool) (defScope st_law_spool) .none kV0 dc0 pm0 an0 cd0 ct0), sl0⟩)
    (c0 : PySem.W.codeIn K cd0 "_law_spool" = true)
    (k0 : PySem.W.keepIn K (.ref f0) = true)
    (a1 : PySem.W.nsIn K mainGlobals "_law_over" = some (some (.ref f1)))
    (l1 : K.lookup f1 = some ⟨oc1, od1, .func (PySem.W.fnOf "_law_over" "_law_over" (defArgs st_law_over) (defBody st_law_over) (defScope st_law_over) .none kV1 dc1 pm1 an1 cd1 ct1), sl1⟩)
    (c1 : PySem.W.codeIn K cd1 "_law_over" = true)
    (k1 : PySem.W.keepIn K (.ref f1) = true)
    (a2 : PySem.W.nsIn K mainGlobals "_law_rank" = some (some (.ref f2)))
    (l2 : K.lookup f2 = some ⟨oc2, od2, .func (PySem.W.fnOf "_law_rank" "_law_rank" (defArgs st_law_rank) (defBody st_law_rank) (defScope st_law_rank) .none kV2 dc2 pm2 an2 cd2 ct2), sl2⟩)
    (c2 : PySem.W.codeIn K cd2 "_law_rank" = true)
    (k2 : PySem.W.keepIn K (.ref f2) = true)
    (a3 : PySem.W.nsIn K mainGlobals "_law_least" = some (some (.ref f3)))
    (l3 : K.lookup f3 = some ⟨oc3, od3, .func (PySem.W.fnOf "_law_least" "_law_least" (defArgs st_law_least) (defBody st_law_least) (defScope st_law_least) .none kV3 dc3 pm3 an3 cd3 ct3), sl3⟩)
    (c3 : PySem.W.codeIn K cd3 "_law_least" = true)
    (k3 : PySem.W.keepIn K (.ref f3) = true)
    (a4 : PySem.W.nsIn K mainGlobals "is_letter" = some (some (.ref f4)))
    (l4 : K.lookup f4 = some ⟨oc4, od4, .func (PySem.W.fnOf "is_letter" "is_letter" (defArgs st_is_letter) (defBody st_is_letter) (defScope st_is_letter) .none kV4 dc4 pm4 an4 cd4 ct4), sl4⟩)
    (c4 : PySem.W.codeIn K cd4 "is_letter" = true)
    (k4 : PySem.W.keepIn K (.ref f4) = true)
    (a5 : PySem.W.nsIn K mainGlobals "is_sign" = some (some (.ref f5)))
    (l5 : K.lookup f5 = some ⟨oc5, od5, .func (PySem.W.fnOf "is_sign" "is_sign" (defArgs st_is_sign) (defBody st_is_sign) (defScope st_is_sign) .none kV5 dc5 pm5 an5 cd5 ct5), sl5⟩)
    (c5 : PySem.W.codeIn K cd5 "is_sign" = true)
    (k5 : PySem.W.keepIn K (.ref f5) = true)
    (a6 : PySem.W.nsIn K mainGlobals "is_word" = some (some (.ref f6)))
    (l6 : K.lookup f6 = some ⟨oc6, od6, .func (PySem.W.fnOf "is_word" "is_word" (defArgs st_is_word) (defBody st_is_word) (defScope st_is_word) .none kV6 dc6 pm6 an6 cd6 ct6), sl6⟩)
    (c6 : PySem.W.codeIn K cd6 "is_word" = true)
    (k6 : PySem.W.keepIn K (.ref f6) = true)
    (a7 : PySem.W.nsIn K mainGlobals "need_word" = some (some (.ref f7)))
    (l7 : K.lookup f7 = some ⟨oc7, od7, .func (PySem.W.fnOf "need_word" "need_word" (defArgs st_need_word) (defBody st_need_word) (defScope st_need_word) .none kV7 dc7 pm7 an7 cd7 ct7), sl7⟩)
    (c7 : PySem.W.codeIn K cd7 "need_word" = true)
    (k7 : PySem.W.keepIn K (.ref f7) = true)
    (a8 : PySem.W.nsIn K mainGlobals "turned_sign" = some (some (.ref f8)))
    (l8 : K.lookup f8 = some ⟨oc8, od8, .func (PySem.W.fnOf "turned_sign" "turned_sign" (defArgs st_turned_sign) (defBody st_turned_sign) (defScope st_turned_sign) .none kV8 dc8 pm8 an8 cd8 ct8), sl8⟩)
    (c8 : PySem.W.codeIn K cd8 "turned_sign" = true)
    (k8 : PySem.W.keepIn K (.ref f8) = true)
    (a9 : PySem.W.nsIn K mainGlobals "turned_over" = some (some (.ref f9)))
    (l9 : K.lookup f9 = some ⟨oc9, od9, .func (PySem.W.fnOf "turned_over" "turned_over" (defArgs st_turned_over) (defBody st_turned_over) (defScope st_turned_over) .none kV9 dc9 pm9 an9 cd9 ct9), sl9⟩)
    (c9 : PySem.W.codeIn K cd9 "turned_over" = true)
    (k9 : PySem.W.keepIn K (.ref f9) = true)
    (a10 : PySem.W.nsIn K mainGlobals "turned_word" = some (some (.ref f10)))
    (l10 : K.lookup f10 = some ⟨oc10, od10, .func (PySem.W.fnOf "turned_word" "turned_word" (defArgs st_turned_word) (defBody st_turned_word) (defScope st_turned_word) .none kV10 dc10 pm10 an10 cd10 ct10), sl10⟩)
    (c10 : PySem.W.codeIn K cd10 "turned_word" = true)
    (k10 : PySem.W.keepIn K (.ref f10) = true)
    (a11 : PySem.W.nsIn K mainGlobals "begun_anew" = some (some (.ref f11)))
    (l11 : K.lookup f11 = some ⟨oc11, od11, .func (PySem.W.fnOf "begun_anew" "begun_anew" (defArgs st_begun_anew) (defBody st_begun_anew) (defScope st_begun_anew) .none kV11 dc11 pm11 an11 cd11 ct11), sl11⟩)
    (c11 : PySem.W.codeIn K cd11 "begun_anew" = true)
    (k11 : PySem.W.keepIn K (.ref f11) = true)
    (a12 : PySem.W.nsIn K mainGlobals "least_word" = some (some (.ref f12)))
    (l12 : K.lookup f12 = some ⟨oc12, od12, .func (PySem.W.fnOf "least_word" "least_word" (defArgs st_least_word) (defBody st_least_word) (defScope st_least_word) .none kV12 dc12 pm12 an12 cd12 ct12), sl12⟩)
    (c12 : PySem.W.codeIn K cd12 "least_word" = true)
    (k12 : PySem.W.keepIn K (.ref f12) = true)
    (a13 : PySem.W.nsIn K mainGlobals "round_of" = some (some (.ref f13)))
    (l13 : K.lookup f13 = some ⟨oc13, od13, .func (PySem.W.fnOf "round_of" "round_of" (defArgs st_round_of) (defBody st_round_of) (defScope st_round_of) .none kV13 dc13 pm13 an13 cd13 ct13), sl13⟩)
    (c13 : PySem.W.codeIn K cd13 "round_of" = true)
    (k13 : PySem.W.keepIn K (.ref f13) = true)
    (a14 : PySem.W.nsIn K mainGlobals "_law_word_right" = some (some (.ref f14)))
    (l14 : K.lookup f14 = some ⟨oc14, od14, .func (PySem.W.fnOf "_law_word_right" "_law_word_right" (defArgs st_law_word_right) (defBody st_law_word_right) (defScope st_law_word_right) .none kV14 dc14 pm14 an14 cd14 ct14), sl14⟩)
    (c14 : PySem.W.codeIn K cd14 "_law_word_right" = true)
    (k14 : PySem.W.keepIn K (.ref f14) = true)
    (a15 : PySem.W.nsIn K mainGlobals "_law_wind" = some (some (.ref f15)))
    (l15 : K.lookup f15 = some ⟨oc15, od15, .func (PySem.W.fnOf "_law_wind" "_law_wind" (defArgs st_law_wind) (defBody st_law_wind) (defScope st_law_wind) .none kV15 dc15 pm15 an15 cd15 ct15), sl15⟩)
    (c15 : PySem.W.codeIn K cd15 "_law_wind" = true)
    (k15 : PySem.W.keepIn K (.ref f15) = true)
    (a16 : PySem.W.nsIn K mainGlobals "_law_pick" = some (some (.ref f16)))
    (l16 : K.lookup f16 = some ⟨oc16, od16, .func (PySem.W.fnOf "_law_pick" "_law_pick" (defArgs st_law_pick) (defBody st_law_pick) (defScope st_law_pick) .none kV16 dc16 pm16 an16 cd16 ct16), sl16⟩)
    (c16 : PySem.W.codeIn K cd16 "_law_pick" = true)
    (k16 : PySem.W.keepIn K (.ref f16) = true)
    (a17 : PySem.W.nsIn K mainGlobals "_law_word" = some (some (.ref f17)))
    (l17 : K.lookup f17 = some ⟨oc17, od17, .func (PySem.W.fnOf "_law_word" "_law_word" (defArgs st_law_word) (defBody st_law_word) (defScope st_law_word) .none kV17 dc17 pm17 an17 cd17 ct17), sl17⟩)
    (c17 : PySem.W.codeIn K cd17 "_law_word" = true)
    (k17 : PySem.W.keepIn K (.ref f17) = true)
    (a18 : PySem.W.nsIn K mainGlobals "_law_letters" = some (some (.ref f18)))
    (l18 : K.lookup f18 = some ⟨oc18, od18, .func (PySem.W.fnOf "_law_letters" "_law_letters" (defArgs st_law_letters) (defBody st_law_letters) (defScope st_law_letters) .none kV18 dc18 pm18 an18 cd18 ct18), sl18⟩)
    (c18 : PySem.W.codeIn K cd18 "_law_letters" = true)
    (k18 : PySem.W.keepIn K (.ref f18) = true)
    (a19 : PySem.W.nsIn K mainGlobals "_law_drawn" = some (some (.ref f19)))
    (l19 : K.lookup f19 = some ⟨oc19, od19, .func (PySem.W.fnOf "_law_drawn" "_law_drawn" (defArgs st_law_drawn) (defBody st_law_drawn) (defScope st_law_drawn) .none kV19 dc19 pm19 an19 cd19 ct19), sl19⟩)
    (c19 : PySem.W.codeIn K cd19 "_law_drawn" = true)
    (k19 : PySem.W.keepIn K (.ref f19) = true)
    (a20 : PySem.W.nsIn K mainGlobals "_law_all" = some (some (.ref f20)))
    (l20 : K.lookup f20 = some ⟨oc20, od20, .func (PySem.W.fnOf "_law_all" "_law_all" (defArgs st_law_all) (defBody st_law_all) (defScope st_law_all) .none kV20 dc20 pm20 an20 cd20 ct20), sl20⟩)
    (c20 : PySem.W.codeIn K cd20 "_law_all" = true)
    (k20 : PySem.W.keepIn K (.ref f20) = true)
    (a21 : PySem.W.nsIn K mainGlobals "_law_refused_right" = some (some (.ref f21)))
    (l21 : K.lookup f21 = some ⟨oc21, od21, .func (PySem.W.fnOf "_law_refused_right" "_law_refused_right" (defArgs st_law_refused_right) (defBody st_law_refused_right) (defScope st_law_refused_right) .none kV21 dc21 pm21 an21 (.ref cc21) ct21), sl21⟩)
    (c21 : PySem.W.codeIn K (.ref cc21) "_law_refused_right" = true)
    (k21 : PySem.W.keepIn K (.ref f21) = true)
    (lc21 : K.lookup cc21 = some ⟨oC21, oD21, .fields vs21, oS21⟩)
    (v21 : vs21[11]? = some (.ref P21))
    (a22 : PySem.W.nsIn K mainGlobals "law" = some (some (.ref f22)))
    (l22 : K.lookup f22 = some ⟨oc22, od22, .func (PySem.W.fnOf "law" "law" (defArgs st_law) (defBody st_law) (defScope st_law) .none kV22 dc22 pm22 an22 cd22 ct22), sl22⟩)
    (c22 : PySem.W.codeIn K cd22 "law" = true)
    (k22 : PySem.W.keepIn K (.ref f22) = true)
    (a23 : PySem.W.nsIn K mainGlobals "_law_heard" = some (some (.ref f23)))
    (l23 : K.lookup f23 = some ⟨oc23, od23, .func (PySem.W.fnOf "_law_heard" "_law_heard" (defArgs st_law_heard) (defBody st_law_heard) (defScope st_law_heard) .none kV23 dc23 pm23 an23 cd23 ct23), sl23⟩)
    (c23 : PySem.W.codeIn K cd23 "_law_heard" = true)
    (k23 : PySem.W.keepIn K (.ref f23) = true)
    (xa_SizeError : PySem.W.nsIn K mainGlobals "SizeError" = some (some (.ref X_SizeError)))
    (eC_SizeError : PySem.W.subIn K (.ref X_SizeError) (.type "BaseException") = some true)
    (tC_SizeError : PySem.W.typeIn K (.ref X_SizeError) = some (.type "type"))
    (hC_SizeError : PySem.W.hasDictIn K X_SizeError = true)
    (sC_SizeError : PySem.W.subIn K (.ref X_SizeError) (.ref X_SizeError) = some true)
    (xa_BadWord : PySem.W.nsIn K mainGlobals "BadWord" = some (some (.ref X_BadWord)))
    (eC_BadWord : PySem.W.subIn K (.ref X_BadWord) (.type "BaseException") = some true)
    (tC_BadWord : PySem.W.typeIn K (.ref X_BadWord) = some (.type "type"))
    (hC_BadWord : PySem.W.hasDictIn K X_BadWord = true)
    (sC_BadWord : PySem.W.subIn K (.ref X_BadWord) (.ref X_BadWord) = some true)
    (xl_BadWord : K.lookup X_BadWord = some (excClassObj nm_BadWord qn_BadWord X_BadWord N_BadWord bs_BadWord [.ref X_SizeError, .type "ValueError", .type "Exception", .type "BaseException", .type "object"] true sn_BadWord su_BadWord ab_BadWord co_BadWord dd_BadWord m0_BadWord m1_BadWord m2_BadWord m3_BadWord m5_BadWord "ValueError.__new__"))
    (sa_BadWord : PySem.W.findIn K (.ref X_BadWord) "__setattr__" = some (some (.builtin "object.__setattr__")))
    (ga_BadWord : PySem.W.findIn K (.ref X_BadWord) "__getattribute__" = some (some (.builtin "BaseException.__getattribute__")))
    (gg_BadWord : PySem.W.findIn K (.ref X_BadWord) "__getattr__" = some none)
    (cl_BadWord : PySem.W.findIn K (.ref X_BadWord) "__class__" = some (some (.builtin "object.__class__")))
    (kC_BadWord : PySem.W.keepIn K (.ref X_BadWord) = true)
    (mo_BadWord : PySem.W.mroIn K X_BadWord (.type "object") = some true)
    (in_BadWord : PySem.W.findIn K (.ref X_BadWord) "__init__" = some (some (.ref I_BadWord)))
    (it_BadWord : PySem.W.typeIn K (.ref I_BadWord) = some (.type "function"))
    (il_BadWord : K.lookup I_BadWord = some ⟨oi_BadWord, odi_BadWord, .func (PySem.W.fnOf "__init__" "BadWord.__init__" (defArgs st_init_BadWord) (defBody st_init_BadWord) (defScope st_init_BadWord) .none ki_BadWord di_BadWord pi_BadWord ani_BadWord ci_BadWord ti_BadWord), sli_BadWord⟩)
    (ik_BadWord : PySem.W.keepIn K (.ref I_BadWord) = true)
    (ic_BadWord : PySem.W.codeIn K ci_BadWord "BadWord.__init__" = true)
    (no_BadWord_part : PySem.W.findIn K (.ref X_BadWord) "part" = some none)
    (sN_BadWord : PySem.W.subIn K (.type "NoneType") (.ref X_BadWord) = some false)
    (s_BadWord_SizeError : PySem.W.subIn K (.ref X_BadWord) (.ref X_SizeError) = some true)
    (spG : PySem.W.specialIn K (.builtin "object.__class__") "__get__" = some (some (.builtin "getset_descriptor.__get__")))
    (tkG : PySem.W.takesIn K (.builtin "object.__class__") = some true)
    (z_abs : PySem.W.nsIn K mainGlobals "abs" = some none)
    (z_all : PySem.W.nsIn K mainGlobals "all" = some none)
    (z_int : PySem.W.nsIn K mainGlobals "int" = some none)
    (z_isinstance : PySem.W.nsIn K mainGlobals "isinstance" = some none)
    (z_len : PySem.W.nsIn K mainGlobals "len" = some none)
    (z_list : PySem.W.nsIn K mainGlobals "list" = some none)
    (z_min : PySem.W.nsIn K mainGlobals "min" = some none)
    (z_range : PySem.W.nsIn K mainGlobals "range" = some none)
    (z_str : PySem.W.nsIn K mainGlobals "str" = some none)
    (z_tuple : PySem.W.nsIn K mainGlobals "tuple" = some none)
    (g_LETTERS : PySem.W.nsIn K mainGlobals "LETTERS" = some (some (.str "abcdefghijklmnopqrstuvwxyz" tk_LETTERS)))
    (g_STROKE : PySem.W.nsIn K mainGlobals "STROKE" = some (some (.str "'" tk_STROKE))) : Tab K mg where
  X_SizeError := X_SizeError
  G_SizeError := PySem.W.mg_of X G xa_SizeError
  X_BadWord := X_BadWord
  G_BadWord := PySem.W.mg_of X G xa_BadWord
  I_BadWord := I_BadWord
  DI_BadWord := _
  FI_BadWord := fun_mk (st := st_init_BadWord) il_BadWord ic_BadWord ik_BadWord
  B_BadWord := (fun_mk (st := st_init_BadWord) il_BadWord ic_BadWord ik_BadWord).binds (ps := ["self", "part"]) fun _ _ _ _ _ _ us hl => match us, hl with | [_, _], _ => rfl
  E_BadWord := ⟨PySem.W.mg_of X G xa_BadWord, oex_mk xl_BadWord (by show PySem.HandSPX.refsVE [.type "ValueError", .type "Exception", .type "BaseException", .type "object"] = true; decide +kernel) sa_BadWord eC_BadWord tC_BadWord kC_BadWord, ⟨ga_BadWord, gg_BadWord, eC_BadWord, hC_BadWord, cl_BadWord, spG, tkG, mo_BadWord⟩, in_BadWord, it_BadWord⟩
  no_BadWord_part := no_BadWord_part
  kitN_BadWord := kit_ty2 hC_BadWord tC_BadWord sN_BadWord
  kit_BadWord_BadWord := kit_own hC_BadWord tC_BadWord sC_BadWord sC_BadWord
  exm_BadWord_SizeError := exm_own eC_SizeError hC_SizeError tC_SizeError s_BadWord_SizeError
  a_law_spool := f0
  d_law_spool := _
  F_law_spool := fun_mk (st := st_law_spool) l0 c0 k0
  m_law_spool := PySem.W.mg_of X G a0
  b_law_spool := (fun_mk (st := st_law_spool) l0 c0 k0).binds (ps := ["_law_script"]) fun _ _ _ _ _ _ us hl => match us, hl with | [_], _ => rfl
  a_law_over := f1
  d_law_over := _
  F_law_over := fun_mk (st := st_law_over) l1 c1 k1
  m_law_over := PySem.W.mg_of X G a1
  b_law_over := (fun_mk (st := st_law_over) l1 c1 k1).binds (ps := ["_law_word_here"]) fun _ _ _ _ _ _ us hl => match us, hl with | [_], _ => rfl
  a_law_rank := f2
  d_law_rank := _
  F_law_rank := fun_mk (st := st_law_rank) l2 c2 k2
  m_law_rank := PySem.W.mg_of X G a2
  b_law_rank := (fun_mk (st := st_law_rank) l2 c2 k2).binds (ps := ["_law_word_here"]) fun _ _ _ _ _ _ us hl => match us, hl with | [_], _ => rfl
  a_law_least := f3
  d_law_least := _
  F_law_least := fun_mk (st := st_law_least) l3 c3 k3
  m_law_least := PySem.W.mg_of X G a3
  b_law_least := (fun_mk (st := st_law_least) l3 c3 k3).binds (ps := ["_law_word_here"]) fun _ _ _ _ _ _ us hl => match us, hl with | [_], _ => rfl
  a_is_letter := f4
  d_is_letter := _
  F_is_letter := fun_mk (st := st_is_letter) l4 c4 k4
  m_is_letter := PySem.W.mg_of X G a4
  b_is_letter := (fun_mk (st := st_is_letter) l4 c4 k4).binds (ps := ["value"]) fun _ _ _ _ _ _ us hl => match us, hl with | [_], _ => rfl
  a_is_sign := f5
  d_is_sign := _
  F_is_sign := fun_mk (st := st_is_sign) l5 c5 k5
  m_is_sign := PySem.W.mg_of X G a5
  b_is_sign := (fun_mk (st := st_is_sign) l5 c5 k5).binds (ps := ["value"]) fun _ _ _ _ _ _ us hl => match us, hl with | [_], _ => rfl
  a_is_word := f6
  d_is_word := _
  F_is_word := fun_mk (st := st_is_word) l6 c6 k6
  m_is_word := PySem.W.mg_of X G a6
  b_is_word := (fun_mk (st := st_is_word) l6 c6 k6).binds (ps := ["value"]) fun _ _ _ _ _ _ us hl => match us, hl with | [_], _ => rfl
  a_need_word := f7
  d_need_word := _
  F_need_word := fun_mk (st := st_need_word) l7 c7 k7
  m_need_word := PySem.W.mg_of X G a7
  b_need_word := (fun_mk (st := st_need_word) l7 c7 k7).binds (ps := ["value", "part"]) fun _ _ _ _ _ _ us hl => match us, hl with | [_, _], _ => rfl
  a_turned_sign := f8
  d_turned_sign := _
  F_turned_sign := fun_mk (st := st_turned_sign) l8 c8 k8
  m_turned_sign := PySem.W.mg_of X G a8
  b_turned_sign := (fun_mk (st := st_turned_sign) l8 c8 k8).binds (ps := ["sign"]) fun _ _ _ _ _ _ us hl => match us, hl with | [_], _ => rfl
  a_turned_over := f9
  d_turned_over := _
  F_turned_over := fun_mk (st := st_turned_over) l9 c9 k9
  m_turned_over := PySem.W.mg_of X G a9
  b_turned_over := (fun_mk (st := st_turned_over) l9 c9 k9).binds (ps := ["word"]) fun _ _ _ _ _ _ us hl => match us, hl with | [_], _ => rfl
  a_turned_word := f10
  d_turned_word := _
  F_turned_word := fun_mk (st := st_turned_word) l10 c10 k10
  m_turned_word := PySem.W.mg_of X G a10
  b_turned_word := (fun_mk (st := st_turned_word) l10 c10 k10).binds (ps := ["word"]) fun _ _ _ _ _ _ us hl => match us, hl with | [_], _ => rfl
  a_begun_anew := f11
  d_begun_anew := _
  F_begun_anew := fun_mk (st := st_begun_anew) l11 c11 k11
  m_begun_anew := PySem.W.mg_of X G a11
  b_begun_anew := (fun_mk (st := st_begun_anew) l11 c11 k11).binds (ps := ["word"]) fun _ _ _ _ _ _ us hl => match us, hl with | [_], _ => rfl
  a_least_word := f12
  d_least_word := _
  F_least_word := fun_mk (st := st_least_word) l12 c12 k12
  m_least_word := PySem.W.mg_of X G a12
  b_least_word := (fun_mk (st := st_least_word) l12 c12 k12).binds (ps := ["word"]) fun _ _ _ _ _ _ us hl => match us, hl with | [_], _ => rfl
  a_round_of := f13
  d_round_of := _
  F_round_of := fun_mk (st := st_round_of) l13 c13 k13
  m_round_of := PySem.W.mg_of X G a13
  b_round_of := (fun_mk (st := st_round_of) l13 c13 k13).binds (ps := ["word"]) fun _ _ _ _ _ _ us hl => match us, hl with | [_], _ => rfl
  a_law_word_right := f14
  d_law_word_right := _
  F_law_word_right := fun_mk (st := st_law_word_right) l14 c14 k14
  m_law_word_right := PySem.W.mg_of X G a14
  b_law_word_right := (fun_mk (st := st_law_word_right) l14 c14 k14).binds (ps := ["_law_word_here"]) fun _ _ _ _ _ _ us hl => match us, hl with | [_], _ => rfl
  a_law_wind := f15
  d_law_wind := _
  F_law_wind := fun_mk (st := st_law_wind) l15 c15 k15
  m_law_wind := PySem.W.mg_of X G a15
  b_law_wind := (fun_mk (st := st_law_wind) l15 c15 k15).binds (ps := ["_law_spool_here", "_law_many"]) fun _ _ _ _ _ _ us hl => match us, hl with | [_, _], _ => rfl
  a_law_pick := f16
  d_law_pick := _
  F_law_pick := fun_mk (st := st_law_pick) l16 c16 k16
  m_law_pick := PySem.W.mg_of X G a16
  b_law_pick := (fun_mk (st := st_law_pick) l16 c16 k16).binds (ps := ["_law_spool_here", "_law_some"]) fun _ _ _ _ _ _ us hl => match us, hl with | [_, _], _ => rfl
  a_law_word := f17
  d_law_word := _
  F_law_word := fun_mk (st := st_law_word) l17 c17 k17
  m_law_word := PySem.W.mg_of X G a17
  b_law_word := (fun_mk (st := st_law_word) l17 c17 k17).binds (ps := ["_law_spool_here", "_law_letters_here", "_law_most"]) fun _ _ _ _ _ _ us hl => match us, hl with | [_, _, _], _ => rfl
  a_law_letters := f18
  d_law_letters := _
  F_law_letters := fun_mk (st := st_law_letters) l18 c18 k18
  m_law_letters := PySem.W.mg_of X G a18
  b_law_letters := (fun_mk (st := st_law_letters) l18 c18 k18).binds (ps := ["_law_spool_here", "_law_many"]) fun _ _ _ _ _ _ us hl => match us, hl with | [_, _], _ => rfl
  a_law_drawn := f19
  d_law_drawn := _
  F_law_drawn := fun_mk (st := st_law_drawn) l19 c19 k19
  m_law_drawn := PySem.W.mg_of X G a19
  b_law_drawn := (fun_mk (st := st_law_drawn) l19 c19 k19).binds (ps := ["_law_spool_here"]) fun _ _ _ _ _ _ us hl => match us, hl with | [_], _ => rfl
  a_law_all := f20
  d_law_all := _
  F_law_all := fun_mk (st := st_law_all) l20 c20 k20
  m_law_all := PySem.W.mg_of X G a20
  b_law_all := (fun_mk (st := st_law_all) l20 c20 k20).binds (ps := ["_law_letters_here", "_law_many"]) fun _ _ _ _ _ _ us hl => match us, hl with | [_, _], _ => rfl
  a_law_refused_right := f21
  d_law_refused_right := _
  cc_law_refused_right := cc21
  P_law_refused_right := P21
  FC_law_refused_right := funC_mk (st := st_law_refused_right) l21 c21
  kp_law_refused_right := k21
  ti_law_refused_right := tabIn_of a21 l21 lc21 v21
  m_law_refused_right := PySem.W.mg_of X G a21
  b_law_refused_right := (fun_mk (st := st_law_refused_right) l21 c21 k21).binds (ps := ["_law_spool_here"]) fun _ _ _ _ _ _ us hl => match us, hl with | [_], _ => rfl
  a_law := f22
  d_law := _
  F_law := fun_mk (st := st_law) l22 c22 k22
  m_law := PySem.W.mg_of X G a22
  b_law := (fun_mk (st := st_law) l22 c22 k22).binds (ps := ["_law_script"]) fun _ _ _ _ _ _ us hl => match us, hl with | [_], _ => rfl
  a_law_heard := f23
  d_law_heard := _
  F_law_heard := fun_mk (st := st_law_heard) l23 c23 k23
  m_law_heard := PySem.W.mg_of X G a23
  b_law_heard := (fun_mk (st := st_law_heard) l23 c23 k23).binds (ps := ["_law_ask"]) fun _ _ _ _ _ _ us hl => match us, hl with | [_], _ => rfl
  k_is_word_value := bindsK (fun_mk (st := st_is_word) l6 c6 k6) fun _ _ _ _ _ _ us ws h1 h2 => bk_is_word_value us ws h1 h2
  k_round_of_word := bindsK (fun_mk (st := st_round_of) l13 c13 k13) fun _ _ _ _ _ _ us ws h1 h2 => bk_round_of_word us ws h1 h2
  k_turned_word_word := bindsK (fun_mk (st := st_turned_word) l10 c10 k10) fun _ _ _ _ _ _ us ws h1 h2 => bk_turned_word_word us ws h1 h2
  z_abs := PySem.W.mg_none_of X G z_abs
  z_all := PySem.W.mg_none_of X G z_all
  z_int := PySem.W.mg_none_of X G z_int
  z_isinstance := PySem.W.mg_none_of X G z_isinstance
  z_len := PySem.W.mg_none_of X G z_len
  z_list := PySem.W.mg_none_of X G z_list
  z_min := PySem.W.mg_none_of X G z_min
  z_range := PySem.W.mg_none_of X G z_range
  z_str := PySem.W.mg_none_of X G z_str
  z_tuple := PySem.W.mg_none_of X G z_tuple
  tk_LETTERS := tk_LETTERS
  c_LETTERS := PySem.W.mg_of X G g_LETTERS
  tk_STROKE := tk_STROKE
  c_STROKE := PySem.W.mg_of X G g_STROKE
theorem law_fact (hL : LawHolds) {l : PySem.W.OpenLaw} {w : World} {K : PySem.W.Frag} {mg : Str → Option Value} {fa : Addr} {h : Heap} (T : Tab K mg) (hfa : mg "law" = some (.ref fa)) (hb : ∀ (s : Shared) (v : Value), BindsTo s T.d_law ⟨[v], []⟩ [("_law_script", v)]) {q : Program} (own : Tabs0 q K h) (hR_law_refused_right : ((recsOf q).any fun e => e.name == "_law_refused_right") = true) (hN_law_refused_right : K.lookup T.P_law_refused_right = none) :
    LamX.LawAtS l w K (L2.CX l.prog w) 9 63 "_law_script" mg fa h := by
  have e := hfa.symm.trans T.m_law
  cases e
  refine ⟨T.d_law, [(T.cc_law_refused_right, T.P_law_refused_right)], spLaw K T.tb, (fun p hp => by rw [List.mem_singleton.mp hp]; exact (own _ _ _ hR_law_refused_right T.ti_law_refused_right).2), (fun p hp => by rw [List.mem_singleton.mp hp]; exact hN_law_refused_right), (fun p hp => by rw [List.mem_singleton.mp hp]; exact (own _ _ _ hR_law_refused_right T.ti_law_refused_right).1), hb, fun H a ns hl hbits hT hS => ⟨a, ns, rfl, hS, hl, hbits, fun p hp => by rw [List.mem_singleton.mp hp]; exact LamX.TabS.nil (hT _ List.mem_cons_self), fun _ => rfl⟩, fun base _ _ hB => ok_law hL T ⟨hB _ List.mem_cons_self⟩⟩
end K35

end
section
set_option Elab.async false
set_option linter.all false
set_option maxRecDepth 100000
set_option autoImplicit false
set_option maxHeartbeats 400000
open PySem PySem.Spec PyProof.Rows L2
open TL hiding eqT neT
namespace K35
local macro_rules | `(tactic| trivial) => `(tactic| simp -implicitDefEqProofs only [w_callBF, kCallB_ap, gCallB_ap, gFRB_ok, lf_int, lf_tn, lf_tr, lf_bl, w_setDF, kSetD_ap, gSetD0_ap, kSetD2_ap, gSetD_ap, w_okB, w_excB, w_dicF, w_starA, kStar_l, kStar_t, kStar2_ap, vals_star, w_callKF, kCallK_ap, kCallK2_ap, gCallK_ap, prm_nil, w_tryF, kTry_ok, kTry_exc, gTry_t, gTry_f, kTry2_ap, w_raiseF, kRaise_ap, gRaise_ap, w_par3F, kPar3a_ap, kPar3b_ap, kPar3c_ap, gPar_exc, gPar_exc1, w_slF, kSl1_ap, kSl2_ap, kSl3_ap, w_someB, kSome_ap, w_noB, w_rngI2, kRng2_ap, List.nil_append, List.cons_append,  w_con, w_opE, kOpE_sh, kOpE_ow, w_nilA, w_consA, kCons_ap, kCons2_ap, w_op2, kOp2_ap, kOp2'_ap, gOp2_ap, w_op1, kOp1_ap, gOp1_ap, w_opN, kOpN_ap, gOpN_ap, w_res, w_tst, kTst_ap, w_chn, kChn_ap, kChn2_ap, gChn_ap, hChn_t, hChn_f, kChn3_ap, w_andT, kAndT_t, kAndT_f, w_orT, kOrT_t, kOrT_f, w_notT, kNotT_ap, w_andE, kAndE_t, kAndE_f, w_orE, kOrE_t, kOrE_f, w_notE, kNotE_ap, w_ite3, kIte3_t, kIte3_f, w_lstF, kLst_ap, w_tupF, kTup_ap, gLst_ap, gTup_ap, w_seq, kSeq_nx, kSeq_rt, kSeq_bk, kSeq_ct, w_nxF, w_bkF, w_ctF, w_retF, kRet_ap, w_retNF, w_dropF, kDrop_ap, w_ifF, kIfF_t, kIfF_f, w_setF, kSet_ap, w_asgF, kAsg_ap, gAsg_ap, w_forF, kFor_ap, w_forL, w_forL0, gForL_ap, kForL_nx, kForL_ct, kForL_bk, kForL_rt, w_callF, kCall_ap, gCall_ap, gFR_ok, gFR_exc, w_seqI, kSeqI_l, kSeqI_t, w_enumI, kEnumI_l, kEnumI_t, w_zipI, kZip_ap, kZip2_l, kZip2_t, w_rngI1, kRng_n, w_yesT, w_var, w_varE, w_varR, gVar_sh, gVar_ow, gVarE_sh, gVarE_ow, gVarR_sh, gVarR_ow, get_pl, get_val, tree_sh, tree_ow, slot_tree_sh, slot_tree_ow, w_methF, gMeth0_ap, kMeth_ap, gMeth_ap, hMeth_ap, w_setIF, kSetI_ap, gSetI0_ap, kSetI2_ap, gSetI_ap, hSetI_ap, w_parF, kPar_ap, gPar_ap, gPar_one, nil_app, put_nm, put_tp, put_tpw, put_tpl, putAll_nil, putAll_cons, vals_nil, vals_cons, gets_nil, gets_cons, Option.map_some, Option.bind_some, List.getElem?_cons_succ, List.getElem?_cons_zero, List.set_cons_succ, List.set_cons_zero, List.length_cons, List.length_nil, Nat.zero_add, Nat.reduceAdd, Nat.reduceLT, Nat.reduceLeDiff, Nat.le_refl, and_self, ↓reduceIte, Bool.not_true, Bool.not_false, fnEnd, *])

def tu (r : Nat) : Nat := if r % 2 = 0 then r + 1 else r - 1
theorem tu_tu (r : Nat) : tu (tu r) = r := by
  unfold tu
  by_cases h : r % 2 = 0
  · rw [if_pos h, if_neg (by omega)]; omega
  · rw [if_neg h, if_pos (by omega)]; omega
theorem tu_lt {r : Nat} (h : r < 52) : tu r < 52 := by
  unfold tu
  by_cases h : r % 2 = 0
  · rw [if_pos h]; omega
  · rw [if_neg h]; omega
def ov (w : List Nat) : List Nat := w.reverse.map tu
theorem ov_ov (w : List Nat) : ov (ov w) = w := by
  unfold ov
  rw [← List.map_reverse, List.reverse_reverse, List.map_map]
  conv => rhs; rw [← List.map_id w]
  congr 1
  funext x
  exact tu_tu x
theorem ov_append (a b : List Nat) : ov (a ++ b) = ov b ++ ov a := by
  unfold ov
  rw [List.reverse_append, List.map_append]
theorem ov_len (w : List Nat) : (ov w).length = w.length := by
  unfold ov
  rw [List.length_map, List.length_reverse]
theorem ov_mem {w : List Nat} {x : Nat} : x ∈ ov w → ∃ y ∈ w, x = tu y := fun h => by
  unfold ov at h
  obtain ⟨y, hy, e⟩ := List.mem_map.mp h
  exact ⟨y, List.mem_reverse.mp hy, e.symm⟩
def Rt (w x : List Nat) : Prop := ∃ a b, w = a ++ b ∧ x = b ++ a
theorem Rt.refl (w : List Nat) : Rt w w := ⟨[], w, rfl, (List.append_nil w).symm⟩
theorem Rt.symm {w x : List Nat} : Rt w x → Rt x w := fun ⟨a, b, h1, h2⟩ => ⟨b, a, h2, h1⟩
theorem Rt.trans {w x y : List Nat} : Rt w x → Rt x y → Rt w y := fun ⟨a, b, h1, h2⟩ ⟨c, d, h3, h4⟩ => by
  rw [h3] at h2
  rcases List.append_eq_append_iff.mp h2 with ⟨e, e1, e2⟩ | ⟨e, e1, e2⟩
  · exact ⟨a ++ c, e, by rw [h1, e1, List.append_assoc], by rw [h4, e2, List.append_assoc]⟩
  · exact ⟨e, d ++ b, by rw [h1, e2, List.append_assoc], by rw [h4, e1, List.append_assoc]⟩
theorem Rt.ov {w x : List Nat} : Rt w x → Rt (ov w) (ov x) := fun ⟨a, b, h1, h2⟩ => ⟨K35.ov b, K35.ov a, by rw [h1, ov_append], by rw [h2, ov_append]⟩
theorem Rt.mem {w x : List Nat} (h : Rt w x) {y : Nat} : y ∈ x ↔ y ∈ w := by
  obtain ⟨a, b, rfl, rfl⟩ := h
  rw [List.mem_append, List.mem_append, Or.comm]
theorem Rt.len {w x : List Nat} (h : Rt w x) : x.length = w.length := by
  obtain ⟨a, b, rfl, rfl⟩ := h
  rw [List.length_append, List.length_append, Nat.add_comm]
def Cd (w x : List Nat) : Prop := Rt w x ∨ Rt (ov w) x
theorem Cd.refl (w : List Nat) : Cd w w := .inl (Rt.refl w)
theorem Cd.symm {w x : List Nat} : Cd w x → Cd x w
  | .inl h => .inl h.symm
  | .inr h => .inr (by have := h.symm.ov; rwa [ov_ov] at this)
theorem Cd.ov {w : List Nat} : Cd w (ov w) := .inr (Rt.refl _)
theorem Cd.trans {w x y : List Nat} : Cd w x → Cd x y → Cd w y
  | .inl h, .inl g => .inl (h.trans g)
  | .inl h, .inr g => .inr (h.ov.trans g)
  | .inr h, .inl g => .inr (h.trans g)
  | .inr h, .inr g => .inl (by have := h.ov.trans g; rwa [ov_ov] at this)
theorem Cd.len {w x : List Nat} : Cd w x → x.length = w.length
  | .inl h => h.len
  | .inr h => by rw [h.len, ov_len]
/-- the first difference decides -/
def ltN : List Nat → List Nat → Bool
  | [], [] => false
  | [], _ :: _ => true
  | _ :: _, [] => false
  | x :: xs, y :: ys => if x = y then ltN xs ys else decide (x < y)
theorem ltN_irrefl : ∀ a : List Nat, ltN a a = false
  | [] => rfl
  | x :: a => by rw [ltN, if_pos rfl, ltN_irrefl a]
theorem ltN_anti : ∀ a b : List Nat, ltN a b = false → ltN b a = false → a = b
  | [], [], _, _ => rfl
  | [], _ :: _, h, _ => by cases h
  | _ :: _, [], _, h => by cases h
  | x :: a, y :: b, h1, h2 => by
    rw [ltN] at h1 h2
    by_cases e : x = y
    · subst e
      rw [if_pos rfl] at h1 h2
      rw [ltN_anti a b h1 h2]
    · rw [if_neg e] at h1
      rw [if_neg (Ne.symm e)] at h2
      have h1 := of_decide_eq_false h1
      have h2 := of_decide_eq_false h2
      omega
theorem ltN_asym : ∀ a b : List Nat, ltN a b = true → ltN b a = false
  | [], [], h => by cases h
  | [], _ :: _, _ => rfl
  | _ :: _, [], h => by cases h
  | x :: a, y :: b, h => by
    rw [ltN] at h ⊢
    by_cases e : x = y
    · subst e
      rw [if_pos rfl] at h ⊢
      exact ltN_asym a b h
    · rw [if_neg e] at h
      rw [if_neg (Ne.symm e)]
      have h := of_decide_eq_true h
      exact decide_eq_false (by omega)
theorem ltN_tr : ∀ a b c : List Nat, ltN a b = false → ltN b c = false → ltN a c = false
  | [], [], _, _, h => h
  | [], _ :: _, _, h, _ => by cases h
  | _ :: _, _, [], _, _ => rfl
  | _ :: _, [], _ :: _, _, h => by cases h
  | x :: a, y :: b, z :: c, h1, h2 => by
    rw [ltN] at h1 h2 ⊢
    by_cases e1 : x = y
    · subst e1
      rw [if_pos rfl] at h1
      by_cases e2 : x = z
      · subst e2
        rw [if_pos rfl] at h2 ⊢
        exact ltN_tr a b c h1 h2
      · rw [if_neg e2] at h2 ⊢
        exact h2
    · rw [if_neg e1] at h1
      have h1 := of_decide_eq_false h1
      by_cases e2 : y = z
      · subst e2
        rw [if_neg e1]
        exact decide_eq_false h1
      · rw [if_neg e2] at h2
        have h2 := of_decide_eq_false h2
        rw [if_neg (by omega)]
        exact decide_eq_false (by omega)
/-- the first of the least -/
def mnL (r : List Nat) (rs : List (List Nat)) : List Nat := rs.foldl (fun a y => if ltN y a = true then y else a) r
theorem mnL_spec : ∀ (rs : List (List Nat)) (r : List Nat), mnL r rs ∈ r :: rs ∧ ∀ y ∈ r :: rs, ltN y (mnL r rs) = false
  | [], r => ⟨List.mem_singleton.mpr rfl, fun y hy => by rw [List.mem_singleton.mp hy]; exact ltN_irrefl r⟩
  | q :: rs, r => by
    have e : mnL r (q :: rs) = mnL (if ltN q r = true then q else r) rs := rfl
    rw [e]
    by_cases h : ltN q r = true
    · rw [if_pos h]
      obtain ⟨h1, h2⟩ := mnL_spec rs q
      refine ⟨List.mem_cons_of_mem _ h1, fun y hy => ?_⟩
      rcases List.mem_cons.mp hy with rfl | hy
      · exact ltN_tr _ _ _ (ltN_asym _ _ h) (h2 q List.mem_cons_self)
      · exact h2 y hy
    · rw [if_neg h]
      obtain ⟨h1, h2⟩ := mnL_spec rs r
      have h : ltN q r = false := by simpa using h
      refine ⟨?_, fun y hy => ?_⟩
      · rcases List.mem_cons.mp h1 with e | e
        · rw [e]; exact List.mem_cons_self
        · exact List.mem_cons_of_mem _ (List.mem_cons_of_mem _ e)
      · rcases List.mem_cons.mp hy with rfl | hy
        · exact h2 _ List.mem_cons_self
        · rcases List.mem_cons.mp hy with rfl | hy
          · exact ltN_tr _ _ _ h (h2 r List.mem_cons_self)
          · exact h2 y (List.mem_cons_of_mem _ hy)
def rots (w : List Nat) : List (List Nat) := (List.range w.length).map fun k => w.drop k ++ w.take k
theorem mem_rots {w x : List Nat} (h0 : w ≠ []) : x ∈ rots w ↔ Rt w x := by
  unfold rots
  constructor
  · intro h
    obtain ⟨k, _, e⟩ := List.mem_map.mp h
    exact ⟨w.take k, w.drop k, (List.take_append_drop k w).symm, e.symm⟩
  · rintro ⟨a, b, h1, h2⟩
    cases b with
    | nil =>
      rw [List.append_nil] at h1
      refine List.mem_map.mpr ⟨0, List.mem_range.mpr (List.length_pos_iff.mpr h0), ?_⟩
      rw [h2, h1]
      simp
    | cons c b =>
      refine List.mem_map.mpr ⟨a.length, List.mem_range.mpr (by rw [h1, List.length_append, List.length_cons]; omega), ?_⟩
      rw [h1, h2, List.drop_left, List.take_left]
def IsLeast (w m : List Nat) : Prop := Cd w m ∧ ∀ y, Cd w y → ltN y m = false
theorem least_uniq {w m m' : List Nat} (h : IsLeast w m) (h' : IsLeast w m') : m = m' := ltN_anti _ _ (h'.2 m h.1) (h.2 m' h'.1)
theorem least_of {w x m : List Nat} (c : Cd w x) (h : IsLeast w m) : IsLeast x m := ⟨c.symm.trans h.1, fun y hy => h.2 y (c.trans hy)⟩
/-- the program's -/
def lst (w : List Nat) : List Nat := match rots w ++ rots (ov w) with
  | [] => []
  | r :: rs => mnL r rs
theorem rots_nil : rots [] = [] := rfl
theorem ov_ne {w : List Nat} (h : w ≠ []) : ov w ≠ [] := fun e => h (List.length_eq_zero_iff.mp (by rw [← ov_len, e]; rfl))
theorem mem_all {w x : List Nat} (h0 : w ≠ []) : x ∈ rots w ++ rots (ov w) ↔ Cd w x := by
  rw [List.mem_append, mem_rots h0, mem_rots (ov_ne h0)]
  exact Iff.rfl
theorem nil_cd {x : List Nat} (h : Cd [] x) : x = [] := List.length_eq_zero_iff.mp h.len
theorem lst_spec (w : List Nat) : IsLeast w (lst w) := by
  by_cases h0 : w = []
  · subst h0
    exact ⟨Cd.refl _, fun y hy => by rw [nil_cd hy]; rfl⟩
  · unfold lst
    have hm : w ∈ rots w ++ rots (ov w) := (mem_all h0).mpr (Cd.refl w)
    split
    · rename_i e
      rw [e] at hm
      cases hm
    · rename_i r rs e
      obtain ⟨h1, h2⟩ := mnL_spec rs r
      rw [← e] at h1 h2
      exact ⟨(mem_all h0).mp h1, fun y hy => h2 y ((mem_all h0).mpr hy)⟩
/-- the law's -/
def lawLst (w : List Nat) : List Nat := mnL w (rots w ++ rots (ov w))
theorem lawLst_eq (w : List Nat) : lawLst w = lst w := by
  refine least_uniq (w := w) ?_ (lst_spec w)
  by_cases h0 : w = []
  · subst h0
    exact ⟨Cd.refl _, fun y hy => by rw [nil_cd hy]; rfl⟩
  · obtain ⟨h1, h2⟩ := mnL_spec (rots w ++ rots (ov w)) w
    refine ⟨?_, fun y hy => h2 y (List.mem_cons_of_mem _ ((mem_all h0).mpr hy))⟩
    rcases List.mem_cons.mp h1 with e | e
    · show Cd w (mnL _ _)
      rw [e]
      exact Cd.refl w
    · exact (mem_all h0).mp e
theorem lst_same {w x : List Nat} (c : Cd w x) : lst x = lst w := least_uniq (lst_spec x) (least_of c (lst_spec w))
theorem lst_ov (w : List Nat) : lst (ov w) = lst w := lst_same Cd.ov
theorem lst_rot (w : List Nat) (k : Nat) : lst (w.drop k ++ w.take k) = lst w := lst_same (.inl ⟨w.take k, w.drop k, (List.take_append_drop k w).symm, rfl⟩)
theorem lst_lst (w : List Nat) : lst (lst w) = lst w := lst_same (lst_spec w).1
theorem lst_len (w : List Nat) : (lst w).length = w.length := (lst_spec w).1.len
theorem lst_lt {w : List Nat} (h : ∀ x ∈ w, x < 52) : ∀ x ∈ lst w, x < 52 := fun x hx => by
  rcases (lst_spec w).1 with c | c
  · exact h x (c.mem.mp hx)
  · obtain ⟨y, hy, e⟩ := ov_mem (c.mem.mp hx)
    rw [e]
    exact tu_lt (h y hy)
theorem ov_lt {w : List Nat} (h : ∀ x ∈ w, x < 52) : ∀ x ∈ ov w, x < 52 := fun x hx => by
  obtain ⟨y, hy, e⟩ := ov_mem hx
  rw [e]
  exact tu_lt (h y hy)
theorem lst_head {w m : List Nat} {x : Nat} (h : lst w = x :: m) : x % 2 = 0 := by
  by_cases e : x % 2 = 0
  · exact e
  · have c : Cd w (tu x :: ov m) := by
      refine (lst_spec w).1.trans ?_
      rw [h]
      refine .inr ⟨ov m, [tu x], ?_, rfl⟩
      exact ov_append [x] m
    have := (lst_spec w).2 _ c
    rw [h, ltN] at this
    have ht : tu x = x - 1 := if_neg e
    rw [ht, if_neg (by omega), decide_eq_true (by omega)] at this
    cases this
theorem lst_even {w : List Nat} (h : ∀ x ∈ w, x % 2 = 0) : ∀ x ∈ lst w, x % 2 = 0 := by
  rcases (lst_spec w).1 with c | c
  · exact fun x hx => h x (c.mem.mp hx)
  · cases e : lst w with
    | nil => exact fun x hx => nomatch hx
    | cons y m =>
      exfalso
      have hy := lst_head e
      obtain ⟨z, hz, ez⟩ := ov_mem (c.mem.mp (by rw [e]; exact List.mem_cons_self))
      have := h z hz
      rw [ez] at hy
      unfold tu at hy
      rw [if_pos this] at hy
      omega
end K35

end
section
set_option Elab.async false
set_option linter.all false
set_option maxRecDepth 100000
set_option autoImplicit false
set_option maxHeartbeats 400000
open PySem PySem.Spec PyProof.Rows L2
open TL hiding eqT neT
namespace K35
local macro_rules | `(tactic| trivial) => `(tactic| simp -implicitDefEqProofs only [w_callBF, kCallB_ap, gCallB_ap, gFRB_ok, lf_int, lf_tn, lf_tr, lf_bl, w_setDF, kSetD_ap, gSetD0_ap, kSetD2_ap, gSetD_ap, w_okB, w_excB, w_dicF, w_starA, kStar_l, kStar_t, kStar2_ap, vals_star, w_callKF, kCallK_ap, kCallK2_ap, gCallK_ap, prm_nil, w_tryF, kTry_ok, kTry_exc, gTry_t, gTry_f, kTry2_ap, w_raiseF, kRaise_ap, gRaise_ap, w_par3F, kPar3a_ap, kPar3b_ap, kPar3c_ap, gPar_exc, gPar_exc1, w_slF, kSl1_ap, kSl2_ap, kSl3_ap, w_someB, kSome_ap, w_noB, w_rngI2, kRng2_ap, List.nil_append, List.cons_append,  w_con, w_opE, kOpE_sh, kOpE_ow, w_nilA, w_consA, kCons_ap, kCons2_ap, w_op2, kOp2_ap, kOp2'_ap, gOp2_ap, w_op1, kOp1_ap, gOp1_ap, w_opN, kOpN_ap, gOpN_ap, w_res, w_tst, kTst_ap, w_chn, kChn_ap, kChn2_ap, gChn_ap, hChn_t, hChn_f, kChn3_ap, w_andT, kAndT_t, kAndT_f, w_orT, kOrT_t, kOrT_f, w_notT, kNotT_ap, w_andE, kAndE_t, kAndE_f, w_orE, kOrE_t, kOrE_f, w_notE, kNotE_ap, w_ite3, kIte3_t, kIte3_f, w_lstF, kLst_ap, w_tupF, kTup_ap, gLst_ap, gTup_ap, w_seq, kSeq_nx, kSeq_rt, kSeq_bk, kSeq_ct, w_nxF, w_bkF, w_ctF, w_retF, kRet_ap, w_retNF, w_dropF, kDrop_ap, w_ifF, kIfF_t, kIfF_f, w_setF, kSet_ap, w_asgF, kAsg_ap, gAsg_ap, w_forF, kFor_ap, w_forL, w_forL0, gForL_ap, kForL_nx, kForL_ct, kForL_bk, kForL_rt, w_callF, kCall_ap, gCall_ap, gFR_ok, gFR_exc, w_seqI, kSeqI_l, kSeqI_t, w_enumI, kEnumI_l, kEnumI_t, w_zipI, kZip_ap, kZip2_l, kZip2_t, w_rngI1, kRng_n, w_yesT, w_var, w_varE, w_varR, gVar_sh, gVar_ow, gVarE_sh, gVarE_ow, gVarR_sh, gVarR_ow, get_pl, get_val, tree_sh, tree_ow, slot_tree_sh, slot_tree_ow, w_methF, gMeth0_ap, kMeth_ap, gMeth_ap, hMeth_ap, w_setIF, kSetI_ap, gSetI0_ap, kSetI2_ap, gSetI_ap, hSetI_ap, w_parF, kPar_ap, gPar_ap, gPar_one, nil_app, put_nm, put_tp, put_tpw, put_tpl, putAll_nil, putAll_cons, vals_nil, vals_cons, gets_nil, gets_cons, Option.map_some, Option.bind_some, List.getElem?_cons_succ, List.getElem?_cons_zero, List.set_cons_succ, List.set_cons_zero, List.length_cons, List.length_nil, Nat.zero_add, Nat.reduceAdd, Nat.reduceLT, Nat.reduceLeDiff, Nat.le_refl, and_self, ↓reduceIte, Bool.not_true, Bool.not_false, fnEnd, *])

def sS (r : Nat) : Str := if r % 52 % 2 = 0 then ⟨#[97 + r % 52 / 2]⟩ else ⟨#[97 + r % 52 / 2, 39]⟩
theorem sS_mod (r : Nat) : sS r = sS (r % 52) := by
  unfold sS
  rw [Nat.mod_mod]
theorem sS_ok52 : ∀ r < 52, PyData.strOk (sS r) = true := by decide +kernel
theorem sS_ok (r : Nat) : PyData.strOk (sS r) = true := by
  rw [sS_mod]
  exact sS_ok52 _ (Nat.mod_lt _ (by omega))
def sT (r : Nat) : T := .str (sS r)
def tw (w : List Nat) : List T := w.map sT
theorem tw_append (a b : List Nat) : tw (a ++ b) = tw a ++ tw b := List.map_append
theorem tw_length (a : List Nat) : (tw a).length = a.length := List.length_map _
theorem tw_cons (r : Nat) (w : List Nat) : tw (r :: w) = sT r :: tw w := rfl
theorem x_sign (nb : Nib) : ∀ r < 52, f_is_sign [sT r] nb = .ok (.sh (.bl true)) nb := fun r hr => by
  match r, hr with
  | 0, _ => kernel_rfl
  | 1, _ => kernel_rfl
  | 2, _ => kernel_rfl
  | 3, _ => kernel_rfl
  | 4, _ => kernel_rfl
  | 5, _ => kernel_rfl
  | 6, _ => kernel_rfl
  | 7, _ => kernel_rfl
  | 8, _ => kernel_rfl
  | 9, _ => kernel_rfl
  | 10, _ => kernel_rfl
  | 11, _ => kernel_rfl
  | 12, _ => kernel_rfl
  | 13, _ => kernel_rfl
  | 14, _ => kernel_rfl
  | 15, _ => kernel_rfl
  | 16, _ => kernel_rfl
  | 17, _ => kernel_rfl
  | 18, _ => kernel_rfl
  | 19, _ => kernel_rfl
  | 20, _ => kernel_rfl
  | 21, _ => kernel_rfl
  | 22, _ => kernel_rfl
  | 23, _ => kernel_rfl
  | 24, _ => kernel_rfl
  | 25, _ => kernel_rfl
  | 26, _ => kernel_rfl
  | 27, _ => kernel_rfl
  | 28, _ => kernel_rfl
  | 29, _ => kernel_rfl
  | 30, _ => kernel_rfl
  | 31, _ => kernel_rfl
  | 32, _ => kernel_rfl
  | 33, _ => kernel_rfl
  | 34, _ => kernel_rfl
  | 35, _ => kernel_rfl
  | 36, _ => kernel_rfl
  | 37, _ => kernel_rfl
  | 38, _ => kernel_rfl
  | 39, _ => kernel_rfl
  | 40, _ => kernel_rfl
  | 41, _ => kernel_rfl
  | 42, _ => kernel_rfl
  | 43, _ => kernel_rfl
  | 44, _ => kernel_rfl
  | 45, _ => kernel_rfl
  | 46, _ => kernel_rfl
  | 47, _ => kernel_rfl
  | 48, _ => kernel_rfl
  | 49, _ => kernel_rfl
  | 50, _ => kernel_rfl
  | 51, _ => kernel_rfl
  | n + 52, h => exact absurd h (by omega)
theorem x_turn (nb : Nib) : ∀ r < 52, f_turned_sign [sT r] nb = .ok (.sh (sT (tu r))) nb := fun r hr => by
  match r, hr with
  | 0, _ => kernel_rfl
  | 1, _ => kernel_rfl
  | 2, _ => kernel_rfl
  | 3, _ => kernel_rfl
  | 4, _ => kernel_rfl
  | 5, _ => kernel_rfl
  | 6, _ => kernel_rfl
  | 7, _ => kernel_rfl
  | 8, _ => kernel_rfl
  | 9, _ => kernel_rfl
  | 10, _ => kernel_rfl
  | 11, _ => kernel_rfl
  | 12, _ => kernel_rfl
  | 13, _ => kernel_rfl
  | 14, _ => kernel_rfl
  | 15, _ => kernel_rfl
  | 16, _ => kernel_rfl
  | 17, _ => kernel_rfl
  | 18, _ => kernel_rfl
  | 19, _ => kernel_rfl
  | 20, _ => kernel_rfl
  | 21, _ => kernel_rfl
  | 22, _ => kernel_rfl
  | 23, _ => kernel_rfl
  | 24, _ => kernel_rfl
  | 25, _ => kernel_rfl
  | 26, _ => kernel_rfl
  | 27, _ => kernel_rfl
  | 28, _ => kernel_rfl
  | 29, _ => kernel_rfl
  | 30, _ => kernel_rfl
  | 31, _ => kernel_rfl
  | 32, _ => kernel_rfl
  | 33, _ => kernel_rfl
  | 34, _ => kernel_rfl
  | 35, _ => kernel_rfl
  | 36, _ => kernel_rfl
  | 37, _ => kernel_rfl
  | 38, _ => kernel_rfl
  | 39, _ => kernel_rfl
  | 40, _ => kernel_rfl
  | 41, _ => kernel_rfl
  | 42, _ => kernel_rfl
  | 43, _ => kernel_rfl
  | 44, _ => kernel_rfl
  | 45, _ => kernel_rfl
  | 46, _ => kernel_rfl
  | 47, _ => kernel_rfl
  | 48, _ => kernel_rfl
  | 49, _ => kernel_rfl
  | 50, _ => kernel_rfl
  | 51, _ => kernel_rfl
  | n + 52, h => exact absurd h (by omega)
def eltR : EF := op2 subT (opE (op2 addT (opE (op2 mulT (opE (con (.int 2))) (opE (op1 (idxS "abcdefghijklmnopqrstuvwxyz") (opE (op2 ixT (var 1) (opE (con (.int 0))))))))) (opE (opN lenN (consA (var 1) (nilA)))))) (opE (con (.int 1)))
theorem x_rank (x0 : Slot) (gh : List Slot) (nb : Nib) : ∀ r < 52, eltR ⟨[x0, .sh (sT r)], gh, nb⟩ = .ok (.sh (.int (r : Int))) ⟨[x0, .sh (sT r)], gh, nb⟩ := fun r hr => by
  match r, hr with
  | 0, _ => kernel_rfl
  | 1, _ => kernel_rfl
  | 2, _ => kernel_rfl
  | 3, _ => kernel_rfl
  | 4, _ => kernel_rfl
  | 5, _ => kernel_rfl
  | 6, _ => kernel_rfl
  | 7, _ => kernel_rfl
  | 8, _ => kernel_rfl
  | 9, _ => kernel_rfl
  | 10, _ => kernel_rfl
  | 11, _ => kernel_rfl
  | 12, _ => kernel_rfl
  | 13, _ => kernel_rfl
  | 14, _ => kernel_rfl
  | 15, _ => kernel_rfl
  | 16, _ => kernel_rfl
  | 17, _ => kernel_rfl
  | 18, _ => kernel_rfl
  | 19, _ => kernel_rfl
  | 20, _ => kernel_rfl
  | 21, _ => kernel_rfl
  | 22, _ => kernel_rfl
  | 23, _ => kernel_rfl
  | 24, _ => kernel_rfl
  | 25, _ => kernel_rfl
  | 26, _ => kernel_rfl
  | 27, _ => kernel_rfl
  | 28, _ => kernel_rfl
  | 29, _ => kernel_rfl
  | 30, _ => kernel_rfl
  | 31, _ => kernel_rfl
  | 32, _ => kernel_rfl
  | 33, _ => kernel_rfl
  | 34, _ => kernel_rfl
  | 35, _ => kernel_rfl
  | 36, _ => kernel_rfl
  | 37, _ => kernel_rfl
  | 38, _ => kernel_rfl
  | 39, _ => kernel_rfl
  | 40, _ => kernel_rfl
  | 41, _ => kernel_rfl
  | 42, _ => kernel_rfl
  | 43, _ => kernel_rfl
  | 44, _ => kernel_rfl
  | 45, _ => kernel_rfl
  | 46, _ => kernel_rfl
  | 47, _ => kernel_rfl
  | 48, _ => kernel_rfl
  | 49, _ => kernel_rfl
  | 50, _ => kernel_rfl
  | 51, _ => kernel_rfl
  | n + 52, h => exact absurd h (by omega)
theorem x_len : ∀ r < 52, lenN [sT r] = some (.sh (.int ((1 + r % 2 : Nat) : Int))) := fun r hr => by
  match r, hr with
  | 0, _ => kernel_rfl
  | 1, _ => kernel_rfl
  | 2, _ => kernel_rfl
  | 3, _ => kernel_rfl
  | 4, _ => kernel_rfl
  | 5, _ => kernel_rfl
  | 6, _ => kernel_rfl
  | 7, _ => kernel_rfl
  | 8, _ => kernel_rfl
  | 9, _ => kernel_rfl
  | 10, _ => kernel_rfl
  | 11, _ => kernel_rfl
  | 12, _ => kernel_rfl
  | 13, _ => kernel_rfl
  | 14, _ => kernel_rfl
  | 15, _ => kernel_rfl
  | 16, _ => kernel_rfl
  | 17, _ => kernel_rfl
  | 18, _ => kernel_rfl
  | 19, _ => kernel_rfl
  | 20, _ => kernel_rfl
  | 21, _ => kernel_rfl
  | 22, _ => kernel_rfl
  | 23, _ => kernel_rfl
  | 24, _ => kernel_rfl
  | 25, _ => kernel_rfl
  | 26, _ => kernel_rfl
  | 27, _ => kernel_rfl
  | 28, _ => kernel_rfl
  | 29, _ => kernel_rfl
  | 30, _ => kernel_rfl
  | 31, _ => kernel_rfl
  | 32, _ => kernel_rfl
  | 33, _ => kernel_rfl
  | 34, _ => kernel_rfl
  | 35, _ => kernel_rfl
  | 36, _ => kernel_rfl
  | 37, _ => kernel_rfl
  | 38, _ => kernel_rfl
  | 39, _ => kernel_rfl
  | 40, _ => kernel_rfl
  | 41, _ => kernel_rfl
  | 42, _ => kernel_rfl
  | 43, _ => kernel_rfl
  | 44, _ => kernel_rfl
  | 45, _ => kernel_rfl
  | 46, _ => kernel_rfl
  | 47, _ => kernel_rfl
  | 48, _ => kernel_rfl
  | 49, _ => kernel_rfl
  | 50, _ => kernel_rfl
  | 51, _ => kernel_rfl
  | n + 52, h => exact absurd h (by omega)
theorem x_even : ∀ r < 52, r % 2 = 0 → lenN [sT r] = some (.sh (.int 1)) ∧ addT (sT r) (.str "'") = some (.sh (sT (tu r))) ∧ addT (sT r) (.str "") = some (.sh (sT r)) := fun r hr h => by
  match r, hr, h with
  | 0, _, h => exact ⟨by kernel_rfl, by kernel_rfl, by kernel_rfl⟩
  | 1, _, h => exact absurd h (by decide)
  | 2, _, h => exact ⟨by kernel_rfl, by kernel_rfl, by kernel_rfl⟩
  | 3, _, h => exact absurd h (by decide)
  | 4, _, h => exact ⟨by kernel_rfl, by kernel_rfl, by kernel_rfl⟩
  | 5, _, h => exact absurd h (by decide)
  | 6, _, h => exact ⟨by kernel_rfl, by kernel_rfl, by kernel_rfl⟩
  | 7, _, h => exact absurd h (by decide)
  | 8, _, h => exact ⟨by kernel_rfl, by kernel_rfl, by kernel_rfl⟩
  | 9, _, h => exact absurd h (by decide)
  | 10, _, h => exact ⟨by kernel_rfl, by kernel_rfl, by kernel_rfl⟩
  | 11, _, h => exact absurd h (by decide)
  | 12, _, h => exact ⟨by kernel_rfl, by kernel_rfl, by kernel_rfl⟩
  | 13, _, h => exact absurd h (by decide)
  | 14, _, h => exact ⟨by kernel_rfl, by kernel_rfl, by kernel_rfl⟩
  | 15, _, h => exact absurd h (by decide)
  | 16, _, h => exact ⟨by kernel_rfl, by kernel_rfl, by kernel_rfl⟩
  | 17, _, h => exact absurd h (by decide)
  | 18, _, h => exact ⟨by kernel_rfl, by kernel_rfl, by kernel_rfl⟩
  | 19, _, h => exact absurd h (by decide)
  | 20, _, h => exact ⟨by kernel_rfl, by kernel_rfl, by kernel_rfl⟩
  | 21, _, h => exact absurd h (by decide)
  | 22, _, h => exact ⟨by kernel_rfl, by kernel_rfl, by kernel_rfl⟩
  | 23, _, h => exact absurd h (by decide)
  | 24, _, h => exact ⟨by kernel_rfl, by kernel_rfl, by kernel_rfl⟩
  | 25, _, h => exact absurd h (by decide)
  | 26, _, h => exact ⟨by kernel_rfl, by kernel_rfl, by kernel_rfl⟩
  | 27, _, h => exact absurd h (by decide)
  | 28, _, h => exact ⟨by kernel_rfl, by kernel_rfl, by kernel_rfl⟩
  | 29, _, h => exact absurd h (by decide)
  | 30, _, h => exact ⟨by kernel_rfl, by kernel_rfl, by kernel_rfl⟩
  | 31, _, h => exact absurd h (by decide)
  | 32, _, h => exact ⟨by kernel_rfl, by kernel_rfl, by kernel_rfl⟩
  | 33, _, h => exact absurd h (by decide)
  | 34, _, h => exact ⟨by kernel_rfl, by kernel_rfl, by kernel_rfl⟩
  | 35, _, h => exact absurd h (by decide)
  | 36, _, h => exact ⟨by kernel_rfl, by kernel_rfl, by kernel_rfl⟩
  | 37, _, h => exact absurd h (by decide)
  | 38, _, h => exact ⟨by kernel_rfl, by kernel_rfl, by kernel_rfl⟩
  | 39, _, h => exact absurd h (by decide)
  | 40, _, h => exact ⟨by kernel_rfl, by kernel_rfl, by kernel_rfl⟩
  | 41, _, h => exact absurd h (by decide)
  | 42, _, h => exact ⟨by kernel_rfl, by kernel_rfl, by kernel_rfl⟩
  | 43, _, h => exact absurd h (by decide)
  | 44, _, h => exact ⟨by kernel_rfl, by kernel_rfl, by kernel_rfl⟩
  | 45, _, h => exact absurd h (by decide)
  | 46, _, h => exact ⟨by kernel_rfl, by kernel_rfl, by kernel_rfl⟩
  | 47, _, h => exact absurd h (by decide)
  | 48, _, h => exact ⟨by kernel_rfl, by kernel_rfl, by kernel_rfl⟩
  | 49, _, h => exact absurd h (by decide)
  | 50, _, h => exact ⟨by kernel_rfl, by kernel_rfl, by kernel_rfl⟩
  | 51, _, h => exact absurd h (by decide)
  | n + 52, h, _ => exact absurd h (by omega)
theorem x_odd : ∀ r < 52, r % 2 ≠ 0 → lenN [sT r] = some (.sh (.int 2)) ∧ ixT (sT r) (.int 0) = some (.sh (sT (tu r))) := fun r hr h => by
  match r, hr, h with
  | 0, _, h => exact absurd rfl h
  | 1, _, h => exact ⟨by kernel_rfl, by kernel_rfl⟩
  | 2, _, h => exact absurd rfl h
  | 3, _, h => exact ⟨by kernel_rfl, by kernel_rfl⟩
  | 4, _, h => exact absurd rfl h
  | 5, _, h => exact ⟨by kernel_rfl, by kernel_rfl⟩
  | 6, _, h => exact absurd rfl h
  | 7, _, h => exact ⟨by kernel_rfl, by kernel_rfl⟩
  | 8, _, h => exact absurd rfl h
  | 9, _, h => exact ⟨by kernel_rfl, by kernel_rfl⟩
  | 10, _, h => exact absurd rfl h
  | 11, _, h => exact ⟨by kernel_rfl, by kernel_rfl⟩
  | 12, _, h => exact absurd rfl h
  | 13, _, h => exact ⟨by kernel_rfl, by kernel_rfl⟩
  | 14, _, h => exact absurd rfl h
  | 15, _, h => exact ⟨by kernel_rfl, by kernel_rfl⟩
  | 16, _, h => exact absurd rfl h
  | 17, _, h => exact ⟨by kernel_rfl, by kernel_rfl⟩
  | 18, _, h => exact absurd rfl h
  | 19, _, h => exact ⟨by kernel_rfl, by kernel_rfl⟩
  | 20, _, h => exact absurd rfl h
  | 21, _, h => exact ⟨by kernel_rfl, by kernel_rfl⟩
  | 22, _, h => exact absurd rfl h
  | 23, _, h => exact ⟨by kernel_rfl, by kernel_rfl⟩
  | 24, _, h => exact absurd rfl h
  | 25, _, h => exact ⟨by kernel_rfl, by kernel_rfl⟩
  | 26, _, h => exact absurd rfl h
  | 27, _, h => exact ⟨by kernel_rfl, by kernel_rfl⟩
  | 28, _, h => exact absurd rfl h
  | 29, _, h => exact ⟨by kernel_rfl, by kernel_rfl⟩
  | 30, _, h => exact absurd rfl h
  | 31, _, h => exact ⟨by kernel_rfl, by kernel_rfl⟩
  | 32, _, h => exact absurd rfl h
  | 33, _, h => exact ⟨by kernel_rfl, by kernel_rfl⟩
  | 34, _, h => exact absurd rfl h
  | 35, _, h => exact ⟨by kernel_rfl, by kernel_rfl⟩
  | 36, _, h => exact absurd rfl h
  | 37, _, h => exact ⟨by kernel_rfl, by kernel_rfl⟩
  | 38, _, h => exact absurd rfl h
  | 39, _, h => exact ⟨by kernel_rfl, by kernel_rfl⟩
  | 40, _, h => exact absurd rfl h
  | 41, _, h => exact ⟨by kernel_rfl, by kernel_rfl⟩
  | 42, _, h => exact absurd rfl h
  | 43, _, h => exact ⟨by kernel_rfl, by kernel_rfl⟩
  | 44, _, h => exact absurd rfl h
  | 45, _, h => exact ⟨by kernel_rfl, by kernel_rfl⟩
  | 46, _, h => exact absurd rfl h
  | 47, _, h => exact ⟨by kernel_rfl, by kernel_rfl⟩
  | 48, _, h => exact absurd rfl h
  | 49, _, h => exact ⟨by kernel_rfl, by kernel_rfl⟩
  | 50, _, h => exact absurd rfl h
  | 51, _, h => exact ⟨by kernel_rfl, by kernel_rfl⟩
  | n + 52, h, _ => exact absurd h (by omega)
theorem x_lt : ∀ x < 52, ∀ y < 52, decide ((sS x).cps.toList < (sS y).cps.toList) = decide (x < y) := by decide +kernel
theorem x_inj : ∀ x < 52, ∀ y < 52, decide ((sS x).cps.toList = (sS y).cps.toList) = decide (x = y) := by decide +kernel
theorem sS_inj {x y : Nat} (hx : x < 52) (hy : y < 52) (h : sS x = sS y) : x = y := by
  have := x_inj x hx y hy
  rw [h, decide_eq_true rfl] at this
  exact of_decide_eq_true this.symm
theorem lt_S : ∀ {a b : List Nat}, (∀ x ∈ a, x < 52) → (∀ x ∈ b, x < 52) → PySem.W.listLt (a.map sS) (b.map sS) = ltN a b
  | [], [], _, _ => rfl
  | [], _ :: _, _, _ => rfl
  | _ :: _, [], _, _ => rfl
  | x :: a, y :: b, h1, h2 => by
    have ih := lt_S (fun z hz => h1 z (List.mem_cons_of_mem _ hz)) (fun z hz => h2 z (List.mem_cons_of_mem _ hz)) (a := a) (b := b)
    have hx := h1 x List.mem_cons_self
    have hy := h2 y List.mem_cons_self
    rw [List.map_cons, List.map_cons, PySem.W.listLt, ltN]
    by_cases e : x = y
    · subst e
      rw [if_pos rfl, if_pos rfl, ih]
    · rw [if_neg e, if_neg (fun z => e (sS_inj hx hy z))]
      exact x_lt x hx y hy
theorem lt_I : ∀ a b : List Nat, PySem.W.listLt (a.map fun (n : Nat) => (n : Int)) (b.map fun (n : Nat) => (n : Int)) = ltN a b
  | [], [] => rfl
  | [], _ :: _ => rfl
  | _ :: _, [] => rfl
  | x :: a, y :: b => by
    rw [List.map_cons, List.map_cons, PySem.W.listLt, ltN, lt_I a b]
    by_cases e : x = y
    · subst e
      rw [if_pos rfl, if_pos rfl]
    · rw [if_neg e, if_neg (by omega)]
      show decide ((x : Int) < (y : Int)) = decide (x < y)
      exact decide_eq_decide.mpr (by omega)
theorem d_tn : ∀ a : List Nat, T.dAll (tn a) = (a.map fun (n : Nat) => (n : Int)).map PySem.W.Datum.toD
  | [] => by simp [tn, T.dAll]
  | x :: a => by
    rw [tn_cons, T.dAll, d_tn a]
    rfl
theorem lt_tn (a b : List Nat) : ltDT (.lst (tn a)) (.lst (tn b)) = some (.sh (.bl (ltN a b))) := by
  have e : ∀ c : List Nat, (T.lst (tn c)).d = PySem.W.Datum.toD (c.map fun (n : Nat) => (n : Int)) := fun c => by
    show PyData.list (T.dAll (tn c)) = PyData.list _
    rw [d_tn]
  unfold ltDT
  rw [e, e, if_pos ⟨okD_lst a 59, okD_lst b 59, PySem.W.DatumOrd.alike _ _, rfl⟩]
  have := PySem.W.DatumOrd.lt_eq (a.map fun (n : Nat) => (n : Int)) (b.map fun (n : Nat) => (n : Int))
  rw [this]
  exact congrArg (fun z => some (Slot.sh (T.bl z))) (lt_I a b)
theorem rows_tw (L : List (List Nat)) : rowsS (L.map fun w => .tup (tw w)) = some (L.map fun w => w.map sS) := by
  have := rowsS_map (L.map fun w => w.map sS)
  rw [List.map_map] at this
  rw [← this]
  congr 1
  refine List.map_congr_left fun w _ => ?_
  show T.tup (tw w) = T.tup ((w.map sS).map T.str)
  rw [List.map_map]
  rfl
theorem minTS_tw : ∀ (rs : List (List Nat)) (r : List Nat), (∀ w ∈ r :: rs, ∀ x ∈ w, x < 52) → minTS (r.map sS) (rs.map fun w => w.map sS) = (mnL r rs).map sS
  | [], r, _ => rfl
  | q :: rs, r, h => by
    have e : PySem.W.listLt (q.map sS) (r.map sS) = ltN q r := lt_S (h q (List.mem_cons_of_mem _ List.mem_cons_self)) (h r List.mem_cons_self)
    show minTS (if PySem.W.listLt (q.map sS) (r.map sS) = true then q.map sS else r.map sS) (rs.map fun w => w.map sS) = (mnL (if ltN q r = true then q else r) rs).map sS
    rw [e]
    by_cases c : ltN q r = true
    · rw [if_pos c, if_pos c]
      exact minTS_tw rs q fun w hw => h w (List.mem_cons_of_mem _ hw)
    · rw [if_neg c, if_neg c]
      exact minTS_tw rs r fun w hw => h w (by
        rcases List.mem_cons.mp hw with rfl | hw
        · exact List.mem_cons_self
        · exact List.mem_cons_of_mem _ (List.mem_cons_of_mem _ hw))
def lstO : List (List Nat) → List Nat
  | [] => []
  | r :: rs => mnL r rs
theorem lst_O (w : List Nat) : lst w = lstO (rots w ++ rots (ov w)) := by
  unfold lst
  cases rots w ++ rots (ov w) <;> rfl
theorem min_tw (L : List (List Nat)) (h : ∀ w ∈ L, ∀ x ∈ w, x < 52) : minDS (.lst (L.map fun w => .tup (tw w))) (.tup []) = some (.sh (.tup (tw (lstO L)))) := by
  show (match rowsS (L.map fun w => .tup (tw w)) with
    | some [] => some (Slot.sh (.tup []))
    | some (r :: rs) => some (Slot.sh (.tup ((minTS r rs).map T.str)))
    | none => none) = _
  rw [rows_tw]
  cases L with
  | nil => rfl
  | cons r rs =>
    show some (Slot.sh (T.tup ((minTS (r.map sS) (rs.map fun w => w.map sS)).map T.str))) = _
    rw [minTS_tw rs r h, List.map_map]
    rfl
theorem rots_lt {w : List Nat} (h : ∀ x ∈ w, x < 52) : ∀ c ∈ rots w, ∀ x ∈ c, x < 52 := fun c hc x hx => by
  unfold rots at hc
  obtain ⟨k, _, e⟩ := List.mem_map.mp hc
  rw [← e] at hx
  rcases List.mem_append.mp hx with hx | hx
  · exact h x (List.mem_of_mem_drop hx)
  · exact h x (List.mem_of_mem_take hx)
theorem isN_sq (b : Bool) (ts : List T) : isN ["list", "tuple"] (sq b ts) = some (.sh (.bl true)) := by
  cases b
  · show isN ["list", "tuple"] (.lst ts) = _
    exact isN_lst ts
  · show isN ["list", "tuple"] (.tup ts) = _
    exact isN_tup ts
theorem len_w (b : Bool) (w : List Nat) : lenN [sq b (tw w)] = some (.sh (.int (w.length : Int))) := by
  cases b
  · show some (Slot.sh (T.int ((tw w).length : Int))) = _
    rw [tw_length]
  · show some (Slot.sh (T.int ((tw w).length : Int))) = _
    rw [tw_length]
theorem tuple_sq (b : Bool) (ts : List T) : tupleN [sq b ts] = some (.sh (.tup ts)) := by cases b <;> rfl
section
variable {w : List Nat} {nb : Nib}
theorem r_is_word (b : Bool) (h : ∀ x ∈ w, x < 52) (hl : w.length ≤ 1000) (nb : Nib) : f_is_word [sq b (tw w)] nb = .ok (.sh (.bl true)) nb := by
  have e0 : ∀ S : Sta, kSeqI (.val (sq b (tw w))) S = .ok (tw w) S := fun S => by cases b <;> rfl
  have e1 : b_is_word_C1 ⟨[.sh (sq b (tw w)), .no], [], nb⟩ = .ok (.ow (.lst (List.replicate w.length (.bl true)))) ⟨[.sh (sq b (tw w)), .no], [], nb⟩ := by
    refine (compF_map (S1 := ⟨[.sh (sq b (tw w)), .no], [], nb⟩) w sT (fun _ => some (.bl true)) (by clear h hl; trivial; rfl) rfl rfl (len_sz (by omega)) (fun x hm acc => ?_)).trans (by rw [filterMap_const])
    have e2 := x_sign nb x (h x hm)
    clear e0 hm h hl
    exact compStep_map (S1 := ⟨[.sh (sq b (tw w)), .sh (sT x)], [] ++ [.ow (.lst acc)], nb⟩) rfl (by trivial; rfl) rfl rfl
  have e2 := isN_sq b (tw w)
  have e3 := allN_rep w.length
  have s2 : f_is_word [sq b (tw w)] nb = fnEnd (b_is_word ⟨[.sh (sq b (tw w)), .no], [], nb⟩) := rfl
  rw [s2]
  unfold b_is_word
  clear h hl e0 s2
  trivial
theorem r_need (b : Bool) (h : ∀ x ∈ w, x < 52) (hl : w.length ≤ 1000) (x : T) (nb : Nib) : f_need_word [sq b (tw w), x] nb = .ok (.sh .non) nb := by
  have e1 := r_is_word b h hl nb
  have s2 : f_need_word [sq b (tw w), x] nb = fnEnd (b_need_word ⟨[.sh (sq b (tw w)), .sh x], [], nb⟩) := rfl
  rw [s2]
  unfold b_need_word
  clear h hl s2
  trivial
end
end K35

end
section
set_option Elab.async false
set_option linter.all false
set_option maxRecDepth 100000
set_option autoImplicit false
set_option maxHeartbeats 400000
open PySem PySem.Spec PyProof.Rows L2
open TL hiding eqT neT
namespace K35
local macro_rules | `(tactic| trivial) => `(tactic| simp -implicitDefEqProofs only [w_callBF, kCallB_ap, gCallB_ap, gFRB_ok, lf_int, lf_tn, lf_tr, lf_bl, w_setDF, kSetD_ap, gSetD0_ap, kSetD2_ap, gSetD_ap, w_okB, w_excB, w_dicF, w_starA, kStar_l, kStar_t, kStar2_ap, vals_star, w_callKF, kCallK_ap, kCallK2_ap, gCallK_ap, prm_nil, w_tryF, kTry_ok, kTry_exc, gTry_t, gTry_f, kTry2_ap, w_raiseF, kRaise_ap, gRaise_ap, w_par3F, kPar3a_ap, kPar3b_ap, kPar3c_ap, gPar_exc, gPar_exc1, w_slF, kSl1_ap, kSl2_ap, kSl3_ap, w_someB, kSome_ap, w_noB, w_rngI2, kRng2_ap, List.nil_append, List.cons_append,  w_con, w_opE, kOpE_sh, kOpE_ow, w_nilA, w_consA, kCons_ap, kCons2_ap, w_op2, kOp2_ap, kOp2'_ap, gOp2_ap, w_op1, kOp1_ap, gOp1_ap, w_opN, kOpN_ap, gOpN_ap, w_res, w_tst, kTst_ap, w_chn, kChn_ap, kChn2_ap, gChn_ap, hChn_t, hChn_f, kChn3_ap, w_andT, kAndT_t, kAndT_f, w_orT, kOrT_t, kOrT_f, w_notT, kNotT_ap, w_andE, kAndE_t, kAndE_f, w_orE, kOrE_t, kOrE_f, w_notE, kNotE_ap, w_ite3, kIte3_t, kIte3_f, w_lstF, kLst_ap, w_tupF, kTup_ap, gLst_ap, gTup_ap, w_seq, kSeq_nx, kSeq_rt, kSeq_bk, kSeq_ct, w_nxF, w_bkF, w_ctF, w_retF, kRet_ap, w_retNF, w_dropF, kDrop_ap, w_ifF, kIfF_t, kIfF_f, w_setF, kSet_ap, w_asgF, kAsg_ap, gAsg_ap, w_forF, kFor_ap, w_forL, w_forL0, gForL_ap, kForL_nx, kForL_ct, kForL_bk, kForL_rt, w_callF, kCall_ap, gCall_ap, gFR_ok, gFR_exc, w_seqI, kSeqI_l, kSeqI_t, w_enumI, kEnumI_l, kEnumI_t, w_zipI, kZip_ap, kZip2_l, kZip2_t, w_rngI1, kRng_n, w_yesT, w_var, w_varE, w_varR, gVar_sh, gVar_ow, gVarE_sh, gVarE_ow, gVarR_sh, gVarR_ow, get_pl, get_val, tree_sh, tree_ow, slot_tree_sh, slot_tree_ow, w_methF, gMeth0_ap, kMeth_ap, gMeth_ap, hMeth_ap, w_setIF, kSetI_ap, gSetI0_ap, kSetI2_ap, gSetI_ap, hSetI_ap, w_parF, kPar_ap, gPar_ap, gPar_one, nil_app, put_nm, put_tp, put_tpw, put_tpl, putAll_nil, putAll_cons, vals_nil, vals_cons, gets_nil, gets_cons, Option.map_some, Option.bind_some, List.getElem?_cons_succ, List.getElem?_cons_zero, List.set_cons_succ, List.set_cons_zero, List.length_cons, List.length_nil, Nat.zero_add, Nat.reduceAdd, Nat.reduceLT, Nat.reduceLeDiff, Nat.le_refl, and_self, ↓reduceIte, Bool.not_true, Bool.not_false, fnEnd, *])

theorem cut_from (ts : List T) {k : Nat} (h : k ≤ ts.length) : cutT ts (some (k : Int)) none = ts.drop k := by
  unfold cutT
  rw [HT.sIx_none, HT.sIx_nat, Nat.min_eq_left h]
  exact List.take_of_length_le (by rw [List.length_drop]; omega)
theorem cut_to (ts : List T) {k : Nat} (h : k ≤ ts.length) : cutT ts none (some (k : Int)) = ts.take k := by
  unfold cutT
  rw [HT.sIx_none, HT.sIx_nat, Nat.min_eq_left h]
  rfl
theorem tw_take (w : List Nat) (k : Nat) : tw (w.take k) = (tw w).take k := by unfold tw; rw [List.map_take]
theorem tw_drop (w : List Nat) (k : Nat) : tw (w.drop k) = (tw w).drop k := by unfold tw; rw [List.map_drop]
theorem sl_lf (w : List Nat) {k : Nat} (h : k ≤ w.length) : slT' (.lst (tw w)) (some (k : Int)) none = some (.ow (.lst (tw (w.drop k)))) := by
  show some (Slot.ow (T.lst (cutT (tw w) (some (k : Int)) none))) = _
  rw [cut_from _ (by rw [tw_length]; exact h), tw_drop]
theorem sl_lt (w : List Nat) {k : Nat} (h : k ≤ w.length) : slT' (.lst (tw w)) none (some (k : Int)) = some (.ow (.lst (tw (w.take k)))) := by
  show some (Slot.ow (T.lst (cutT (tw w) none (some (k : Int))))) = _
  rw [cut_to _ (by rw [tw_length]; exact h), tw_take]
theorem sl_tf (w : List Nat) {k : Nat} (h : k ≤ w.length) : slT' (.tup (tw w)) (some (k : Int)) none = some (.sh (.tup (tw (w.drop k)))) := by
  show some (Slot.sh (T.tup (cutT (tw w) (some (k : Int)) none))) = _
  rw [cut_from _ (by rw [tw_length]; exact h), tw_drop]
theorem sl_tt (w : List Nat) {k : Nat} (h : k ≤ w.length) : slT' (.tup (tw w)) none (some (k : Int)) = some (.sh (.tup (tw (w.take k)))) := by
  show some (Slot.sh (T.tup (cutT (tw w) none (some (k : Int))))) = _
  rw [cut_to _ (by rw [tw_length]; exact h), tw_take]
theorem cat_l (a b : List Nat) (h : a.length + b.length ≤ 1000) : addT (.lst (tw a)) (.lst (tw b)) = some (.ow (.lst (tw (a ++ b)))) := by
  show (if (tw a).length + (tw b).length ≤ sz then some (Slot.ow (T.lst (tw a ++ tw b))) else none) = _
  rw [if_pos (by rw [tw_length, tw_length]; exact len_sz (by omega)), tw_append]
theorem cat_t (a b : List Nat) (h : a.length + b.length ≤ 1000) : addT (.tup (tw a)) (.tup (tw b)) = some (.sh (.tup (tw (a ++ b)))) := by
  show (if (tw a).length + (tw b).length ≤ sz then some (Slot.sh (T.tup (tw a ++ tw b))) else none) = _
  rw [if_pos (by rw [tw_length, tw_length]; exact len_sz (by omega)), tw_append]
theorem rev_w (b : Bool) (w : List Nat) : revA (sq b (tw w)) = some (if b = true then .sh (.tup (tw w.reverse)) else .ow (.lst (tw w.reverse))) := by
  cases b
  · show some (Slot.ow (T.lst (tw w).reverse)) = _
    unfold tw
    rw [← List.map_reverse]
    rfl
  · show some (Slot.sh (T.tup (tw w).reverse)) = _
    unfold tw
    rw [← List.map_reverse]
    rfl
theorem fm_tw (f : Nat → Nat) : ∀ w : List Nat, (w.filterMap fun x => some (sT (f x))) = tw (w.map f)
  | [] => rfl
  | x :: w => congrArg (sT (f x) :: ·) (fm_tw f w)
theorem fm_tt (f : Nat → List Nat) : ∀ w : List Nat, (w.filterMap fun x => some (T.tup (tw (f x)))) = (w.map f).map fun c => .tup (tw c)
  | [] => rfl
  | x :: w => congrArg (T.tup (tw (f x)) :: ·) (fm_tt f w)
section
variable {w : List Nat} {nb : Nib}
theorem r_turned_over (b : Bool) (h : ∀ x ∈ w, x < 52) (hl : w.length ≤ 1000) (nb : Nib) : f_turned_over [sq b (tw w)] nb = .ok (.sh (.tup (tw (ov w)))) nb := by
  have e1 : b_turned_over_C1 ⟨[.sh (sq b (tw w)), .no], [], nb⟩ = .ok (.ow (.lst (tw (ov w)))) ⟨[.sh (sq b (tw w)), .no], [], nb⟩ := by
    have e0 := rev_w b w
    refine (compF_map (S1 := ⟨[.sh (sq b (tw w)), .no], [], nb⟩) w.reverse sT (fun x => some (sT (tu x))) ?_ rfl rfl (len_sz (by rw [List.length_reverse]; omega)) (fun x hm acc => ?_)).trans (by rw [fm_tw]; rfl)
    · cases b
      · replace e0 : revA (.lst (tw w)) = some (.ow (.lst (tw w.reverse))) := e0
        clear h hl
        show seqI (opE (op1 revA (var 0))) ⟨[.sh (.lst (tw w)), .no], [], nb⟩ = .ok (tw w.reverse) ⟨[.sh (.lst (tw w)), .no], [], nb⟩
        trivial
      · replace e0 : revA (.tup (tw w)) = some (.sh (.tup (tw w.reverse))) := e0
        clear h hl
        show seqI (opE (op1 revA (var 0))) ⟨[.sh (.tup (tw w)), .no], [], nb⟩ = .ok (tw w.reverse) ⟨[.sh (.tup (tw w)), .no], [], nb⟩
        trivial
    · have e2 := x_turn nb x (h x (List.mem_reverse.mp hm))
      clear e0 hm h hl
      exact compStep_map (S1 := ⟨[.sh (sq b (tw w)), .sh (sT x)], [] ++ [.ow (.lst acc)], nb⟩) rfl (by trivial; rfl) rfl rfl
  have e2 := tuple_l (tw (ov w))
  have s2 : f_turned_over [sq b (tw w)] nb = fnEnd (b_turned_over ⟨[.sh (sq b (tw w)), .no], [], nb⟩) := rfl
  obtain ⟨o, ho⟩ : ∃ o, o = ov w := ⟨_, rfl⟩
  rw [← ho] at e1 e2 ⊢
  rw [s2]
  unfold b_turned_over
  clear h hl s2 ho
  trivial
theorem r_turned_word (b : Bool) (h : ∀ x ∈ w, x < 52) (hl : w.length ≤ 1000) (nb : Nib) : f_turned_word [sq b (tw w)] nb = .ok (.sh (.tup (tw (ov w)))) nb := by
  have e1 := r_turned_over b h hl nb
  have e2 := r_need b h hl (.str "word") nb
  have s2 : f_turned_word [sq b (tw w)] nb = fnEnd (b_turned_word ⟨[.sh (sq b (tw w))], [], nb⟩) := rfl
  obtain ⟨o, ho⟩ : ∃ o, o = ov w := ⟨_, rfl⟩
  rw [← ho] at e1 ⊢
  rw [s2]
  unfold b_turned_word
  clear h hl s2 ho
  trivial
theorem r_begun (b : Bool) (hl : w.length ≤ 400) (nb : Nib) : f_begun_anew [sq b (tw w)] nb = .ok (.ow (.lst ((rots w).map fun c => .tup (tw c)))) nb := by
  have e0 : ∀ S, kRng (.val (.int (w.length : Int))) S = .ok (tn (List.range w.length)) S := fun S => kRng_n S _ (by omega)
  have e9 := len_w b w
  have e1 : b_begun_anew_C1 ⟨[.sh (sq b (tw w)), .no], [], nb⟩ = .ok (.ow (.lst ((rots w).map fun c => .tup (tw c)))) ⟨[.sh (sq b (tw w)), .no], [], nb⟩ := by
    refine (compF_map (S1 := ⟨[.sh (sq b (tw w)), .no], [], nb⟩) (List.range w.length) (fun (k : Nat) => T.int (k : Int)) (fun k => some (.tup (tw (w.drop k ++ w.take k)))) (by clear hl; trivial; rfl) rfl rfl (len_sz (by rw [List.length_range]; omega)) (fun k hm acc => ?_)).trans (by rw [fm_tt]; rfl)
    have hk := List.mem_range.mp hm
    have e4 := cat_t (w.drop k) (w.take k) (by rw [List.length_drop, List.length_take]; omega)
    obtain ⟨z, hz⟩ : ∃ z, z = w.drop k ++ w.take k := ⟨_, rfl⟩
    rw [← hz] at e4 ⊢
    cases b
    · have e2 := sl_lf w (k := k) (by omega)
      have e3 := sl_lt w (k := k) (by omega)
      have e5 := tuple_l (tw (w.drop k))
      have e6 := tuple_l (tw (w.take k))
      obtain ⟨p, hp⟩ : ∃ p, p = w.drop k := ⟨_, rfl⟩
      obtain ⟨q, hq⟩ : ∃ q, q = w.take k := ⟨_, rfl⟩
      rw [← hp] at e2 e4 e5
      rw [← hq] at e3 e4 e6
      clear e0 e9 hm hk hl hz hp hq
      exact compStep_map (S1 := ⟨[.sh (.lst (tw w)), .sh (.int (k : Int))], [] ++ [.ow (.lst acc)], nb⟩) rfl (by trivial; rfl) rfl rfl
    · have e2 := sl_tf w (k := k) (by omega)
      have e3 := sl_tt w (k := k) (by omega)
      have e5 : ∀ ts : List T, tupleN [.tup ts] = some (.sh (.tup ts)) := fun _ => rfl
      obtain ⟨p, hp⟩ : ∃ p, p = w.drop k := ⟨_, rfl⟩
      obtain ⟨q, hq⟩ : ∃ q, q = w.take k := ⟨_, rfl⟩
      rw [← hp] at e2 e4
      rw [← hq] at e3 e4
      clear e0 e9 hm hk hl hz hp hq
      exact compStep_map (S1 := ⟨[.sh (.tup (tw w)), .sh (.int (k : Int))], [] ++ [.ow (.lst acc)], nb⟩) rfl (by trivial; rfl) rfl rfl
  have s2 : f_begun_anew [sq b (tw w)] nb = fnEnd (b_begun_anew ⟨[.sh (sq b (tw w)), .no], [], nb⟩) := rfl
  rw [s2]
  unfold b_begun_anew
  clear hl s2 e0 e9
  trivial
theorem r_least_word (b : Bool) (h : ∀ x ∈ w, x < 52) (hl : w.length ≤ 400) (nb : Nib) : f_least_word [sq b (tw w)] nb = .ok (.sh (.tup (tw (lst w)))) nb := by
  have e1 := r_begun b hl nb
  have e2 := r_turned_over b h (by omega) nb
  have e3 : f_begun_anew [.tup (tw (ov w))] nb = _ := r_begun true (w := ov w) (by rw [ov_len]; omega) nb
  have e4 := min_tw (rots w ++ rots (ov w)) (fun c hc => by
    rcases List.mem_append.mp hc with hc | hc
    · exact rots_lt h c hc
    · exact rots_lt (ov_lt h) c hc)
  rw [← lst_O, List.map_append] at e4
  have s2 : f_least_word [sq b (tw w)] nb = fnEnd (b_least_word ⟨[.sh (sq b (tw w))], [], nb⟩) := rfl
  obtain ⟨o, ho⟩ : ∃ o, o = ov w := ⟨_, rfl⟩
  rw [← ho] at e2 e3 e4
  obtain ⟨A, hA⟩ : ∃ A : List T, A = (rots w).map fun c => .tup (tw c) := ⟨_, rfl⟩
  obtain ⟨B, hB⟩ : ∃ B : List T, B = (rots o).map fun c => .tup (tw c) := ⟨_, rfl⟩
  rw [← hA] at e1 e4
  rw [← hB] at e3 e4
  obtain ⟨m, hm⟩ : ∃ m, m = lst w := ⟨_, rfl⟩
  rw [← hm] at e4 ⊢
  have l1 : A.length + B.length ≤ sz := by
    rw [hA, hB, List.length_map, List.length_map]
    unfold rots
    rw [List.length_map, List.length_map, List.length_range, List.length_range, ho, ov_len]
    exact len_sz (by omega)
  rw [s2]
  have e5 : A ++ (B ++ []) = A ++ B := by rw [List.append_nil]
  have e6 : ∀ S : Sta, TL.gLst (some (A ++ B)) S = .ok (.ow (.lst (A ++ B))) S := fun S => if_pos (by rw [List.length_append]; exact l1)
  have kk : b_least_word ⟨[.sh (sq b (tw w))], [], nb⟩ = .ok (.rt (.sh (.tup (tw m)))) ⟨[.sh (sq b (tw w))], [], nb⟩ := by
    unfold b_least_word
    clear h hl s2 ho hA hB hm l1
    trivial
  rw [kk]
  rfl
theorem r_round (b : Bool) (h : ∀ x ∈ w, x < 52) (hl : w.length ≤ 400) (nb : Nib) : f_round_of [sq b (tw w)] nb = .ok (.sh (.tup (tw (lst w)))) nb := by
  have e1 := r_least_word b h hl nb
  have e2 := r_need b h (by omega) (.str "word") nb
  have s2 : f_round_of [sq b (tw w)] nb = fnEnd (b_round_of ⟨[.sh (sq b (tw w))], [], nb⟩) := rfl
  obtain ⟨o, ho⟩ : ∃ o, o = lst w := ⟨_, rfl⟩
  rw [← ho] at e1 ⊢
  rw [s2]
  unfold b_round_of
  clear h hl s2 ho
  trivial
theorem r_rank (h : ∀ x ∈ w, x < 52) (hl : w.length ≤ 1000) (nb : Nib) : f_law_rank [.lst (tw w)] nb = .ok (.ow (.lst (tn w))) nb := by
  have e1 : b_law_rank_C1 ⟨[.sh (.lst (tw w)), .no], [], nb⟩ = .ok (.ow (.lst (tn w))) ⟨[.sh (.lst (tw w)), .no], [], nb⟩ := by
    refine (compF_map (S1 := ⟨[.sh (.lst (tw w)), .no], [], nb⟩) w sT (fun x => some (.int (x : Int))) (by clear h hl; trivial; rfl) rfl rfl (len_sz (by omega)) (fun x hm acc => ?_)).trans (by
      congr 3
      unfold tn
      rw [← List.filterMap_eq_map]
      rfl)
    exact compStep_map (S1 := ⟨[.sh (.lst (tw w)), .sh (sT x)], [] ++ [.ow (.lst acc)], nb⟩) rfl (x_rank _ _ nb x (h x hm)) rfl rfl
  have s2 : f_law_rank [.lst (tw w)] nb = fnEnd (b_law_rank ⟨[.sh (.lst (tw w)), .no], [], nb⟩) := rfl
  rw [s2]
  unfold b_law_rank
  clear h hl s2
  trivial
/-- the element of the law's own turning over -/
def eltO : EF := ite3 (tst (op2 TL.eqT (opE (opN lenN (consA (var 2) (nilA)))) (opE (con (.int 2))))) (op2 ixT (var 2) (opE (con (.int 0)))) (op2 addT (var 2) (opE (con (.str "'"))))
theorem x_elt (x0 x1 : Slot) (nb : Nib) {r : Nat} (hr : r < 52) : lstF (consA (opE eltO) (nilA)) ⟨[x0, x1, .sh (sT r)], [], nb⟩ = .ok (.ow (.lst [sT (tu r)])) ⟨[x0, x1, .sh (sT r)], [], nb⟩ := by
  by_cases h : r % 2 = 0
  · obtain ⟨e1, e2, _⟩ := x_even r hr h
    have e3 : TL.eqT (.int 1) (.int 2) = some (.sh (.bl false)) := by rw [TL.eq_int]; rfl
    clear hr h
    unfold eltO
    trivial
  · obtain ⟨e1, e2⟩ := x_odd r hr h
    have e3 : TL.eqT (.int 2) (.int 2) = some (.sh (.bl true)) := by rw [TL.eq_int]; rfl
    clear hr h
    unfold eltO
    trivial
theorem ov_step {r : Nat} {f : List Nat} (hr : r < 52) (hf : f.length ≤ 900) (x0 : Slot) (nb : Nib) : b_law_over_L1 ⟨[x0, .ow (.lst (tw f)), .sh (sT r)], [], nb⟩ = .ok .nx ⟨[x0, .ow (.lst (tw (tu r :: f))), .sh (sT r)], [], nb⟩ := by
  have e1 := x_elt x0 (.ow (.lst (tw f))) nb hr
  have e2 : addT (.lst [sT (tu r)]) (.lst (tw f)) = some (.ow (.lst (tw (tu r :: f)))) := cat_l [tu r] f (by rw [List.length_singleton]; omega)
  show setF 1 (op2 addT (opE (lstF (consA (opE eltO) (nilA)))) (var 1)) _ = _
  obtain ⟨g, hg⟩ : ∃ g, g = lstF (consA (opE eltO) (nilA)) := ⟨_, rfl⟩
  rw [← hg] at e1 ⊢
  clear hr hf hg
  trivial
theorem ov_loop (x0 : Slot) (nb : Nib) : ∀ (u f : List Nat) (x2 : Slot), (∀ x ∈ u, x < 52) → f.length + u.length ≤ 900 → ∃ x2', forL (.nm 2) b_law_over_L1 (tw u) ⟨[x0, .ow (.lst (tw f)), x2], [], nb⟩ = .ok .nx ⟨[x0, .ow (.lst (tw ((u.map tu).reverse ++ f))), x2'], [], nb⟩
  | [], f, x2, _, _ => ⟨x2, rfl⟩
  | r :: u, f, x2, h, hl => by
    rw [List.length_cons] at hl
    obtain ⟨x2', e⟩ := ov_loop x0 nb u (tu r :: f) (.sh (sT r)) (fun x hx => h x (List.mem_cons_of_mem _ hx)) (by rw [List.length_cons]; omega)
    refine ⟨x2', ?_⟩
    have e1 := ov_step (h r List.mem_cons_self) (f := f) (by omega) x0 nb
    rw [tw_cons, forL_cons]
    show ((b_law_over_L1 ⟨[x0, .ow (.lst (tw f)), .sh (sT r)], [], nb⟩).bind _) = _
    rw [e1, R.bind_ok]
    refine e.trans ?_
    rw [List.map_cons, List.reverse_cons, List.append_assoc]
    rfl
theorem r_over (h : ∀ x ∈ w, x < 52) (hl : w.length ≤ 900) (nb : Nib) : f_law_over [.lst (tw w)] nb = .ok (.ow (.lst (tw (ov w)))) nb := by
  obtain ⟨x2, e1⟩ := ov_loop (.sh (.lst (tw w))) nb w [] .no h (by rw [List.length_nil]; omega)
  have e2 : (w.map tu).reverse ++ [] = ov w := by
    rw [List.append_nil]
    unfold ov
    rw [List.map_reverse]
  rw [e2] at e1
  obtain ⟨o, ho⟩ : ∃ o, o = ov w := ⟨_, rfl⟩
  rw [← ho] at e1 ⊢
  replace e1 : forL (.nm 2) b_law_over_L1 (tw w) ⟨[.sh (.lst (tw w)), .ow (.lst []), .no], [], nb⟩ = _ := e1
  have s2 : f_law_over [.lst (tw w)] nb = fnEnd (b_law_over ⟨[.sh (.lst (tw w)), .no, .no], [], nb⟩) := rfl
  rw [s2]
  unfold b_law_over
  clear h hl s2 ho e2
  trivial
def OS (x : Slot) (ts : List T) : Prop := x = .ow (.lst ts) ∨ x = .sh (.lst ts)
theorem ls_step {u m : List Nat} {k : Nat} (hu : ∀ x ∈ u, x < 52) (hm : ∀ x ∈ m, x < 52) (hk : k < u.length) (hl : u.length ≤ 400) (hl2 : m.length ≤ 1000) (x0 x1 x4 : Slot) (hx : OS x1 (tw m)) (nb : Nib) :
    b_law_least_L1 ⟨[x0, x1, .sh (.lst (tw u)), .sh (.int (k : Int)), x4], [], nb⟩ = .ok .nx ⟨[x0, .sh (.lst (tw (if ltN (u.drop k ++ u.take k) m = true then u.drop k ++ u.take k else m))), .sh (.lst (tw u)), .sh (.int (k : Int)), .sh (.lst (tw (u.drop k ++ u.take k)))], [], nb⟩ := by
  have e2 := sl_lf u (k := k) (by omega)
  have e3 := sl_lt u (k := k) (by omega)
  have e4 := cat_l (u.drop k) (u.take k) (by rw [List.length_drop, List.length_take]; omega)
  obtain ⟨c, hc⟩ : ∃ c, c = u.drop k ++ u.take k := ⟨_, rfl⟩
  have hc1 : ∀ x ∈ c, x < 52 := fun x hx => by
    rw [hc] at hx
    rcases List.mem_append.mp hx with hx | hx
    · exact hu x (List.mem_of_mem_drop hx)
    · exact hu x (List.mem_of_mem_take hx)
  have hc2 : c.length ≤ 1000 := by
    rw [hc, List.length_append, List.length_drop, List.length_take]
    omega
  rw [← hc] at e4 ⊢
  have e5 := r_rank hc1 hc2 nb
  have e6 := r_rank hm hl2 nb
  have e7 := lt_tn c m
  obtain ⟨p, hp⟩ : ∃ p, p = u.drop k := ⟨_, rfl⟩
  obtain ⟨q, hq⟩ : ∃ q, q = u.take k := ⟨_, rfl⟩
  rw [← hp] at e2 e4
  rw [← hq] at e3 e4
  clear hu hm hk hl hl2 hc1 hc2 hc hp hq
  by_cases h : ltN c m = true
  · rw [h] at e7
    rw [if_pos h]
    clear h
    rcases hx with e | e
    · subst e
      unfold b_law_least_L1
      trivial
    · subst e
      unfold b_law_least_L1
      trivial
  · rw [if_neg h]
    rw [Bool.eq_false_iff.mpr h] at e7
    clear h
    rcases hx with e | e
    · subst e
      unfold b_law_least_L1
      trivial
    · subst e
      unfold b_law_least_L1
      trivial
end
end K35

end
section
set_option Elab.async false
set_option linter.all false
set_option maxRecDepth 100000
set_option autoImplicit false
set_option maxHeartbeats 400000
open PySem PySem.Spec PyProof.Rows L2
open TL hiding eqT neT
namespace K35
local macro_rules | `(tactic| trivial) => `(tactic| simp -implicitDefEqProofs only [w_callBF, kCallB_ap, gCallB_ap, gFRB_ok, lf_int, lf_tn, lf_tr, lf_bl, w_setDF, kSetD_ap, gSetD0_ap, kSetD2_ap, gSetD_ap, w_okB, w_excB, w_dicF, w_starA, kStar_l, kStar_t, kStar2_ap, vals_star, w_callKF, kCallK_ap, kCallK2_ap, gCallK_ap, prm_nil, w_tryF, kTry_ok, kTry_exc, gTry_t, gTry_f, kTry2_ap, w_raiseF, kRaise_ap, gRaise_ap, w_par3F, kPar3a_ap, kPar3b_ap, kPar3c_ap, gPar_exc, gPar_exc1, w_slF, kSl1_ap, kSl2_ap, kSl3_ap, w_someB, kSome_ap, w_noB, w_rngI2, kRng2_ap, List.nil_append, List.cons_append,  w_con, w_opE, kOpE_sh, kOpE_ow, w_nilA, w_consA, kCons_ap, kCons2_ap, w_op2, kOp2_ap, kOp2'_ap, gOp2_ap, w_op1, kOp1_ap, gOp1_ap, w_opN, kOpN_ap, gOpN_ap, w_res, w_tst, kTst_ap, w_chn, kChn_ap, kChn2_ap, gChn_ap, hChn_t, hChn_f, kChn3_ap, w_andT, kAndT_t, kAndT_f, w_orT, kOrT_t, kOrT_f, w_notT, kNotT_ap, w_andE, kAndE_t, kAndE_f, w_orE, kOrE_t, kOrE_f, w_notE, kNotE_ap, w_ite3, kIte3_t, kIte3_f, w_lstF, kLst_ap, w_tupF, kTup_ap, gLst_ap, gTup_ap, w_seq, kSeq_nx, kSeq_rt, kSeq_bk, kSeq_ct, w_nxF, w_bkF, w_ctF, w_retF, kRet_ap, w_retNF, w_dropF, kDrop_ap, w_ifF, kIfF_t, kIfF_f, w_setF, kSet_ap, w_asgF, kAsg_ap, gAsg_ap, w_forF, kFor_ap, w_forL, w_forL0, gForL_ap, kForL_nx, kForL_ct, kForL_bk, kForL_rt, w_callF, kCall_ap, gCall_ap, gFR_ok, gFR_exc, w_seqI, kSeqI_l, kSeqI_t, w_enumI, kEnumI_l, kEnumI_t, w_zipI, kZip_ap, kZip2_l, kZip2_t, w_rngI1, kRng_n, w_yesT, w_var, w_varE, w_varR, gVar_sh, gVar_ow, gVarE_sh, gVarE_ow, gVarR_sh, gVarR_ow, get_pl, get_val, tree_sh, tree_ow, slot_tree_sh, slot_tree_ow, w_methF, gMeth0_ap, kMeth_ap, gMeth_ap, hMeth_ap, w_setIF, kSetI_ap, gSetI0_ap, kSetI2_ap, gSetI_ap, hSetI_ap, w_parF, kPar_ap, gPar_ap, gPar_one, nil_app, put_nm, put_tp, put_tpw, put_tpl, putAll_nil, putAll_cons, vals_nil, vals_cons, gets_nil, gets_cons, Option.map_some, Option.bind_some, List.getElem?_cons_succ, List.getElem?_cons_zero, List.set_cons_succ, List.set_cons_zero, List.length_cons, List.length_nil, Nat.zero_add, Nat.reduceAdd, Nat.reduceLT, Nat.reduceLeDiff, Nat.le_refl, and_self, ↓reduceIte, Bool.not_true, Bool.not_false, fnEnd, *])

section
variable {w : List Nat} {nb : Nib}
theorem ls_loop {u : List Nat} (hu : ∀ x ∈ u, x < 52) (hl : u.length ≤ 400) (x0 : Slot) (nb : Nib) : ∀ (l m : List Nat) (x1 x3 x4 : Slot), (∀ k ∈ l, k < u.length) → (∀ x ∈ m, x < 52) → m.length ≤ 1000 → OS x1 (tw m) →
    ∃ x1' x3' x4', OS x1' (tw (mnL m (l.map fun k => u.drop k ++ u.take k))) ∧ forL (.nm 3) b_law_least_L1 (tn l) ⟨[x0, x1, .sh (.lst (tw u)), x3, x4], [], nb⟩ = .ok .nx ⟨[x0, x1', .sh (.lst (tw u)), x3', x4'], [], nb⟩
  | [], m, x1, x3, x4, _, _, _, hx => ⟨x1, x3, x4, hx, rfl⟩
  | k :: l, m, x1, x3, x4, hk, hm, h2, hx => by
    have hk0 := hk k List.mem_cons_self
    have hc1 : ∀ x ∈ u.drop k ++ u.take k, x < 52 := fun x hx => by
      rcases List.mem_append.mp hx with hx | hx
      · exact hu x (List.mem_of_mem_drop hx)
      · exact hu x (List.mem_of_mem_take hx)
    have hc2 : (u.drop k ++ u.take k).length ≤ 1000 := by
      rw [List.length_append, List.length_drop, List.length_take]
      omega
    have e1 := ls_step hu hm hk0 hl h2 x0 x1 x4 hx nb
    obtain ⟨x1', x3', x4', hx', e2⟩ := ls_loop hu hl x0 nb l (if ltN (u.drop k ++ u.take k) m = true then u.drop k ++ u.take k else m) (.sh (.lst (tw (if ltN (u.drop k ++ u.take k) m = true then u.drop k ++ u.take k else m)))) (.sh (.int (k : Int))) (.sh (.lst (tw (u.drop k ++ u.take k)))) (fun j hj => hk j (List.mem_cons_of_mem _ hj)) (by split <;> assumption) (by split <;> assumption) (.inr rfl)
    refine ⟨x1', x3', x4', hx', ?_⟩
    rw [tn_cons, forL_cons]
    show ((b_law_least_L1 ⟨[x0, x1, .sh (.lst (tw u)), .sh (.int (k : Int)), x4], [], nb⟩).bind _) = _
    rw [e1, R.bind_ok]
    exact e2
theorem ls_own {u m : List Nat} (hu : ∀ x ∈ u, x < 52) (hl : u.length ≤ 400) (hm : ∀ x ∈ m, x < 52) (h2 : m.length ≤ 1000) (x0 x1 x3 x4 : Slot) (hx : OS x1 (tw m)) (nb : Nib) :
    ∃ x1' x3' x4', OS x1' (tw (mnL m (rots u))) ∧ b_law_least_L2 ⟨[x0, x1, .sh (.lst (tw u)), x3, x4], [], nb⟩ = .ok .nx ⟨[x0, x1', .sh (.lst (tw u)), x3', x4'], [], nb⟩ := by
  obtain ⟨x1', x3', x4', hx', e1⟩ := ls_loop hu hl x0 nb (List.range u.length) m x1 x3 x4 (fun k hk => List.mem_range.mp hk) hm h2 hx
  refine ⟨x1', x3', x4', hx', ?_⟩
  have e0 : ∀ S, kRng (.val (.int (u.length : Int))) S = .ok (tn (List.range u.length)) S := fun S => kRng_n S _ (by omega)
  have e2 : lenN [.lst (tw u)] = some (.sh (.int (u.length : Int))) := len_w false u
  unfold b_law_least_L2
  clear hu hl hm h2 hx hx'
  trivial
theorem mnL_append (m : List Nat) (A B : List (List Nat)) : mnL m (A ++ B) = mnL (mnL m A) B := by
  unfold mnL
  rw [List.foldl_append]
theorem mnL_lt {m : List Nat} {A : List (List Nat)} (hm : ∀ x ∈ m, x < 52) (hA : ∀ c ∈ A, ∀ x ∈ c, x < 52) : ∀ x ∈ mnL m A, x < 52 := by
  rcases List.mem_cons.mp (mnL_spec A m).1 with e | e
  · rw [e]; exact hm
  · exact hA _ e
theorem mnL_len {m : List Nat} {A : List (List Nat)} {n : Nat} (hm : m.length ≤ n) (hA : ∀ c ∈ A, c.length ≤ n) : (mnL m A).length ≤ n := by
  rcases List.mem_cons.mp (mnL_spec A m).1 with e | e
  · rw [e]; exact hm
  · exact hA _ e
theorem rots_len (w : List Nat) : ∀ c ∈ rots w, c.length ≤ w.length := fun c hc => by
  unfold rots at hc
  obtain ⟨k, _, e⟩ := List.mem_map.mp hc
  rw [← e, List.length_append, List.length_drop, List.length_take]
  omega
theorem r_law_least (h : ∀ x ∈ w, x < 52) (hl : w.length ≤ 400) (nb : Nib) : f_law_least [.lst (tw w)] nb = .ok (.sh (.tup (tw (lst w)))) nb := by
  have e1 := r_over h (by omega) nb
  obtain ⟨y1, y3, y4, hy, e2⟩ := ls_own (nb := nb) h hl h (by omega) (.sh (.lst (tw w))) (.ow (.lst (tw w))) .no .no (.inl rfl)
  obtain ⟨z1, z3, z4, hz, e3⟩ := ls_own (nb := nb) (u := ov w) (m := mnL w (rots w)) (ov_lt h) (by rw [ov_len]; omega) (mnL_lt h (rots_lt h)) (mnL_len (by omega) (fun c hc => by have := rots_len w c hc; omega)) (.sh (.lst (tw w))) y1 y3 y4 hy
  have em : mnL (mnL w (rots w)) (rots (ov w)) = lst w := by
    rw [← mnL_append, ← lawLst_eq]
    rfl
  rw [em] at hz
  have e4 : ∀ ts : List T, listN [.lst ts] = some (.ow (.lst ts)) := fun _ => rfl
  have e5 : forL (.nm 2) b_law_least_L2 [.lst (tw w), .lst (tw (ov w))] ⟨[.sh (.lst (tw w)), .ow (.lst (tw w)), .no, .no, .no], [], nb⟩ = .ok .nx ⟨[.sh (.lst (tw w)), z1, .sh (.lst (tw (ov w))), z3, z4], [], nb⟩ := by
    rw [forL_cons]
    show ((b_law_least_L2 ⟨[.sh (.lst (tw w)), .ow (.lst (tw w)), .sh (.lst (tw w)), .no, .no], [], nb⟩).bind _) = _
    rw [e2, R.bind_ok]
    show forL (.nm 2) b_law_least_L2 [.lst (tw (ov w))] ⟨[.sh (.lst (tw w)), y1, .sh (.lst (tw w)), y3, y4], [], nb⟩ = _
    rw [forL_cons]
    show ((b_law_least_L2 ⟨[.sh (.lst (tw w)), y1, .sh (.lst (tw (ov w))), y3, y4], [], nb⟩).bind _) = _
    rw [e3, R.bind_ok]
    rfl
  have e6 := tuple_l (tw (lst w))
  have s2 : f_law_least [.lst (tw w)] nb = fnEnd (b_law_least ⟨[.sh (.lst (tw w)), .no, .no, .no, .no], [], nb⟩) := rfl
  obtain ⟨o, ho⟩ : ∃ o, o = ov w := ⟨_, rfl⟩
  rw [← ho] at e1 e5
  obtain ⟨m, hm⟩ : ∃ m, m = lst w := ⟨_, rfl⟩
  rw [← hm] at e6 hz ⊢
  rw [s2]
  have kk : b_law_least ⟨[.sh (.lst (tw w)), .no, .no, .no, .no], [], nb⟩ = .ok (.rt (.sh (.tup (tw m)))) ⟨[.sh (.lst (tw w)), z1, .sh (.lst (tw o)), z3, z4], [], nb⟩ := by
    unfold b_law_least
    clear h hl e2 e3 em s2 ho hm hy
    refine seq_nx (S1 := ⟨[.sh (.lst (tw w)), .ow (.lst (tw w)), .no, .no, .no], [], nb⟩) (by clear e1 e5 e6 hz; trivial) ?_
    refine seq_nx (S1 := ⟨[.sh (.lst (tw w)), z1, .sh (.lst (tw o)), z3, z4], [], nb⟩) (by clear e6 hz; trivial) ?_
    clear e1 e4 e5
    rcases hz with e | e
    · subst e
      trivial
    · subst e
      trivial
  rw [kk]
  rfl
end
end K35

end
section
set_option Elab.async false
set_option linter.all false
set_option maxRecDepth 100000
set_option autoImplicit false
set_option maxHeartbeats 400000
open PySem PySem.Spec PyProof.Rows L2
open TL hiding eqT neT
namespace K35
local macro_rules | `(tactic| trivial) => `(tactic| simp -implicitDefEqProofs only [w_callBF, kCallB_ap, gCallB_ap, gFRB_ok, lf_int, lf_tn, lf_tr, lf_bl, w_setDF, kSetD_ap, gSetD0_ap, kSetD2_ap, gSetD_ap, w_okB, w_excB, w_dicF, w_starA, kStar_l, kStar_t, kStar2_ap, vals_star, w_callKF, kCallK_ap, kCallK2_ap, gCallK_ap, prm_nil, w_tryF, kTry_ok, kTry_exc, gTry_t, gTry_f, kTry2_ap, w_raiseF, kRaise_ap, gRaise_ap, w_par3F, kPar3a_ap, kPar3b_ap, kPar3c_ap, gPar_exc, gPar_exc1, w_slF, kSl1_ap, kSl2_ap, kSl3_ap, w_someB, kSome_ap, w_noB, w_rngI2, kRng2_ap, List.nil_append, List.cons_append,  w_con, w_opE, kOpE_sh, kOpE_ow, w_nilA, w_consA, kCons_ap, kCons2_ap, w_op2, kOp2_ap, kOp2'_ap, gOp2_ap, w_op1, kOp1_ap, gOp1_ap, w_opN, kOpN_ap, gOpN_ap, w_res, w_tst, kTst_ap, w_chn, kChn_ap, kChn2_ap, gChn_ap, hChn_t, hChn_f, kChn3_ap, w_andT, kAndT_t, kAndT_f, w_orT, kOrT_t, kOrT_f, w_notT, kNotT_ap, w_andE, kAndE_t, kAndE_f, w_orE, kOrE_t, kOrE_f, w_notE, kNotE_ap, w_ite3, kIte3_t, kIte3_f, w_lstF, kLst_ap, w_tupF, kTup_ap, gLst_ap, gTup_ap, w_seq, kSeq_nx, kSeq_rt, kSeq_bk, kSeq_ct, w_nxF, w_bkF, w_ctF, w_retF, kRet_ap, w_retNF, w_dropF, kDrop_ap, w_ifF, kIfF_t, kIfF_f, w_setF, kSet_ap, w_asgF, kAsg_ap, gAsg_ap, w_forF, kFor_ap, w_forL, w_forL0, gForL_ap, kForL_nx, kForL_ct, kForL_bk, kForL_rt, w_callF, kCall_ap, gCall_ap, gFR_ok, gFR_exc, w_seqI, kSeqI_l, kSeqI_t, w_enumI, kEnumI_l, kEnumI_t, w_zipI, kZip_ap, kZip2_l, kZip2_t, w_rngI1, kRng_n, w_yesT, w_var, w_varE, w_varR, gVar_sh, gVar_ow, gVarE_sh, gVarE_ow, gVarR_sh, gVarR_ow, get_pl, get_val, tree_sh, tree_ow, slot_tree_sh, slot_tree_ow, w_methF, gMeth0_ap, kMeth_ap, gMeth_ap, hMeth_ap, w_setIF, kSetI_ap, gSetI0_ap, kSetI2_ap, gSetI_ap, hSetI_ap, w_parF, kPar_ap, gPar_ap, gPar_one, nil_app, put_nm, put_tp, put_tpw, put_tpl, putAll_nil, putAll_cons, vals_nil, vals_cons, gets_nil, gets_cons, Option.map_some, Option.bind_some, List.getElem?_cons_succ, List.getElem?_cons_zero, List.set_cons_succ, List.set_cons_zero, List.length_cons, List.length_nil, Nat.zero_add, Nat.reduceAdd, Nat.reduceLT, Nat.reduceLeDiff, Nat.le_refl, and_self, ↓reduceIte, Bool.not_true, Bool.not_false, fnEnd, *])
theorem compL_rel {own : List Nat} {tg : Tg} {tt : TF} {te : EF} {lo gh : List Slot} {I : Nat → Nib → Prop} {P : T → Prop} (hw : noes lo own = lo) : ∀ (ts acc : List T) (k : Nat) (nb : Nib), acc.length + ts.length ≤ sz →
    (∀ k' nb acc t, k ≤ k' → k' < k + ts.length → I k' nb → t ∈ ts → ∃ v nb', I (k' + 1) nb' ∧ P v ∧ compStep own tg tt te t ⟨lo, gh ++ [.ow (.lst acc)], nb⟩ = .ok (some v) ⟨lo, gh ++ [.ow (.lst acc)], nb'⟩) → I k nb →
    ∃ vs nb', I (k + ts.length) nb' ∧ vs.length = ts.length ∧ (∀ v ∈ vs, P v) ∧ compL own tg tt te ts ⟨lo, gh ++ [.ow (.lst acc)], nb⟩ = .ok () ⟨lo, gh ++ [.ow (.lst (acc ++ vs))], nb'⟩
  | [], acc, k, nb, _, _, h => ⟨[], nb, h, rfl, (fun _ h => nomatch h), by rw [List.append_nil]; rfl⟩
  | t :: ts, acc, k, nb, hl, hstep, h => by
    rw [List.length_cons] at hl
    obtain ⟨v, nb1, h1, hv, e1⟩ := hstep k nb acc t (Nat.le_refl _) (by rw [List.length_cons]; omega) h List.mem_cons_self
    obtain ⟨vs, nb2, h2, hl2, hv2, e2⟩ := compL_rel hw ts (acc ++ [v]) (k + 1) nb1 (by rw [List.length_append, List.length_singleton]; omega) (fun k' nb acc t h1 h2 h3 h4 => hstep k' nb acc t (by omega) (by rw [List.length_cons]; omega) h3 (List.mem_cons_of_mem _ h4)) h1
    refine ⟨v :: vs, nb2, by rw [List.length_cons, show k + (ts.length + 1) = k + 1 + ts.length by omega]; exact h2, by rw [List.length_cons, List.length_cons, hl2], fun u hu => (List.mem_cons.mp hu).elim (fun e => e ▸ hv) (hv2 u), ?_⟩
    have := compL_step (own := own) (tg := tg) (tt := tt) (te := te) (t := t) (ts := ts) (S := ⟨lo, gh, nb⟩) (S' := ⟨lo, gh, nb1⟩) (acc := acc) (v := some v) e1 (by show Sta.mk (noes lo own) gh nb1 = _; rw [hw]) (by omega)
    refine Eq.trans this ?_
    show compL own tg tt te ts ⟨lo, gh ++ [.ow (.lst (acc ++ [v]))], nb1⟩ = _
    rw [e2, List.append_assoc]
    rfl
theorem compF_rel {own : List Nat} {it : IF} {tg : Tg} {tt : TF} {te : EF} {S : Sta} {lo gh : List Slot} {nb : Nib} {ts : List T} (k : Nat) (I : Nat → Nib → Prop) (P : T → Prop) (hi : it S = .ok ts ⟨lo, gh, nb⟩) (hf : (own.all fun i => Slot.free lo[i]?) = true) (hs : (tg.slots.all fun i => own.contains i) = true)
    (hw : noes lo own = lo) (hl : ts.length ≤ sz)
    (hstep : ∀ k' nb acc t, k ≤ k' → k' < k + ts.length → I k' nb → t ∈ ts → ∃ v nb', I (k' + 1) nb' ∧ P v ∧ compStep own tg tt te t ⟨lo, gh ++ [.ow (.lst acc)], nb⟩ = .ok (some v) ⟨lo, gh ++ [.ow (.lst acc)], nb'⟩) (h : I k nb) :
    ∃ vs nb', I (k + ts.length) nb' ∧ vs.length = ts.length ∧ (∀ v ∈ vs, P v) ∧ compF own it tg tt te S = .ok (.ow (.lst vs)) ⟨lo, gh, nb'⟩ := by
  obtain ⟨vs, nb', h1, h2, h3, h4⟩ := compL_rel (gh := gh) hw ts [] k nb (by simpa using hl) hstep h
  refine ⟨vs, nb', h1, h2, h3, ?_⟩
  unfold compF
  rw [hi, R.bind_ok]
  have hc : ((own.all fun i => Slot.free lo[i]?) && (tg.slots.all fun i => own.contains i)) = true := by rw [hf, hs]; rfl
  rw [if_pos hc]
  have : (Sta.mk lo gh nb).wipe own = Sta.mk lo gh nb := by show Sta.mk (noes lo own) gh nb = _; rw [hw]
  rw [this]
  show (match compL own tg tt te ts ⟨lo, gh ++ [.ow (.lst [])], nb⟩ with
    | .ok () S2 => match S2.popG with
      | some (.ow (.lst acc), S3) => R.ok (Slot.ow (.lst acc)) (S3.back ⟨lo, gh, nb⟩ own)
      | _ => .stuck
    | _ => .stuck) = _
  rw [h4]
  dsimp only
  rw [popG_snoc, List.nil_append]
  show R.ok (Slot.ow (T.lst vs)) (Sta.mk (backs lo lo own) gh nb') = _
  have e : backs lo lo own = lo := by have := backs_noes lo own; rwa [hw] at this
  rw [e]

def abc : List Nat := (List.range 26).map fun i => 2 * i
theorem abc_ok : ∀ r ∈ abc, r < 52 ∧ r % 2 = 0 := by decide +kernel
theorem list_abc : listSN [.str "abcdefghijklmnopqrstuvwxyz"] = some (.ow (.lst (tw abc))) := by kernel_rfl
theorem mem_tw {w : List Nat} {t : T} (h : t ∈ tw w) : ∃ r ∈ w, t = sT r := by
  obtain ⟨r, h1, h2⟩ := List.mem_map.mp h
  exact ⟨r, h1, h2.symm⟩
theorem b_tip : b_law_wind = drawB 60101 2203 2147483629 71233 2203 2147483587 1907 60101 61403 2147483563 := rfl
theorem r_tip {k m : Nat} {nb : Nib} (h : NbOk k nb) (hk : k ≤ 100000) (hm : 0 < m) (hm2 : m ≤ 1000000000) : ∃ (r : Nat) (nb' : Nib), r < m ∧ NbOk (k + 1) nb' ∧ f_law_wind [.nib, .int (m : Int)] nb = .ok (.sh (.int (r : Int))) nb' := by
  obtain ⟨r, S, h1, h2, h3⟩ := run_draw (a := 60101) (b := 2203) (p1 := 2147483629) (c1 := 71233) (b1 := 2203) (p2 := 2147483587) (e := 1907) (a2 := 60101) (c2 := 61403) (p3 := 2147483563) (x2 := .no) (x3 := .no) (x4 := .no) (x5 := .no) h hk hm (by omega) (by omega) (by omega) (by omega) (by omega) (by omega) (by omega) (by omega) (by omega) (by omega)
  refine ⟨r, S.nb, h1, h2, ?_⟩
  show fnEnd (b_law_wind ⟨[.sh .nib, .sh (.int (m : Int)), .no, .no, .no, .no], [], nb⟩) = _
  rw [b_tip, h3]
  rfl
theorem r_pick {k : Nat} {nb : Nib} (h : NbOk k nb) (hk : k ≤ 100000) (L : List T) (h0 : 0 < L.length) (h1 : L.length ≤ 1000) : ∃ t nb', t ∈ L ∧ NbOk (k + 1) nb' ∧ f_law_pick [.nib, .lst L] nb = .ok (.sh t) nb' := by
  obtain ⟨r, nb1, hr, k1, e1⟩ := r_tip h hk (m := L.length) h0 (by omega)
  obtain ⟨t, g⟩ : ∃ t, L[r]? = some t := ⟨_, List.getElem?_eq_getElem hr⟩
  refine ⟨t, nb1, List.mem_of_getElem? g, k1, ?_⟩
  have e2 : lenN [.lst L] = some (.sh (.int (L.length : Int))) := rfl
  have e3 := ix_lst g
  have s2 : f_law_pick [.nib, .lst L] nb = fnEnd (b_law_pick ⟨[.sh .nib, .sh (.lst L)], [], nb⟩) := rfl
  rw [s2]
  unfold b_law_pick
  clear g hr h0 h1 h hk k1
  trivial
theorem r_pickw {k : Nat} {nb : Nib} (h : NbOk k nb) (hk : k ≤ 100000) (w : List Nat) (h0 : w ≠ []) (h1 : w.length ≤ 1000) : ∃ r nb', r ∈ w ∧ NbOk (k + 1) nb' ∧ f_law_pick [.nib, .lst (tw w)] nb = .ok (.sh (sT r)) nb' := by
  obtain ⟨t, nb', ht, k1, e⟩ := r_pick h hk (tw w) (by rw [tw_length]; exact List.length_pos_iff.mpr h0) (by rw [tw_length]; exact h1)
  obtain ⟨r, hr, et⟩ := mem_tw ht
  exact ⟨r, nb', hr, k1, by rw [e, et]⟩
theorem r_pickn {k : Nat} {nb : Nib} (h : NbOk k nb) (hk : k ≤ 100000) (l : List Nat) (h0 : l ≠ []) (h1 : l.length ≤ 1000) : ∃ r nb', r ∈ l ∧ NbOk (k + 1) nb' ∧ f_law_pick [.nib, .lst (tn l)] nb = .ok (.sh (.int (r : Int))) nb' := by
  obtain ⟨t, nb', ht, k1, e⟩ := r_pick h hk (tn l) (by rw [tn_length]; exact List.length_pos_iff.mpr h0) (by rw [tn_length]; exact h1)
  obtain ⟨r, hr, et⟩ := List.mem_map.mp ht
  exact ⟨r, nb', hr, k1, by rw [e, ← et]⟩
theorem all_tw {P : Nat → Prop} : ∀ {vs : List T}, (∀ v ∈ vs, ∃ r, P r ∧ v = sT r) → ∃ u, vs = tw u ∧ ∀ r ∈ u, P r
  | [], _ => ⟨[], rfl, fun r h => nomatch h⟩
  | v :: vs, h => by
    obtain ⟨r, hr, e⟩ := h v List.mem_cons_self
    obtain ⟨u, e2, hu⟩ := all_tw (vs := vs) fun x hx => h x (List.mem_cons_of_mem _ hx)
    refine ⟨r :: u, by rw [e, e2]; rfl, fun x hx => ?_⟩
    rcases List.mem_cons.mp hx with rfl | hx
    · exact hr
    · exact hu x hx
theorem r_letters {k m : Nat} {nb : Nib} (h : NbOk k nb) (hk : k ≤ 90000) (hm : m ≤ 100) : ∃ u nb', NbOk (k + m) nb' ∧ u.length = m ∧ (∀ r ∈ u, r < 52 ∧ r % 2 = 0) ∧ f_law_letters [.nib, .int (m : Int)] nb = .ok (.ow (.lst (tw u))) nb' := by
  have e0 : ∀ S, kRng (.val (.int (m : Int))) S = .ok (tn (List.range m)) S := fun S => kRng_n S _ (by omega)
  obtain ⟨A, e1, hA0, hA1, hA2⟩ : ∃ A : List Nat, listSN [.str "abcdefghijklmnopqrstuvwxyz"] = some (.ow (.lst (tw A))) ∧ A ≠ [] ∧ A.length ≤ 1000 ∧ ∀ r ∈ A, r < 52 ∧ r % 2 = 0 := ⟨abc, list_abc, by decide, by decide, abc_ok⟩
  obtain ⟨vs, nb', h1, h2, h3, h4⟩ := compF_rel (own := [2]) (it := rngI1 (opE (varE 1))) (tg := .nm 2) (tt := yesT) (te := callF 2 f_law_pick (consA (opE (varE 0)) (consA (opE (opN listSN (consA (opE (con (.str "abcdefghijklmnopqrstuvwxyz"))) (nilA)))) (nilA)))) (S := ⟨[.sh .nib, .sh (.int (m : Int)), .no], [], nb⟩)
    (lo := [.sh .nib, .sh (.int (m : Int)), .no]) (gh := []) (ts := tn (List.range m)) k NbOk (fun v => ∃ r : Nat, (r < 52 ∧ r % 2 = 0) ∧ v = sT r) (by clear e1 h hk hm hA0 hA1 hA2; trivial) rfl rfl rfl (len_sz (by rw [tn_length, List.length_range]; omega)) (fun k' nb acc t hk1 hk2 hI ht => by
      rw [tn_length, List.length_range] at hk2
      obtain ⟨r, nb1, hr, k1, e2⟩ := r_pickw hI (by omega) A hA0 hA1
      obtain ⟨n, _, rfl⟩ := List.mem_map.mp ht
      refine ⟨sT r, nb1, k1, ⟨r, hA2 r hr, rfl⟩, ?_⟩
      clear e0 h hk hm hk1 hk2 hI ht hr k1 hA0 hA1 hA2
      exact compStep_map (S1 := ⟨[.sh .nib, .sh (.int (m : Int)), .sh (.int (n : Int))], [] ++ [.ow (.lst acc)], nb⟩) rfl (by trivial; rfl) rfl rfl) h
  obtain ⟨u, e, hu⟩ := all_tw h3
  subst e
  rw [tn_length, List.length_range] at h1 h2
  rw [tw_length] at h2
  refine ⟨u, nb', h1, h2, hu, ?_⟩
  have s2 : f_law_letters [.nib, .int (m : Int)] nb = fnEnd (b_law_letters ⟨[.sh .nib, .sh (.int (m : Int)), .no], [], nb⟩) := rfl
  have kk : b_law_letters ⟨[.sh .nib, .sh (.int (m : Int)), .no], [], nb⟩ = .ok (.rt (.ow (.lst (tw u)))) ⟨[.sh .nib, .sh (.int (m : Int)), .no], [], nb'⟩ := by
    have h5 : b_law_letters_C1 ⟨[.sh .nib, .sh (.int (m : Int)), .no], [], nb⟩ = .ok (.ow (.lst (tw u))) ⟨[.sh .nib, .sh (.int (m : Int)), .no], [], nb'⟩ := h4
    unfold b_law_letters
    obtain ⟨g, hg⟩ : ∃ g, g = b_law_letters_C1 := ⟨_, rfl⟩
    rw [← hg] at h5 ⊢
    clear e0 e1 h hk hm h1 h2 h3 hu s2 hA0 hA1 hA2 h4 hg
    trivial
  rw [s2, kk]
  rfl
section
variable {u : List Nat}
theorem w_step {k st : Nat} {f : List Nat} {nb : Nib} (h : NbOk k nb) (hk : k ≤ 90000) (hu : ∀ r ∈ u, r < 52 ∧ r % 2 = 0) (h0 : u ≠ []) (h1 : u.length ≤ 1000) (hf : f.length ≤ 900) (x2 x5 : Slot) :
    ∃ r nb', r < 52 ∧ NbOk (k + 2) nb' ∧ b_law_word_L1 ⟨[.sh .nib, .sh (.lst (tw u)), x2, .ow (.lst (tw f)), .sh (.int (st : Int)), x5], [], nb⟩ = .ok .nx ⟨[.sh .nib, .sh (.lst (tw u)), x2, .ow (.lst (tw (f ++ [r]))), .sh (.int (st : Int)), x5], [], nb'⟩ := by
  obtain ⟨r, nb1, hr, k1, e1⟩ := r_pickw h (by omega) u h0 h1
  obtain ⟨v, nb2, hv, k2, e2⟩ := r_tip k1 (by omega) (m := 4) (by omega) (by omega)
  replace e2 : f_law_wind [.nib, .int 4] nb1 = _ := e2
  obtain ⟨hr1, hr2⟩ := hu r hr
  obtain ⟨_, a1, a2⟩ := x_even r hr1 hr2
  have e3 := lt_nat v st
  have ap : ∀ x : Nat, apP (tw f) [sT x] = some (tw (f ++ [x]), .non) := fun x => by
    rw [tw_append]
    exact ap_ok (lt_sz (by rw [tw_length]; omega))
  by_cases c : v < st
  · rw [decide_eq_true c] at e3
    have e4 := ap (tu r)
    refine ⟨tu r, nb2, tu_lt hr1, k2, ?_⟩
    clear h hk hu h0 h1 hf hr k1 hv k2 hr1 hr2 a2 ap c
    unfold b_law_word_L1
    trivial
  · rw [decide_eq_false c] at e3
    have e4 := ap r
    refine ⟨r, nb2, hr1, k2, ?_⟩
    clear h hk hu h0 h1 hf hr k1 hv k2 hr1 hr2 a1 ap c
    unfold b_law_word_L1
    trivial
theorem w_loop (st : Nat) (hu : ∀ r ∈ u, r < 52 ∧ r % 2 = 0) (h0 : u ≠ []) (h1 : u.length ≤ 1000) (x2 : Slot) : ∀ (l f : List Nat) (k : Nat) (x5 : Slot) (nb : Nib), NbOk k nb → k + 2 * l.length ≤ 90000 → f.length + l.length ≤ 900 → (∀ x ∈ f, x < 52) →
    ∃ f' x5' nb', (∀ x ∈ f', x < 52) ∧ f'.length = f.length + l.length ∧ NbOk (k + 2 * l.length) nb' ∧ forL (.nm 5) b_law_word_L1 (tn l) ⟨[.sh .nib, .sh (.lst (tw u)), x2, .ow (.lst (tw f)), .sh (.int (st : Int)), x5], [], nb⟩ = .ok .nx ⟨[.sh .nib, .sh (.lst (tw u)), x2, .ow (.lst (tw f')), .sh (.int (st : Int)), x5'], [], nb'⟩
  | [], f, k, x5, nb, h, _, _, hf => ⟨f, x5, nb, hf, rfl, h, rfl⟩
  | i :: l, f, k, x5, nb, h, hk, hl, hf => by
    rw [List.length_cons] at hk hl
    obtain ⟨r, nb1, hr, k1, e1⟩ := w_step (st := st) h (by omega) hu h0 h1 (f := f) (by omega) x2 (.sh (.int (i : Int)))
    obtain ⟨f', x5', nb', a1, a2, a3, e2⟩ := w_loop st hu h0 h1 x2 l (f ++ [r]) (k + 2) (.sh (.int (i : Int))) nb1 k1 (by omega) (by rw [List.length_append, List.length_singleton]; omega) (fun x hx => by
      rcases List.mem_append.mp hx with hx | hx
      · exact hf x hx
      · rw [List.mem_singleton.mp hx]; exact hr)
    refine ⟨f', x5', nb', a1, ?_, a3.mono (by rw [List.length_cons]; omega), ?_⟩
    · rw [a2, List.length_append, List.length_singleton, List.length_cons]; omega
    · rw [tn_cons, forL_cons]
      show ((b_law_word_L1 ⟨[.sh .nib, .sh (.lst (tw u)), x2, .ow (.lst (tw f)), .sh (.int (st : Int)), .sh (.int (i : Int))], [], nb⟩).bind _) = _
      rw [e1, R.bind_ok]
      exact e2
theorem r_word {k m : Nat} {nb : Nib} (h : NbOk k nb) (hk : k ≤ 50000) (hu : ∀ r ∈ u, r < 52 ∧ r % 2 = 0) (h0 : u ≠ []) (h1 : u.length ≤ 1000) (hm : m ≤ 100) : ∃ f nb', (∀ x ∈ f, x < 52) ∧ f.length ≤ m ∧ NbOk (k + 2 + 2 * m) nb' ∧ f_law_word [.nib, .lst (tw u), .int (m : Int)] nb = .ok (.ow (.lst (tw f))) nb' := by
  obtain ⟨st, nb1, hs, k1, e1⟩ := r_pickn h (by omega) [0, 1, 2, 1] (by decide) (by decide)
  replace e1 : f_law_pick [.nib, .lst [.int 0, .int 1, .int 2, .int 1]] nb = _ := e1
  obtain ⟨v, nb2, hv, k2, e2⟩ := r_tip k1 (by omega) (m := m + 1) (by omega) (by omega)
  obtain ⟨f, x5, nb3, a1, a2, a3, e3⟩ := w_loop st hu h0 h1 (.sh (.int (m : Int))) (List.range v) [] (k + 1 + 1) .no nb2 k2 (by rw [List.length_range]; omega) (by rw [List.length_range, List.length_nil]; omega) (fun x hx => nomatch hx)
  rw [List.length_range, List.length_nil] at a2
  rw [List.length_range] at a3
  refine ⟨f, nb3, a1, by omega, a3.mono (by omega), ?_⟩
  have e4 : addT (.int (m : Int)) (.int 1) = some (.sh (.int ((m + 1 : Nat) : Int))) := addN m 1
  have e5 : ∀ S, kRng (.val (.int (v : Int))) S = .ok (tn (List.range v)) S := fun S => kRng_n S _ (by omega)
  replace e3 : forL (.nm 5) b_law_word_L1 (tn (List.range v)) ⟨[.sh .nib, .sh (.lst (tw u)), .sh (.int (m : Int)), .ow (.lst []), .sh (.int (st : Int)), .no], [], nb2⟩ = _ := e3
  have s2 : f_law_word [.nib, .lst (tw u), .int (m : Int)] nb = fnEnd (b_law_word ⟨[.sh .nib, .sh (.lst (tw u)), .sh (.int (m : Int)), .no, .no, .no], [], nb⟩) := rfl
  have kk : b_law_word ⟨[.sh .nib, .sh (.lst (tw u)), .sh (.int (m : Int)), .no, .no, .no], [], nb⟩ = .ok (.rt (.ow (.lst (tw f)))) ⟨[.sh .nib, .sh (.lst (tw u)), .sh (.int (m : Int)), .no, .sh (.int (st : Int)), x5], [], nb3⟩ := by
    unfold b_law_word
    clear h hk hu h0 h1 hm hs k1 hv k2 a1 a2 a3 s2
    refine seq_nx (S1 := ⟨[.sh .nib, .sh (.lst (tw u)), .sh (.int (m : Int)), .ow (.lst []), .sh (.int (st : Int)), .no], [], nb1⟩) (by clear e2 e3 e4 e5; trivial) ?_
    refine seq_nx (S1 := ⟨[.sh .nib, .sh (.lst (tw u)), .sh (.int (m : Int)), .ow (.lst (tw f)), .sh (.int (st : Int)), x5], [], nb3⟩) (by clear e1; trivial) ?_
    clear e1 e2 e3 e4 e5
    trivial
  rw [s2, kk]
  rfl
end
end K35

end
section
set_option Elab.async false
set_option linter.all false
set_option maxRecDepth 100000
set_option autoImplicit false
set_option maxHeartbeats 400000
open PySem PySem.Spec PyProof.Rows L2
open TL hiding eqT neT
namespace K35
local macro_rules | `(tactic| trivial) => `(tactic| simp -implicitDefEqProofs only [w_callBF, kCallB_ap, gCallB_ap, gFRB_ok, lf_int, lf_tn, lf_tr, lf_bl, w_setDF, kSetD_ap, gSetD0_ap, kSetD2_ap, gSetD_ap, w_okB, w_excB, w_dicF, w_starA, kStar_l, kStar_t, kStar2_ap, vals_star, w_callKF, kCallK_ap, kCallK2_ap, gCallK_ap, prm_nil, w_tryF, kTry_ok, kTry_exc, gTry_t, gTry_f, kTry2_ap, w_raiseF, kRaise_ap, gRaise_ap, w_par3F, kPar3a_ap, kPar3b_ap, kPar3c_ap, gPar_exc, gPar_exc1, w_slF, kSl1_ap, kSl2_ap, kSl3_ap, w_someB, kSome_ap, w_noB, w_rngI2, kRng2_ap, List.nil_append, List.cons_append,  w_con, w_opE, kOpE_sh, kOpE_ow, w_nilA, w_consA, kCons_ap, kCons2_ap, w_op2, kOp2_ap, kOp2'_ap, gOp2_ap, w_op1, kOp1_ap, gOp1_ap, w_opN, kOpN_ap, gOpN_ap, w_res, w_tst, kTst_ap, w_chn, kChn_ap, kChn2_ap, gChn_ap, hChn_t, hChn_f, kChn3_ap, w_andT, kAndT_t, kAndT_f, w_orT, kOrT_t, kOrT_f, w_notT, kNotT_ap, w_andE, kAndE_t, kAndE_f, w_orE, kOrE_t, kOrE_f, w_notE, kNotE_ap, w_ite3, kIte3_t, kIte3_f, w_lstF, kLst_ap, w_tupF, kTup_ap, gLst_ap, gTup_ap, w_seq, kSeq_nx, kSeq_rt, kSeq_bk, kSeq_ct, w_nxF, w_bkF, w_ctF, w_retF, kRet_ap, w_retNF, w_dropF, kDrop_ap, w_ifF, kIfF_t, kIfF_f, w_setF, kSet_ap, w_asgF, kAsg_ap, gAsg_ap, w_forF, kFor_ap, w_forL, w_forL0, gForL_ap, kForL_nx, kForL_ct, kForL_bk, kForL_rt, w_callF, kCall_ap, gCall_ap, gFR_ok, gFR_exc, w_seqI, kSeqI_l, kSeqI_t, w_enumI, kEnumI_l, kEnumI_t, w_zipI, kZip_ap, kZip2_l, kZip2_t, w_rngI1, kRng_n, w_yesT, w_var, w_varE, w_varR, gVar_sh, gVar_ow, gVarE_sh, gVarE_ow, gVarR_sh, gVarR_ow, get_pl, get_val, tree_sh, tree_ow, slot_tree_sh, slot_tree_ow, w_methF, gMeth0_ap, kMeth_ap, gMeth_ap, hMeth_ap, w_setIF, kSetI_ap, gSetI0_ap, kSetI2_ap, gSetI_ap, hSetI_ap, w_parF, kPar_ap, gPar_ap, gPar_one, nil_app, put_nm, put_tp, put_tpw, put_tpl, putAll_nil, putAll_cons, vals_nil, vals_cons, gets_nil, gets_cons, Option.map_some, Option.bind_some, List.getElem?_cons_succ, List.getElem?_cons_zero, List.set_cons_succ, List.set_cons_zero, List.length_cons, List.length_nil, Nat.zero_add, Nat.reduceAdd, Nat.reduceLT, Nat.reduceLeDiff, Nat.le_refl, and_self, ↓reduceIte, Bool.not_true, Bool.not_false, fnEnd, *])

theorem okTs_tw : ∀ (w : List Nat) (n : Nat), T.okTs (tw w) n = true
  | [], _ => rfl
  | r :: w, n => by
    show (T.okT (.str (sS r)) n && T.okTs (tw w) n) = true
    rw [okTs_tw w n, T.okT, sS_ok]
    rfl
theorem eqvAll_tw : ∀ w : List Nat, PyData.eqvAll (T.dAll (tw w)) (T.dAll (tw w)) = true
  | [] => by simp [tw, T.dAll, PyData.eqvAll]
  | r :: w => by
    rw [tw_cons, T.dAll, PyData.eqvAll, eqvAll_tw w]
    show (PyData.eqv (.str (sS r)) (.str (sS r)) && true) = true
    simp [PyData.eqv]
theorem eq_tw (w : List Nat) : TL.eqT (.tup (tw w)) (.tup (tw w)) = some (.sh (.bl true)) := by
  unfold TL.eqT
  rw [if_pos ⟨okTs_tw w 59, okTs_tw w 59⟩]
  exact congrArg (fun z => some (Slot.sh (T.bl z))) (eqvAll_tw w)
theorem ne_tw (w : List Nat) : TL.neT (.tup (tw w)) (.tup (tw w)) = some (.sh (.bl false)) := by
  unfold TL.neT
  rw [if_pos ⟨okTs_tw w 59, okTs_tw w 59⟩]
  exact congrArg (fun z => some (Slot.sh (T.bl (!z)))) (eqvAll_tw w)
theorem ne_lw (w : List Nat) : TL.neT (.lst (tw w)) (.lst (tw w)) = some (.sh (.bl false)) := by
  unfold TL.neT
  rw [if_pos ⟨okTs_tw w 59, okTs_tw w 59⟩]
  exact congrArg (fun z => some (Slot.sh (T.bl (!z)))) (eqvAll_tw w)
theorem eq_l0 (w : List Nat) : TL.eqT (.lst (tw w)) (.lst []) = some (.sh (.bl (decide (w = [])))) := by
  unfold TL.eqT
  rw [if_pos ⟨okTs_tw w 59, rfl⟩]
  cases w with
  | nil => rfl
  | cons r w => rfl
theorem eq_t0 (w : List Nat) : TL.eqT (.tup (tw w)) (.tup []) = some (.sh (.bl (decide (w = [])))) := by
  unfold TL.eqT
  rw [if_pos ⟨okTs_tw w 59, rfl⟩]
  cases w with
  | nil => rfl
  | cons r w => rfl
theorem ne_l00 : TL.neT (.lst []) (.lst []) = some (.sh (.bl false)) := ne_lw []
theorem isN_t (z : List T) : isN ["tuple"] (.tup z) = some (.sh (.bl true)) := isN_tup1 z
theorem par3E_run {i j l : Nat} {f g h : EF} {S S1 S2 S3 S4 S5 : Sta} {x y z x' y' : Slot} (h1 : f S = .ok x S1) (h2 : g (S1.push x) = .ok y S2) (h3 : h (S2.push y) = .ok z S3) (h4 : S3.popG = some (y', S4)) (h5 : S4.popG = some (x', S5)) (h6 : i < S5.lo.length ∧ j < S5.lo.length ∧ l < S5.lo.length) :
    par3E i j l f g h S = .ok .nx (((S5.put l z).put j y').put i x') := by
  unfold par3E
  rw [h1, R.bind_ok, h2]
  dsimp only
  rw [h3]
  dsimp only
  rw [h4]
  dsimp only
  rw [h5]
  dsimp only
  rw [if_pos h6]
theorem r_drawn {k : Nat} {nb : Nib} (h : NbOk k nb) (hk : k ≤ 40000) : ∃ v x nb', OS x (tw v) ∧ (∀ r ∈ v, r < 52) ∧ v.length ≤ 27 ∧ NbOk (k + 30) nb' ∧ f_law_drawn [.nib] nb = .ok x nb' := by
  obtain ⟨c, nb1, hc, k1, e1⟩ := r_tip h (by omega) (m := 4) (by omega) (by omega)
  obtain ⟨L, hL⟩ : ∃ L, L = 1 + c := ⟨_, rfl⟩
  obtain ⟨u, nb2, k2, hu1, hu2, e2⟩ := r_letters (m := L) k1 (by omega) (by omega)
  obtain ⟨m, nb3, hm, k3, e3⟩ := r_pickn k2 (by omega) [4, 9, 2, 6, 1] (by decide) (by decide)
  have hm9 : m ≤ 9 := (show ∀ x ∈ [4, 9, 2, 6, 1], x ≤ 9 by decide) m hm
  have hu0 : u ≠ [] := fun e => by rw [e] at hu1; simp at hu1; omega
  obtain ⟨w, nb4, hw, hw2, k4, e4⟩ := r_word (m := m) k3 (by omega) hu2 hu0 (by omega) (by omega)
  obtain ⟨y, nb5, hy, k5, e5⟩ := r_tip k4 (by omega) (m := 5) (by omega) (by omega)
  replace e1 : f_law_wind [.nib, .int 4] nb = _ := e1
  replace e3 : f_law_pick [.nib, .lst [.int 4, .int 9, .int 2, .int 6, .int 1]] nb2 = _ := e3
  replace e5 : f_law_wind [.nib, .int 5] nb4 = _ := e5
  have e6 : addT (.int 1) (.int (c : Int)) = some (.sh (.int (L : Int))) := by rw [hL]; exact addN 1 c
  have b0 : setF 1 (callF 3 f_law_word (consA (opE (varE 0)) (consA (opE (callF 2 f_law_letters (consA (opE (varE 0)) (consA (opE (op2 addT (opE (con (.int 1))) (opE (callF 2 f_law_wind (consA (opE (varE 0)) (consA (opE (con (.int 4))) (nilA))))))) (nilA))))) (consA (opE (callF 2 f_law_pick (consA (opE (varE 0)) (consA (opE (lstF (consA (opE (con (.int 4))) (consA (opE (con (.int 9))) (consA (opE (con (.int 2))) (consA (opE (con (.int 6))) (consA (opE (con (.int 1))) (nilA)))))))) (nilA))))) (nilA))))) ⟨[.sh .nib, .no, .no], [], nb⟩ = .ok .nx ⟨[.sh .nib, .ow (.lst (tw w)), .no], [], nb4⟩ := by
    clear h hk hc k1 hL k2 hu1 hu2 hm k3 hm9 hu0 hw hw2 k4 hy k5 e5
    trivial
  have b1 : setF 2 (callF 2 f_law_wind (consA (opE (varE 0)) (consA (opE (con (.int 5))) (nilA)))) ⟨[.sh .nib, .ow (.lst (tw w)), .no], [], nb4⟩ = .ok .nx ⟨[.sh .nib, .ow (.lst (tw w)), .sh (.int (y : Int))], [], nb5⟩ := by
    clear h hk hc k1 hL k2 hu1 hu2 hm k3 hm9 hu0 hw hw2 k4 hy k5 e1 e2 e3 e4 e6 b0
    trivial
  have s2 : f_law_drawn [.nib] nb = fnEnd (b_law_drawn ⟨[.sh .nib, .no, .no], [], nb⟩) := rfl
  have g0 : TL.eqT (.int (y : Int)) (.int 0) = some (.sh (.bl (decide (y = 0)))) := eq_n y 0
  have g1 : TL.eqT (.int (y : Int)) (.int 1) = some (.sh (.bl (decide (y = 1)))) := eq_n y 1
  have nbk : NbOk (k + 30) nb5 := k5.mono (by omega)
  by_cases c0 : y = 0
  · rw [decide_eq_true c0] at g0
    have g2 := cat_l w w (by omega)
    have g3 : lenN [.lst (tw w)] = some (.sh (.int (w.length : Int))) := len_w false w
    have g4 : ltA (.int (w.length : Int)) (.int 4) = some (.sh (.bl (decide (w.length < 4)))) := lt_nat w.length 4
    by_cases c1 : w.length < 4
    · rw [decide_eq_true c1] at g4
      have g5 := cat_l (w ++ w) w (by rw [List.length_append]; omega)
      refine ⟨w ++ w ++ w, .ow (.lst (tw (w ++ w ++ w))), nb5, .inl rfl, fun r hr => ?_, by rw [List.length_append, List.length_append]; omega, nbk, ?_⟩
      · rcases List.mem_append.mp hr with hr | hr
        · rcases List.mem_append.mp hr with hr | hr
          · exact hw r hr
          · exact hw r hr
        · exact hw r hr
      obtain ⟨a, ha⟩ : ∃ a, a = w ++ w := ⟨_, rfl⟩
      rw [← ha] at g2 g5 ⊢
      obtain ⟨b, hb⟩ : ∃ b, b = a ++ w := ⟨_, rfl⟩
      rw [← hb] at g5 ⊢
      have kk : b_law_drawn ⟨[.sh .nib, .no, .no], [], nb⟩ = .ok (.rt (.ow (.lst (tw b)))) ⟨[.sh .nib, .sh (.lst (tw w)), .sh (.int (y : Int))], [], nb5⟩ := by
        refine seq_nx b0 (seq_nx b1 ?_)
        clear h hk hc k1 hL k2 hu1 hu2 hm k3 hm9 hu0 hw hw2 k4 hy k5 e1 e2 e3 e4 e5 e6 b0 b1 s2 nbk c0 c1 ha hb g1
        trivial
      rw [s2, kk]
      rfl
    · rw [decide_eq_false c1] at g4
      have g5 : addT (.lst (tw (w ++ w))) (.lst []) = some (.ow (.lst (tw (w ++ w)))) := by
        have := cat_l (w ++ w) [] (by rw [List.length_append, List.length_nil]; omega)
        rw [List.append_nil] at this
        exact this
      refine ⟨w ++ w, .ow (.lst (tw (w ++ w))), nb5, .inl rfl, fun r hr => ?_, by rw [List.length_append]; omega, nbk, ?_⟩
      · rcases List.mem_append.mp hr with hr | hr
        · exact hw r hr
        · exact hw r hr
      obtain ⟨a, ha⟩ : ∃ a, a = w ++ w := ⟨_, rfl⟩
      rw [← ha] at g2 g5 ⊢
      have kk : b_law_drawn ⟨[.sh .nib, .no, .no], [], nb⟩ = .ok (.rt (.ow (.lst (tw a)))) ⟨[.sh .nib, .ow (.lst (tw w)), .sh (.int (y : Int))], [], nb5⟩ := by
        refine seq_nx b0 (seq_nx b1 ?_)
        clear h hk hc k1 hL k2 hu1 hu2 hm k3 hm9 hu0 hw hw2 k4 hy k5 e1 e2 e3 e4 e5 e6 b0 b1 s2 nbk c0 c1 ha g1
        trivial
      rw [s2, kk]
      rfl
  · rw [decide_eq_false c0] at g0
    by_cases c1 : y = 1
    · rw [decide_eq_true c1] at g1
      have g2 := r_over hw (by omega) nb5
      have g3 := cat_l w (ov w) (by rw [ov_len]; omega)
      refine ⟨w ++ ov w, .ow (.lst (tw (w ++ ov w))), nb5, .inl rfl, fun r hr => ?_, by rw [List.length_append, ov_len]; omega, nbk, ?_⟩
      · rcases List.mem_append.mp hr with hr | hr
        · exact hw r hr
        · exact ov_lt hw r hr
      obtain ⟨o, ho⟩ : ∃ o, o = ov w := ⟨_, rfl⟩
      rw [← ho] at g2 g3 ⊢
      obtain ⟨a, ha⟩ : ∃ a, a = w ++ o := ⟨_, rfl⟩
      rw [← ha] at g3 ⊢
      have kk : b_law_drawn ⟨[.sh .nib, .no, .no], [], nb⟩ = .ok (.rt (.ow (.lst (tw a)))) ⟨[.sh .nib, .sh (.lst (tw w)), .sh (.int (y : Int))], [], nb5⟩ := by
        refine seq_nx b0 (seq_nx b1 ?_)
        clear h hk hc k1 hL k2 hu1 hu2 hm k3 hm9 hu0 hw hw2 k4 hy k5 e1 e2 e3 e4 e5 e6 b0 b1 s2 nbk c0 c1 ha ho
        trivial
      rw [s2, kk]
      rfl
    · rw [decide_eq_false c1] at g1
      refine ⟨w, .sh (.lst (tw w)), nb5, .inr rfl, hw, by omega, nbk, ?_⟩
      have kk : b_law_drawn ⟨[.sh .nib, .no, .no], [], nb⟩ = .ok (.rt (.sh (.lst (tw w)))) ⟨[.sh .nib, .sh (.lst (tw w)), .sh (.int (y : Int))], [], nb5⟩ := by
        refine seq_nx b0 (seq_nx b1 ?_)
        clear h hk hc k1 hL k2 hu1 hu2 hm k3 hm9 hu0 hw hw2 k4 hy k5 e1 e2 e3 e4 e5 e6 b0 b1 s2 nbk c0 c1
        trivial
      rw [s2, kk]
      rfl
section
variable {w o l : List Nat} {nb : Nib}
theorem u0 (e1 : f_law_over [.lst (tw w)] nb = .ok (.ow (.lst (tw o))) nb) (e2 : f_law_least [.lst (tw w)] nb = .ok (.sh (.tup (tw l))) nb) : (par3E 1 2 3 (opN tupleN (consA (opE (callF 1 f_law_over (consA (opE (varE 0)) (nilA)))) (nilA))) (callF 1 f_law_least (consA (opE (varE 0)) (nilA))) (opN listN (consA (var 0) (nilA)))) ⟨[.sh (.lst (tw w)), .no, .no, .no, .no, .no], [], nb⟩ = .ok .nx  ⟨[.sh (.lst (tw w)), .sh (.tup (tw o)), .sh (.tup (tw l)), .ow (.lst (tw w)), .no, .no], [], nb⟩ := by
  have e3 : ∀ ts : List T, listN [.lst ts] = some (.ow (.lst ts)) := fun _ => rfl
  have e4 := tuple_l (tw o)
  have q1 : opN tupleN (consA (opE (callF 1 f_law_over (consA (opE (varE 0)) (nilA)))) (nilA)) ⟨[.sh (.lst (tw w)), .no, .no, .no, .no, .no], [], nb⟩ = .ok (.sh (.tup (tw o))) ⟨[.sh (.lst (tw w)), .no, .no, .no, .no, .no], [], nb⟩ := by
    clear e2 e3
    trivial
  have q2 : callF 1 f_law_least (consA (opE (varE 0)) (nilA)) ⟨[.sh (.lst (tw w)), .no, .no, .no, .no, .no], [.sh (.tup (tw o))], nb⟩ = .ok (.sh (.tup (tw l))) ⟨[.sh (.lst (tw w)), .no, .no, .no, .no, .no], [.sh (.tup (tw o))], nb⟩ := by
    clear e1 e3 q1
    trivial
  have q3 : opN listN (consA (var 0) (nilA)) ⟨[.sh (.lst (tw w)), .no, .no, .no, .no, .no], [.sh (.tup (tw o)), .sh (.tup (tw l))], nb⟩ = .ok (.ow (.lst (tw w))) ⟨[.sh (.lst (tw w)), .no, .no, .no, .no, .no], [.sh (.tup (tw o)), .sh (.tup (tw l))], nb⟩ := by
    clear e1 e2 q1 q2
    trivial
  exact (par3E_run q1 q2 q3 rfl rfl ⟨show 1 < 6 by decide, show 2 < 6 by decide, show 3 < 6 by decide⟩).trans rfl
theorem u1 (e1 : f_is_word [.lst (tw w)] nb = .ok (.sh (.bl true)) nb) (e2 : f_is_word [.tup (tw w)] nb = .ok (.sh (.bl true)) nb) (e3 : f_turned_word [.lst (tw w)] nb = .ok (.sh (.tup (tw o))) nb) (e4 : f_turned_word [.tup (tw o)] nb = .ok (.sh (.tup (tw w))) nb) : (ifF (orT (tst (op2 (isT true) (opE (callF 1 f_is_word (consA (opE (varE 0)) (nilA)))) (opE (con (.bl true))))) (orT (tst (op2 (isT true) (opE (callKF 1 1 [0] f_is_word nilA (consA (opE (opN tupleN (consA (var 0) (nilA)))) (nilA)))) (opE (con (.bl true))))) (orT (tst (op2 TL.neT (opE (callF 1 f_turned_word (consA (opE (varE 0)) (nilA)))) (var 1))) (tst (op2 TL.neT (opE (callKF 1 1 [0] f_turned_word nilA (consA (opE (varE 1)) (nilA)))) (opE (opN tupleN (consA (var 0) (nilA))))))))) (retF (con (.bl false))) (nxF)) ⟨[.sh (.lst (tw w)), .sh (.tup (tw o)), .sh (.tup (tw l)), .ow (.lst (tw w)), .no, .no], [], nb⟩ = .ok .nx  ⟨[.sh (.lst (tw w)), .sh (.tup (tw o)), .sh (.tup (tw l)), .ow (.lst (tw w)), .no, .no], [], nb⟩ := by
  have e5 : isT true (.bl true) (.bl true) = some (.sh (.bl false)) := rfl
  have e6 := ne_tw o
  have e7 := ne_tw w
  have e8 := tuple_l (tw w)
  have e9 := prm_one (T.tup (tw w))
  have e10 := prm_one (T.tup (tw o))
  trivial
theorem u2 (e1 : f_round_of [.lst (tw w)] nb = .ok (.sh (.tup (tw l))) nb) (e2 : f_round_of [.tup (tw o)] nb = .ok (.sh (.tup (tw l))) nb) (e3 : f_round_of [.tup (tw l)] nb = .ok (.sh (.tup (tw l))) nb) (e4 : f_turned_word [.lst (tw o)] nb = .ok (.sh (.tup (tw w))) nb) : (ifF (orT (tst (op2 TL.neT (opE (callF 1 f_round_of (consA (opE (varE 0)) (nilA)))) (var 2))) (orT (tst (op2 TL.neT (opE (callKF 1 1 [0] f_round_of nilA (consA (opE (varE 1)) (nilA)))) (var 2))) (orT (tst (op2 TL.neT (opE (callF 1 f_round_of (consA (opE (varE 2)) (nilA)))) (var 2))) (tst (op2 TL.neT (opE (callF 1 f_turned_word (consA (opE (opN listN (consA (var 1) (nilA)))) (nilA)))) (opE (opN tupleN (consA (var 3) (nilA))))))))) (retF (con (.bl false))) (nxF)) ⟨[.sh (.lst (tw w)), .sh (.tup (tw o)), .sh (.tup (tw l)), .ow (.lst (tw w)), .no, .no], [], nb⟩ = .ok .nx  ⟨[.sh (.lst (tw w)), .sh (.tup (tw o)), .sh (.tup (tw l)), .ow (.lst (tw w)), .no, .no], [], nb⟩ := by
  have e6 := ne_tw l
  have e7 := ne_tw w
  have e8 := tuple_l (tw w)
  have e9 := prm_one (T.tup (tw o))
  have e10 : listN [.tup (tw o)] = some (.ow (.lst (tw o))) := rfl
  trivial
theorem u3s {k : Nat} (hw : k ≤ w.length) (ho : k ≤ o.length) (hl : w.length ≤ 400) (hl2 : o.length ≤ 400) (e1 : f_round_of [.lst (tw (w.drop k ++ w.take k))] nb = .ok (.sh (.tup (tw l))) nb) (e2 : f_round_of [.tup (tw (o.drop k ++ o.take k))] nb = .ok (.sh (.tup (tw l))) nb) : b_law_word_right_L1 ⟨[.sh (.lst (tw w)), .sh (.tup (tw o)), .sh (.tup (tw l)), .ow (.lst (tw w)), .sh (.int (k : Int)), .no], [], nb⟩ = .ok .nx ⟨[.sh (.lst (tw w)), .sh (.tup (tw o)), .sh (.tup (tw l)), .ow (.lst (tw w)), .sh (.int (k : Int)), .no], [], nb⟩ := by
  have a1 := sl_lf w hw
  have a2 := sl_lt w hw
  have a3 := cat_l (w.drop k) (w.take k) (by rw [List.length_drop, List.length_take]; omega)
  have a4 := sl_tf o ho
  have a5 := sl_tt o ho
  have a6 := cat_t (o.drop k) (o.take k) (by rw [List.length_drop, List.length_take]; omega)
  have a7 := ne_tw l
  obtain ⟨z, hz⟩ : ∃ z, z = w.drop k ++ w.take k := ⟨_, rfl⟩
  obtain ⟨y, hy⟩ : ∃ y, y = o.drop k ++ o.take k := ⟨_, rfl⟩
  rw [← hz] at e1 a3
  rw [← hy] at e2 a6
  obtain ⟨b1, h1⟩ : ∃ z, z = w.drop k := ⟨_, rfl⟩
  obtain ⟨b2, h2⟩ : ∃ z, z = w.take k := ⟨_, rfl⟩
  obtain ⟨b3, h3⟩ : ∃ z, z = o.drop k := ⟨_, rfl⟩
  obtain ⟨b4, h4⟩ : ∃ z, z = o.take k := ⟨_, rfl⟩
  rw [← h1] at a1 a3
  rw [← h2] at a2 a3
  rw [← h3] at a4 a6
  rw [← h4] at a5 a6
  unfold b_law_word_right_L1
  clear hw ho hl hl2 hz hy h1 h2 h3 h4
  trivial
theorem u3l (hl : w.length ≤ 400) (ho : o.length = w.length) (h : ∀ k ≤ w.length, f_round_of [.lst (tw (w.drop k ++ w.take k))] nb = .ok (.sh (.tup (tw l))) nb ∧ f_round_of [.tup (tw (o.drop k ++ o.take k))] nb = .ok (.sh (.tup (tw l))) nb) : ∀ (ks : List Nat) (x4 : Slot), (∀ k ∈ ks, k ≤ w.length) → ∃ x4', forL (.nm 4) b_law_word_right_L1 (tn ks) ⟨[.sh (.lst (tw w)), .sh (.tup (tw o)), .sh (.tup (tw l)), .ow (.lst (tw w)), x4, .no], [], nb⟩ = .ok .nx ⟨[.sh (.lst (tw w)), .sh (.tup (tw o)), .sh (.tup (tw l)), .ow (.lst (tw w)), x4', .no], [], nb⟩
  | [], x4, _ => ⟨x4, rfl⟩
  | k :: ks, x4, hk => by
    have hk0 := hk k List.mem_cons_self
    obtain ⟨x4', e⟩ := u3l hl ho h ks (.sh (.int (k : Int))) (fun j hj => hk j (List.mem_cons_of_mem _ hj))
    have e1 := u3s hk0 (by omega) hl (by omega) (h k hk0).1 (h k hk0).2
    refine ⟨x4', ?_⟩
    rw [tn_cons, forL_cons]
    show ((b_law_word_right_L1 ⟨[.sh (.lst (tw w)), .sh (.tup (tw o)), .sh (.tup (tw l)), .ow (.lst (tw w)), .sh (.int (k : Int)), .no], [], nb⟩).bind _) = _
    rw [e1, R.bind_ok]
    exact e
theorem u3 {x4 : Slot} (hl : w.length ≤ 400) (e1 : forL (.nm 4) b_law_word_right_L1 (tn (List.range w.length)) ⟨[.sh (.lst (tw w)), .sh (.tup (tw o)), .sh (.tup (tw l)), .ow (.lst (tw w)), .no, .no], [], nb⟩ = .ok .nx ⟨[.sh (.lst (tw w)), .sh (.tup (tw o)), .sh (.tup (tw l)), .ow (.lst (tw w)), x4, .no], [], nb⟩) : (forF (rngI1 (opE (opN lenN (consA (var 0) (nilA))))) (.nm 4) (b_law_word_right_L1)) ⟨[.sh (.lst (tw w)), .sh (.tup (tw o)), .sh (.tup (tw l)), .ow (.lst (tw w)), .no, .no], [], nb⟩ = .ok .nx ⟨[.sh (.lst (tw w)), .sh (.tup (tw o)), .sh (.tup (tw l)), .ow (.lst (tw w)), x4, .no], [], nb⟩ := by
  have e0 : ∀ S, kRng (.val (.int (w.length : Int))) S = .ok (tn (List.range w.length)) S := fun S => kRng_n S _ (by omega)
  have e2 : lenN [.lst (tw w)] = some (.sh (.int (w.length : Int))) := len_w false w
  clear hl
  trivial
theorem u4 {x4 : Slot} (e1 : f_round_of [.lst (tw w)] nb = .ok (.sh (.tup (tw l))) nb) (e2 : f_turned_word [.lst (tw w)] nb = .ok (.sh (.tup (tw o))) nb) : (ifF (orT (tst (op2 TL.neT (var 0) (var 3))) (orT (notT (tst (op1 (isN ["tuple"]) (opE (callF 1 f_round_of (consA (opE (varE 0)) (nilA))))))) (notT (tst (op1 (isN ["tuple"]) (opE (callF 1 f_turned_word (consA (opE (varE 0)) (nilA))))))))) (retF (con (.bl false))) (nxF)) ⟨[.sh (.lst (tw w)), .sh (.tup (tw o)), .sh (.tup (tw l)), .ow (.lst (tw w)), x4, .no], [], nb⟩ = .ok .nx  ⟨[.sh (.lst (tw w)), .sh (.tup (tw o)), .sh (.tup (tw l)), .ow (.lst (tw w)), x4, .no], [], nb⟩ := by
  have e3 := ne_lw w
  have e4 := isN_t (tw l)
  have e5 := isN_t (tw o)
  trivial
def odd (r : Nat) : Bool := decide (r % 2 = 1)
theorem fm_odd : ∀ u : List Nat, (u.filterMap fun r => if odd r = true then some (sT r) else none) = tw (u.filter odd)
  | [] => rfl
  | r :: u => by
    rw [List.filterMap_cons, List.filter_cons, fm_odd u]
    cases odd r <;> rfl
theorem len2 {r : Nat} (hr : r < 52) : ∃ z : Int, lenN [sT r] = some (.sh (.int z)) ∧ TL.eqT (.int z) (.int 2) = some (.sh (.bl (odd r))) := by
  refine ⟨_, x_len r hr, (eq_n (1 + r % 2) 2).trans ?_⟩
  unfold odd
  congr 3
  exact decide_eq_decide.mpr (by omega)
theorem uC2 {x4 : Slot} (hw : ∀ r ∈ w, r < 52) (hl : w.length ≤ 1000) : b_law_word_right_C2 ⟨[.sh (.lst (tw w)), .sh (.tup (tw o)), .sh (.tup (tw l)), .ow (.lst (tw w)), x4, .no], [], nb⟩ = .ok (.ow (.lst (tw (w.filter odd)))) ⟨[.sh (.lst (tw w)), .sh (.tup (tw o)), .sh (.tup (tw l)), .ow (.lst (tw w)), x4, .no], [], nb⟩ := by
  refine (compF_map (S1 := ⟨[.sh (.lst (tw w)), .sh (.tup (tw o)), .sh (.tup (tw l)), .ow (.lst (tw w)), x4, .no], [], nb⟩) w sT (fun r => if odd r = true then some (sT r) else none) (by clear hw hl; trivial; rfl) rfl rfl (len_sz (by omega)) (fun r hm acc => ?_)).trans (by rw [fm_odd])
  obtain ⟨z, e1, e2⟩ := len2 (hw r hm)
  clear hw hl hm
  exact compStep_filter (S1 := ⟨[.sh (.lst (tw w)), .sh (.tup (tw o)), .sh (.tup (tw l)), .ow (.lst (tw w)), x4, .sh (sT r)], [] ++ [.ow (.lst acc)], nb⟩) rfl (by trivial) (by trivial) rfl
theorem uC3 {x4 : Slot} (hw : ∀ r ∈ l, r < 52) (hl : l.length ≤ 1000) : b_law_word_right_C3 ⟨[.sh (.lst (tw w)), .sh (.tup (tw o)), .sh (.tup (tw l)), .ow (.lst (tw w)), x4, .no], [], nb⟩ = .ok (.ow (.lst (tw (l.filter odd)))) ⟨[.sh (.lst (tw w)), .sh (.tup (tw o)), .sh (.tup (tw l)), .ow (.lst (tw w)), x4, .no], [], nb⟩ := by
  refine (compF_map (S1 := ⟨[.sh (.lst (tw w)), .sh (.tup (tw o)), .sh (.tup (tw l)), .ow (.lst (tw w)), x4, .no], [], nb⟩) l sT (fun r => if odd r = true then some (sT r) else none) (by clear hw hl; trivial; rfl) rfl rfl (len_sz (by omega)) (fun r hm acc => ?_)).trans (by rw [fm_odd])
  obtain ⟨z, e1, e2⟩ := len2 (hw r hm)
  clear hw hl hm
  exact compStep_filter (S1 := ⟨[.sh (.lst (tw w)), .sh (.tup (tw o)), .sh (.tup (tw l)), .ow (.lst (tw w)), x4, .sh (sT r)], [] ++ [.ow (.lst acc)], nb⟩) rfl (by trivial) (by trivial) rfl
theorem u5 {x4 : Slot} {p q : List Nat} (hp : p = [] → q = []) (e1 : b_law_word_right_C2 ⟨[.sh (.lst (tw w)), .sh (.tup (tw o)), .sh (.tup (tw l)), .ow (.lst (tw w)), x4, .no], [], nb⟩ = .ok (.ow (.lst (tw p))) ⟨[.sh (.lst (tw w)), .sh (.tup (tw o)), .sh (.tup (tw l)), .ow (.lst (tw w)), x4, .no], [], nb⟩) (e2 : b_law_word_right_C3 ⟨[.sh (.lst (tw w)), .sh (.tup (tw o)), .sh (.tup (tw l)), .ow (.lst (tw w)), x4, .no], [], nb⟩ = .ok (.ow (.lst (tw q))) ⟨[.sh (.lst (tw w)), .sh (.tup (tw o)), .sh (.tup (tw l)), .ow (.lst (tw w)), x4, .no], [], nb⟩) : (ifF (andT (tst (op2 TL.eqT (opE (b_law_word_right_C2)) (opE (lstF (nilA))))) (tst (op2 TL.neT (opE (b_law_word_right_C3)) (opE (lstF (nilA)))))) (retF (con (.bl false))) (nxF)) ⟨[.sh (.lst (tw w)), .sh (.tup (tw o)), .sh (.tup (tw l)), .ow (.lst (tw w)), x4, .no], [], nb⟩ = .ok .nx ⟨[.sh (.lst (tw w)), .sh (.tup (tw o)), .sh (.tup (tw l)), .ow (.lst (tw w)), x4, .no], [], nb⟩ := by
  have e3 := eq_l0 p
  by_cases h : p = []
  · rw [decide_eq_true h] at e3
    have h2 := hp h
    subst h2
    have e4 : TL.neT (.lst (tw [])) (.lst []) = some (.sh (.bl false)) := ne_l00
    obtain ⟨z, hz⟩ : ∃ z, z = tw [] := ⟨_, rfl⟩
    rw [← hz] at e2 e4
    clear hp h hz
    trivial
  · rw [decide_eq_false h] at e3
    clear hp h e2
    trivial
theorem u6 {x4 : Slot} (hl : ∀ r ∈ l, r < 52) (he : ∀ r m, l = r :: m → r % 2 = 0) : (retF (orE (op2 TL.eqT (var 2) (opE (tupF (nilA)))) (op2 TL.eqT (opE (opN lenN (consA (opE (op2 ixT (var 2) (opE (con (.int 0))))) (nilA)))) (opE (con (.int 1)))))) ⟨[.sh (.lst (tw w)), .sh (.tup (tw o)), .sh (.tup (tw l)), .ow (.lst (tw w)), x4, .no], [], nb⟩ = .ok (.rt (.sh (.bl true))) ⟨[.sh (.lst (tw w)), .sh (.tup (tw o)), .sh (.tup (tw l)), .ow (.lst (tw w)), x4, .no], [], nb⟩ := by
  cases l with
  | nil =>
    have e1 : TL.eqT (.tup (tw [])) (.tup []) = some (.sh (.bl true)) := eq_t0 []
    obtain ⟨z, hz⟩ : ∃ z, z = tw [] := ⟨_, rfl⟩
    rw [← hz] at e1 ⊢
    clear hl he hz
    trivial
  | cons r m =>
    have e1 : TL.eqT (.tup (tw (r :: m))) (.tup []) = some (.sh (.bl false)) := eq_t0 (r :: m)
    have e2 : ixT (.tup (tw (r :: m))) (.int 0) = some (.sh (sT r)) := ix_tup (i := 0) (ts := tw (r :: m)) (t := sT r) rfl
    obtain ⟨e3, _, _⟩ := x_even r (hl r List.mem_cons_self) (he r m rfl)
    have e4 : TL.eqT (.int 1) (.int 1) = some (.sh (.bl true)) := by rw [TL.eq_int]; rfl
    obtain ⟨z, hz⟩ : ∃ z, z = tw (r :: m) := ⟨_, rfl⟩
    rw [← hz] at e1 e2 ⊢
    clear hl he hz
    trivial
theorem r_word_right (h : ∀ r ∈ w, r < 52) (hl : w.length ≤ 400) (nb : Nib) : f_law_word_right [.lst (tw w)] nb = .ok (.sh (.bl true)) nb := by
  have ho := ov_lt h
  have hol : (ov w).length = w.length := ov_len w
  have hL := lst_lt h
  have hLl : (lst w).length = w.length := lst_len w
  have w1 : f_round_of [.lst (tw w)] nb = .ok (.sh (.tup (tw (lst w)))) nb := r_round false h hl nb
  have w2 : f_turned_word [.lst (tw w)] nb = .ok (.sh (.tup (tw (ov w)))) nb := r_turned_word false h (by omega) nb
  have b0 := u0 (r_over h (by omega) nb) (r_law_least h hl nb)
  have b1 := u1 (l := lst w) (r_is_word false h (by omega) nb) (r_is_word true h (by omega) nb) w2 ((r_turned_word true ho (by omega) nb).trans (by rw [ov_ov]))
  have b2 := u2 w1 ((r_round true ho (by omega) nb).trans (by rw [lst_ov])) ((r_round true hL (by omega) nb).trans (by rw [lst_lst])) ((r_turned_word false ho (by omega) nb).trans (by rw [ov_ov]))
  obtain ⟨x4, e3⟩ := u3l (w := w) (o := ov w) (l := lst w) (nb := nb) hl hol (fun k hk => ⟨(r_round false (w := w.drop k ++ w.take k) (fun x hx => by
      rcases List.mem_append.mp hx with hx | hx
      · exact h x (List.mem_of_mem_drop hx)
      · exact h x (List.mem_of_mem_take hx)) (by rw [List.length_append, List.length_drop, List.length_take]; omega) nb).trans (by rw [lst_rot]), (r_round true (w := (ov w).drop k ++ (ov w).take k) (fun x hx => by
      rcases List.mem_append.mp hx with hx | hx
      · exact ho x (List.mem_of_mem_drop hx)
      · exact ho x (List.mem_of_mem_take hx)) (by rw [List.length_append, List.length_drop, List.length_take]; omega) nb).trans (by rw [lst_rot, lst_ov])⟩) (List.range w.length) .no (fun k hk => Nat.le_of_lt (List.mem_range.mp hk))
  have b3 := u3 hl e3
  have b4 := u4 (x4 := x4) w1 w2
  have b5 := u5 (x4 := x4) (w := w) (o := ov w) (l := lst w) (nb := nb) (p := w.filter odd) (q := (lst w).filter odd) (fun e => by
    refine List.filter_eq_nil_iff.mpr fun r hr => ?_
    have h2 := lst_even (w := w) (fun x hx => by
      have := (List.filter_eq_nil_iff.mp e) x hx
      unfold odd at this
      have := of_decide_eq_false (Bool.eq_false_iff.mpr this)
      omega) r hr
    unfold odd
    rw [decide_eq_false (by omega)]
    decide) (uC2 h (by omega)) (uC3 hL (by omega))
  have b6 := u6 (x4 := x4) (w := w) (o := ov w) (l := lst w) (nb := nb) hL (fun r m e => lst_head e)
  have s2 : f_law_word_right [.lst (tw w)] nb = fnEnd (b_law_word_right ⟨[.sh (.lst (tw w)), .no, .no, .no, .no, .no], [], nb⟩) := rfl
  have kk := seq_nx b0 (seq_nx b1 (seq_nx b2 (seq_nx b3 (seq_nx b4 (seq_nx b5 b6)))))
  rw [s2, show b_law_word_right ⟨[.sh (.lst (tw w)), .no, .no, .no, .no, .no], [], nb⟩ = _ from kk]
  rfl
end
end K35

end
section
set_option Elab.async false
set_option linter.all false
set_option maxRecDepth 100000
set_option autoImplicit false
set_option maxHeartbeats 400000
open PySem PySem.Spec PyProof.Rows L2
open TL hiding eqT neT
namespace K35
local macro_rules | `(tactic| trivial) => `(tactic| simp -implicitDefEqProofs only [w_callBF, kCallB_ap, gCallB_ap, gFRB_ok, lf_int, lf_tn, lf_tr, lf_bl, w_setDF, kSetD_ap, gSetD0_ap, kSetD2_ap, gSetD_ap, w_okB, w_excB, w_dicF, w_starA, kStar_l, kStar_t, kStar2_ap, vals_star, w_callKF, kCallK_ap, kCallK2_ap, gCallK_ap, prm_nil, w_tryF, kTry_ok, kTry_exc, gTry_t, gTry_f, kTry2_ap, w_raiseF, kRaise_ap, gRaise_ap, w_par3F, kPar3a_ap, kPar3b_ap, kPar3c_ap, gPar_exc, gPar_exc1, w_slF, kSl1_ap, kSl2_ap, kSl3_ap, w_someB, kSome_ap, w_noB, w_rngI2, kRng2_ap, List.nil_append, List.cons_append,  w_con, w_opE, kOpE_sh, kOpE_ow, w_nilA, w_consA, kCons_ap, kCons2_ap, w_op2, kOp2_ap, kOp2'_ap, gOp2_ap, w_op1, kOp1_ap, gOp1_ap, w_opN, kOpN_ap, gOpN_ap, w_res, w_tst, kTst_ap, w_chn, kChn_ap, kChn2_ap, gChn_ap, hChn_t, hChn_f, kChn3_ap, w_andT, kAndT_t, kAndT_f, w_orT, kOrT_t, kOrT_f, w_notT, kNotT_ap, w_andE, kAndE_t, kAndE_f, w_orE, kOrE_t, kOrE_f, w_notE, kNotE_ap, w_ite3, kIte3_t, kIte3_f, w_lstF, kLst_ap, w_tupF, kTup_ap, gLst_ap, gTup_ap, w_seq, kSeq_nx, kSeq_rt, kSeq_bk, kSeq_ct, w_nxF, w_bkF, w_ctF, w_retF, kRet_ap, w_retNF, w_dropF, kDrop_ap, w_ifF, kIfF_t, kIfF_f, w_setF, kSet_ap, w_asgF, kAsg_ap, gAsg_ap, w_forF, kFor_ap, w_forL, w_forL0, gForL_ap, kForL_nx, kForL_ct, kForL_bk, kForL_rt, w_callF, kCall_ap, gCall_ap, gFR_ok, gFR_exc, w_seqI, kSeqI_l, kSeqI_t, w_enumI, kEnumI_l, kEnumI_t, w_zipI, kZip_ap, kZip2_l, kZip2_t, w_rngI1, kRng_n, w_yesT, w_var, w_varE, w_varR, gVar_sh, gVar_ow, gVarE_sh, gVarE_ow, gVarR_sh, gVarR_ow, get_pl, get_val, tree_sh, tree_ow, slot_tree_sh, slot_tree_ow, w_methF, gMeth0_ap, kMeth_ap, gMeth_ap, hMeth_ap, w_setIF, kSetI_ap, gSetI0_ap, kSetI2_ap, gSetI_ap, hSetI_ap, w_parF, kPar_ap, gPar_ap, gPar_one, nil_app, put_nm, put_tp, put_tpw, put_tpl, putAll_nil, putAll_cons, vals_nil, vals_cons, gets_nil, gets_cons, Option.map_some, Option.bind_some, List.getElem?_cons_succ, List.getElem?_cons_zero, List.set_cons_succ, List.set_cons_zero, List.length_cons, List.length_nil, Nat.zero_add, Nat.reduceAdd, Nat.reduceLT, Nat.reduceLeDiff, Nat.le_refl, and_self, ↓reduceIte, Bool.not_true, Bool.not_false, fnEnd, *])

def tww (F : List (List Nat)) : List T := F.map fun w => .lst (tw w)
theorem tww_append (a b : List (List Nat)) : tww (a ++ b) = tww a ++ tww b := List.map_append
theorem tww_length (a : List (List Nat)) : (tww a).length = a.length := List.length_map _
theorem fm_ww (f : Nat → List Nat) : ∀ w : List Nat, (w.filterMap fun x => some (T.lst (tw (f x)))) = tww (w.map f)
  | [] => rfl
  | x :: w => congrArg (T.lst (tw (f x)) :: ·) (fm_ww f w)
section
variable {u : List Nat} {m : Nat} {nb : Nib}
theorem a_C1 (hu : ∀ r ∈ u, r < 52 ∧ r % 2 = 0) (hl : u.length ≤ 100) (gh : List Slot) : b_law_all_C1 ⟨[.sh (.lst (tw u)), .sh (.int (m : Int)), .no, .no, .no, .no, .no, .no, .no], gh, nb⟩ = .ok (.ow (.lst (tw (u.map tu)))) ⟨[.sh (.lst (tw u)), .sh (.int (m : Int)), .no, .no, .no, .no, .no, .no, .no], gh, nb⟩ := by
  refine (compF_map (S1 := ⟨[.sh (.lst (tw u)), .sh (.int (m : Int)), .no, .no, .no, .no, .no, .no, .no], gh, nb⟩) u sT (fun r => some (sT (tu r))) (by clear hu hl; trivial; rfl) rfl rfl (len_sz (by omega)) (fun r hm acc => ?_)).trans (by rw [fm_tw])
  obtain ⟨_, e1, _⟩ := x_even r (hu r hm).1 (hu r hm).2
  clear hu hl hm
  exact compStep_map (S1 := ⟨[.sh (.lst (tw u)), .sh (.int (m : Int)), .no, .no, .no, .no, .no, .sh (sT r), .no], gh ++ [.ow (.lst acc)], nb⟩) rfl (by trivial; rfl) rfl rfl
/-- a frozen list -/
theorem OS.frz {x : Slot} {ts : List T} (h : OS x ts) : x = .ow (.lst ts) ∨ x = .sh (.lst ts) := h
theorem a_C2 {g w : List Nat} (hg : g.length ≤ 1000) (hw : w.length ≤ 500) (x2 x3 x4 x5 : Slot) (h2 : OS x2 (tw g)) : b_law_all_C2 ⟨[.sh (.lst (tw u)), .sh (.int (m : Int)), x2, x3, x4, x5, .sh (.lst (tw w)), .no, .no], [], nb⟩ = .ok (.ow (.lst (tww (g.map fun r => w ++ [r])))) ⟨[.sh (.lst (tw u)), .sh (.int (m : Int)), .sh (.lst (tw g)), x3, x4, x5, .sh (.lst (tw w)), .no, .no], [], nb⟩ := by
  refine (compF_map (S1 := ⟨[.sh (.lst (tw u)), .sh (.int (m : Int)), .sh (.lst (tw g)), x3, x4, x5, .sh (.lst (tw w)), .no, .no], [], nb⟩) g sT (fun r => some (T.lst (tw (w ++ [r])))) ?_ rfl rfl (len_sz (by omega)) (fun r hm acc => ?_)).trans (by rw [fm_ww])
  · clear hg hw
    rcases h2 with e | e <;> subst e <;> (trivial; rfl)
  · have e1 : addT (.lst (tw w)) (.lst [sT r]) = some (.ow (.lst (tw (w ++ [r])))) := cat_l w [r] (by rw [List.length_singleton]; omega)
    obtain ⟨z, hz⟩ : ∃ z, z = w ++ [r] := ⟨_, rfl⟩
    rw [← hz] at e1 ⊢
    clear hg hw h2 hm hz
    exact compStep_map (S1 := ⟨[.sh (.lst (tw u)), .sh (.int (m : Int)), .sh (.lst (tw g)), x3, x4, x5, .sh (.lst (tw w)), .no, .sh (sT r)], [] ++ [.ow (.lst acc)], nb⟩) rfl (by trivial; rfl) rfl rfl
def longer (g : List Nat) (F : List (List Nat)) : List (List Nat) := F.flatMap fun w => g.map fun r => w ++ [r]
theorem a_loop3 {g : List Nat} (hg : g.length ≤ 100) (x3 x4 : Slot) (nb : Nib) : ∀ (F G : List (List Nat)) (x2 x6 : Slot), (∀ w ∈ F, w.length ≤ 500) → G.length + F.length * g.length ≤ 10000 → OS x2 (tw g) →
    ∃ x2' x6', OS x2' (tw g) ∧ forL (.nm 6) b_law_all_L3 (tww F) ⟨[.sh (.lst (tw u)), .sh (.int (m : Int)), x2, x3, x4, .ow (.lst (tww G)), x6, .no, .no], [], nb⟩ = .ok .nx ⟨[.sh (.lst (tw u)), .sh (.int (m : Int)), x2', x3, x4, .ow (.lst (tww (G ++ longer g F))), x6', .no, .no], [], nb⟩
  | [], G, x2, x6, _, _, h2 => ⟨x2, x6, h2, by
      rw [show longer g [] = [] from rfl, List.append_nil]
      rfl⟩
  | w :: F, G, x2, x6, hF, hl, h2 => by
    rw [List.length_cons, Nat.add_mul, Nat.one_mul] at hl
    have e1 := a_C2 (nb := nb) (u := u) (m := m) (g := g) (w := w) (by omega) (hF w List.mem_cons_self) x2 x3 x4 (.ow (.lst (tww G))) h2
    obtain ⟨x2', x6', h2', e2⟩ := a_loop3 hg x3 x4 nb F (G ++ g.map fun r => w ++ [r]) (.sh (.lst (tw g))) (.sh (.lst (tw w))) (fun v hv => hF v (List.mem_cons_of_mem _ hv)) (by rw [List.length_append, List.length_map]; omega) (.inr rfl)
    refine ⟨x2', x6', h2', ?_⟩
    have e3 : exP (tww G) [.lst (tww (g.map fun r => w ++ [r]))] = some (tww (G ++ g.map fun r => w ++ [r]), .non) := by
      rw [tww_append]
      exact ex_ok (len_sz (by rw [tww_length, tww_length, List.length_map]; omega))
    have e4 : b_law_all_L3 ⟨[.sh (.lst (tw u)), .sh (.int (m : Int)), x2, x3, x4, .ow (.lst (tww G)), .sh (.lst (tw w)), .no, .no], [], nb⟩ = .ok .nx ⟨[.sh (.lst (tw u)), .sh (.int (m : Int)), .sh (.lst (tw g)), x3, x4, .ow (.lst (tww (G ++ g.map fun r => w ++ [r]))), .sh (.lst (tw w)), .no, .no], [], nb⟩ := by
      obtain ⟨L, hL⟩ : ∃ L, L = g.map fun r => w ++ [r] := ⟨_, rfl⟩
      rw [← hL] at e1 e3 ⊢
      obtain ⟨M, hM⟩ : ∃ M, M = G ++ L := ⟨_, rfl⟩
      rw [← hM] at e3 ⊢
      clear hg hF hl h2 e2 h2' hL hM
      unfold b_law_all_L3
      trivial
    show forL (.nm 6) b_law_all_L3 (.lst (tw w) :: tww F) _ = _
    rw [forL_cons]
    show ((b_law_all_L3 ⟨[.sh (.lst (tw u)), .sh (.int (m : Int)), x2, x3, x4, .ow (.lst (tww G)), .sh (.lst (tw w)), .no, .no], [], nb⟩).bind _) = _
    rw [e4, R.bind_ok]
    refine e2.trans ?_
    rw [List.append_assoc]
    rfl
theorem a_step {g : List Nat} {F : List (List Nat)} (hg : g.length ≤ 100) (hF : ∀ w ∈ F, w.length ≤ 500) (hl : F.length * g.length ≤ 10000) (x2 x3 x4 x5 x6 : Slot) (h2 : OS x2 (tw g)) (h3 : OS x3 (tww F)) (nb : Nib) :
    ∃ x2' x5' x6', OS x2' (tw g) ∧ b_law_all_L4 ⟨[.sh (.lst (tw u)), .sh (.int (m : Int)), x2, x3, x4, x5, x6, .no, .no], [], nb⟩ = .ok .nx ⟨[.sh (.lst (tw u)), .sh (.int (m : Int)), x2', .sh (.lst (tww (longer g F))), x4, x5', x6', .no, .no], [], nb⟩ := by
  obtain ⟨x2', x6', h2', e1⟩ := a_loop3 (u := u) (m := m) hg (.sh (.lst (tww F))) x4 nb F [] x2 x6 hF (by rw [List.length_nil]; omega) h2
  replace e1 : forL (.nm 6) b_law_all_L3 (tww F) ⟨[.sh (.lst (tw u)), .sh (.int (m : Int)), x2, .sh (.lst (tww F)), x4, .ow (.lst []), x6, .no, .no], [], nb⟩ = _ := e1
  rw [List.nil_append] at e1
  refine ⟨x2', .sh (.lst (tww (longer g F))), x6', h2', ?_⟩
  obtain ⟨L, hL⟩ : ∃ L, L = longer g F := ⟨_, rfl⟩
  rw [← hL] at e1 ⊢
  unfold b_law_all_L4
  clear hg hF hl h2 h2' hL
  rcases h3 with e | e
  · subst e
    refine seq_nx (S1 := ⟨[.sh (.lst (tw u)), .sh (.int (m : Int)), x2, .ow (.lst (tww F)), x4, .ow (.lst []), x6, .no, .no], [], nb⟩) (by clear e1; trivial) ?_
    refine seq_nx (S1 := ⟨[.sh (.lst (tw u)), .sh (.int (m : Int)), x2', .sh (.lst (tww F)), x4, .ow (.lst (tww L)), x6', .no, .no], [], nb⟩) (by trivial) ?_
    clear e1
    trivial
  · subst e
    refine seq_nx (S1 := ⟨[.sh (.lst (tw u)), .sh (.int (m : Int)), x2, .sh (.lst (tww F)), x4, .ow (.lst []), x6, .no, .no], [], nb⟩) (by clear e1; trivial) ?_
    refine seq_nx (S1 := ⟨[.sh (.lst (tw u)), .sh (.int (m : Int)), x2', .sh (.lst (tww F)), x4, .ow (.lst (tww L)), x6', .no, .no], [], nb⟩) (by trivial) ?_
    clear e1
    trivial
theorem longer_len (g : List Nat) (F : List (List Nat)) : (longer g F).length = F.length * g.length := by
  unfold longer
  induction F with
  | nil => simp
  | cons w F ih => rw [List.flatMap_cons, List.length_append, List.length_map, ih, List.length_cons, Nat.add_mul, Nat.one_mul, Nat.add_comm]
def Good (n : Nat) (F : List (List Nat)) : Prop := ∀ w ∈ F, (∀ x ∈ w, x < 52) ∧ w.length ≤ n
theorem longer_good {g : List Nat} {F : List (List Nat)} {n : Nat} (hg : ∀ r ∈ g, r < 52) (h : Good n F) : Good (n + 1) (longer g F) := fun w hw => by
  unfold longer at hw
  obtain ⟨v, hv, hw⟩ := List.mem_flatMap.mp hw
  obtain ⟨r, hr, e⟩ := List.mem_map.mp hw
  obtain ⟨h1, h2⟩ := h v hv
  rw [← e]
  refine ⟨fun x hx => ?_, by rw [List.length_append, List.length_singleton]; omega⟩
  rcases List.mem_append.mp hx with hx | hx
  · exact h1 x hx
  · rw [List.mem_singleton.mp hx]; exact hg r hr
theorem a_loop4 {g : List Nat} (hg : g.length ≤ 4) (hg2 : ∀ r ∈ g, r < 52) (nb : Nib) : ∀ (l : List Nat) (F : List (List Nat)) (n : Nat) (x2 x3 x4 x5 x6 : Slot), Good n F → n + l.length ≤ 100 → F.length * 4 ^ l.length ≤ 64 → OS x2 (tw g) → OS x3 (tww F) →
    ∃ F' x2' x3' x4' x5' x6', Good (n + l.length) F' ∧ F'.length ≤ 64 ∧ OS x3' (tww F') ∧ forL (.nm 4) b_law_all_L4 (tn l) ⟨[.sh (.lst (tw u)), .sh (.int (m : Int)), x2, x3, x4, x5, x6, .no, .no], [], nb⟩ = .ok .nx ⟨[.sh (.lst (tw u)), .sh (.int (m : Int)), x2', x3', x4', x5', x6', .no, .no], [], nb⟩
  | [], F, n, x2, x3, x4, x5, x6, hF, hn, hl, h2, h3 => ⟨F, x2, x3, x4, x5, x6, hF, by simpa using hl, h3, rfl⟩
  | i :: l, F, n, x2, x3, x4, x5, x6, hF, hn, hl, h2, h3 => by
    rw [List.length_cons] at hn hl
    have hp : 1 ≤ 4 ^ l.length := Nat.one_le_pow _ _ (by omega)
    have hl1 : F.length * 4 ≤ 64 := by
      refine Nat.le_trans (Nat.mul_le_mul_left _ ?_) hl
      rw [Nat.pow_succ]
      omega
    have hgl : F.length * g.length ≤ F.length * 4 := Nat.mul_le_mul_left _ hg
    obtain ⟨y2, y5, y6, h2', e1⟩ := a_step (u := u) (m := m) (g := g) (F := F) (by omega) (fun w hw => by have := (hF w hw).2; omega) (by omega) x2 x3 (.sh (.int (i : Int))) x5 x6 h2 h3 nb
    obtain ⟨F', x2', x3', x4', x5', x6', a1, a2, a3, e2⟩ := a_loop4 hg hg2 nb l (longer g F) (n + 1) y2 (.sh (.lst (tww (longer g F)))) (.sh (.int (i : Int))) y5 y6 (longer_good hg2 hF) (by omega) (by
      rw [longer_len]
      refine Nat.le_trans (Nat.mul_le_mul_right _ hgl) ?_
      rw [Nat.mul_assoc]
      refine Nat.le_trans (Nat.le_of_eq ?_) hl
      rw [Nat.pow_succ, Nat.mul_comm (4 ^ l.length) 4]) h2' (.inr rfl)
    refine ⟨F', x2', x3', x4', x5', x6', fun w hw => ⟨(a1 w hw).1, by have := (a1 w hw).2; rw [List.length_cons]; omega⟩, a2, a3, ?_⟩
    rw [tn_cons, forL_cons]
    show ((b_law_all_L4 ⟨[.sh (.lst (tw u)), .sh (.int (m : Int)), x2, x3, .sh (.int (i : Int)), x5, x6, .no, .no], [], nb⟩).bind _) = _
    rw [e1, R.bind_ok]
    exact e2
theorem r_all (hu : ∀ r ∈ u, r < 52 ∧ r % 2 = 0) (hl : u.length ≤ 2) (hm : m ≤ 3) (nb : Nib) : ∃ F x, Good 3 F ∧ F.length ≤ 64 ∧ OS x (tww F) ∧ f_law_all [.lst (tw u), .int (m : Int)] nb = .ok x nb := by
  have e1 := a_C1 (nb := nb) (m := m) hu (by omega) []
  have e2 := cat_l u (u.map tu) (by rw [List.length_map]; omega)
  obtain ⟨g, hg⟩ : ∃ g, g = u ++ u.map tu := ⟨_, rfl⟩
  have hg1 : g.length ≤ 4 := by rw [hg, List.length_append, List.length_map]; omega
  have hg2 : ∀ r ∈ g, r < 52 := fun r hr => by
    rw [hg] at hr
    rcases List.mem_append.mp hr with hr | hr
    · exact (hu r hr).1
    · obtain ⟨q, hq, e⟩ := List.mem_map.mp hr
      rw [← e]
      exact tu_lt (hu q hq).1
  rw [← hg] at e2
  obtain ⟨F', x2', x3', x4', x5', x6', a1, a2, a3, e3⟩ := a_loop4 (u := u) (m := m) hg1 hg2 nb (List.range m) [[]] 0 (.ow (.lst (tw g))) (.ow (.lst (tww [[]]))) .no .no .no (fun w hw => by
    rw [List.mem_singleton.mp hw]
    exact ⟨(fun x hx => nomatch hx), Nat.le_refl _⟩) (by rw [List.length_range]; omega) (by
    rw [List.length_range, List.length_singleton, Nat.one_mul]
    exact Nat.pow_le_pow_right (by omega) hm) (.inl rfl) (.inl rfl)
  rw [List.length_range] at a1
  have e4 : ∀ S, kRng (.val (.int (m : Int))) S = .ok (tn (List.range m)) S := fun S => kRng_n S _ (by omega)
  replace e3 : forL (.nm 4) b_law_all_L4 (tn (List.range m)) ⟨[.sh (.lst (tw u)), .sh (.int (m : Int)), .ow (.lst (tw g)), .ow (.lst [.lst []]), .no, .no, .no, .no, .no], [], nb⟩ = _ := e3
  have s2 : f_law_all [.lst (tw u), .int (m : Int)] nb = fnEnd (b_law_all ⟨[.sh (.lst (tw u)), .sh (.int (m : Int)), .no, .no, .no, .no, .no, .no, .no], [], nb⟩) := rfl
  have b0 : (parF 2 3 (op2 addT (var 0) (opE (b_law_all_C1))) (lstF (consA (opE (lstF (nilA))) (nilA)))) ⟨[.sh (.lst (tw u)), .sh (.int (m : Int)), .no, .no, .no, .no, .no, .no, .no], [], nb⟩ = .ok .nx ⟨[.sh (.lst (tw u)), .sh (.int (m : Int)), .ow (.lst (tw g)), .ow (.lst [.lst []]), .no, .no, .no, .no, .no], [], nb⟩ := by
    obtain ⟨v, hv⟩ : ∃ v, v = u.map tu := ⟨_, rfl⟩
    rw [← hv] at e1 e2
    clear hu hl hm hg hg1 hg2 a1 a2 a3 e3 e4 s2 hv
    trivial
  have b1 : (forF (rngI1 (opE (varE 1))) (.nm 4) (b_law_all_L4)) ⟨[.sh (.lst (tw u)), .sh (.int (m : Int)), .ow (.lst (tw g)), .ow (.lst [.lst []]), .no, .no, .no, .no, .no], [], nb⟩ = .ok .nx ⟨[.sh (.lst (tw u)), .sh (.int (m : Int)), x2', x3', x4', x5', x6', .no, .no], [], nb⟩ := by
    clear hu hl hm hg hg1 hg2 a1 a2 a3 e1 e2 s2 b0
    trivial
  refine ⟨F', x3', fun w hw => ⟨(a1 w hw).1, by have := (a1 w hw).2; omega⟩, a2, a3, ?_⟩
  rcases a3 with e | e
  · subst e
    have kk := seq_nx b0 (seq_nx b1 (show (retF (varR 3)) _ = .ok (.rt (.ow (.lst (tww F')))) ⟨[.sh (.lst (tw u)), .sh (.int (m : Int)), x2', .no, x4', x5', x6', .no, .no], [], nb⟩ from by
      clear hu hl hm hg hg1 hg2 a1 a2 e1 e2 s2 b0 b1 e3 e4
      trivial))
    rw [s2, show b_law_all ⟨[.sh (.lst (tw u)), .sh (.int (m : Int)), .no, .no, .no, .no, .no, .no, .no], [], nb⟩ = _ from kk]
    rfl
  · subst e
    have kk := seq_nx b0 (seq_nx b1 (show (retF (varR 3)) _ = .ok (.rt (.sh (.lst (tww F')))) ⟨[.sh (.lst (tw u)), .sh (.int (m : Int)), x2', .sh (.lst (tww F')), x4', x5', x6', .no, .no], [], nb⟩ from by
      clear hu hl hm hg hg1 hg2 a1 a2 e1 e2 s2 b0 b1 e3 e4
      trivial))
    rw [s2, show b_law_all ⟨[.sh (.lst (tw u)), .sh (.int (m : Int)), .no, .no, .no, .no, .no, .no, .no], [], nb⟩ = _ from kk]
    rfl
end
end K35

end
section
set_option Elab.async false
set_option linter.all false
set_option maxRecDepth 100000
set_option autoImplicit false
set_option maxHeartbeats 400000
open PySem PySem.Spec PyProof.Rows L2
open TL hiding eqT neT
namespace K35
local macro_rules | `(tactic| trivial) => `(tactic| simp -implicitDefEqProofs only [w_callBF, kCallB_ap, gCallB_ap, gFRB_ok, lf_int, lf_tn, lf_tr, lf_bl, w_setDF, kSetD_ap, gSetD0_ap, kSetD2_ap, gSetD_ap, w_okB, w_excB, w_dicF, w_starA, kStar_l, kStar_t, kStar2_ap, vals_star, w_callKF, kCallK_ap, kCallK2_ap, gCallK_ap, prm_nil, w_tryF, kTry_ok, kTry_exc, gTry_t, gTry_f, kTry2_ap, w_raiseF, kRaise_ap, gRaise_ap, w_par3F, kPar3a_ap, kPar3b_ap, kPar3c_ap, gPar_exc, gPar_exc1, w_slF, kSl1_ap, kSl2_ap, kSl3_ap, w_someB, kSome_ap, w_noB, w_rngI2, kRng2_ap, List.nil_append, List.cons_append,  w_con, w_opE, kOpE_sh, kOpE_ow, w_nilA, w_consA, kCons_ap, kCons2_ap, w_op2, kOp2_ap, kOp2'_ap, gOp2_ap, w_op1, kOp1_ap, gOp1_ap, w_opN, kOpN_ap, gOpN_ap, w_res, w_tst, kTst_ap, w_chn, kChn_ap, kChn2_ap, gChn_ap, hChn_t, hChn_f, kChn3_ap, w_andT, kAndT_t, kAndT_f, w_orT, kOrT_t, kOrT_f, w_notT, kNotT_ap, w_andE, kAndE_t, kAndE_f, w_orE, kOrE_t, kOrE_f, w_notE, kNotE_ap, w_ite3, kIte3_t, kIte3_f, w_lstF, kLst_ap, w_tupF, kTup_ap, gLst_ap, gTup_ap, w_seq, kSeq_nx, kSeq_rt, kSeq_bk, kSeq_ct, w_nxF, w_bkF, w_ctF, w_retF, kRet_ap, w_retNF, w_dropF, kDrop_ap, w_ifF, kIfF_t, kIfF_f, w_setF, kSet_ap, w_asgF, kAsg_ap, gAsg_ap, w_forF, kFor_ap, w_forL, w_forL0, gForL_ap, kForL_nx, kForL_ct, kForL_bk, kForL_rt, w_callF, kCall_ap, gCall_ap, gFR_ok, gFR_exc, w_seqI, kSeqI_l, kSeqI_t, w_enumI, kEnumI_l, kEnumI_t, w_zipI, kZip_ap, kZip2_l, kZip2_t, w_rngI1, kRng_n, w_yesT, w_var, w_varE, w_varR, gVar_sh, gVar_ow, gVarE_sh, gVarE_ow, gVarR_sh, gVarR_ow, get_pl, get_val, tree_sh, tree_ow, slot_tree_sh, slot_tree_ow, w_methF, gMeth0_ap, kMeth_ap, gMeth_ap, hMeth_ap, w_setIF, kSetI_ap, gSetI0_ap, kSetI2_ap, gSetI_ap, hSetI_ap, w_parF, kPar_ap, gPar_ap, gPar_one, nil_app, put_nm, put_tp, put_tpw, put_tpl, putAll_nil, putAll_cons, vals_nil, vals_cons, gets_nil, gets_cons, Option.map_some, Option.bind_some, List.getElem?_cons_succ, List.getElem?_cons_zero, List.set_cons_succ, List.set_cons_zero, List.length_cons, List.length_nil, Nat.zero_add, Nat.reduceAdd, Nat.reduceLT, Nat.reduceLeDiff, Nat.le_refl, and_self, ↓reduceIte, Bool.not_true, Bool.not_false, fnEnd, *])

def oddA (r : Nat) : List T := [sT r, .str (sS r ++ sS r), .non, .int 5, .bl true, .dic [], .dic [(.str (sS r), sT r)], .lst [.str ⟨#[65 + r / 2]⟩], .lst [.str (sS r ++ "''")], .lst [.str ("'" ++ sS r)], .lst [.str ""], .lst [.str "'"], .lst [.str (sS r ++ sS r)]]
def oddB (r : Nat) : List T := [.lst [.int 1], .lst [.non], .lst [sT r, .lst [sT r]], .lst [.str (sS r ++ " ")], .lst [.str "1"], .lst [sT r, .str (sS r ++ "1")], .lst [sT r, .bl true], .str "", .lst [sT r, .str "-"], .lst [.str " "], .lst [.str "_"], .lst [.str (sS r ++ "\n")], .lst [sT r, .str (sS r ++ "'\n")]]
abbrev exW : Ex := ⟨1, [("part", .str "word")]⟩
theorem l_cases {L : List T} {P : T → Prop} (h : ∀ i < L.length, P (L.getD i .non)) : ∀ t ∈ L, P t := fun t ht => by
  obtain ⟨i, hi⟩ := List.mem_iff_getElem?.mp ht
  have h2 : i < L.length := (List.getElem?_eq_some_iff.mp hi).1
  have := h i h2
  rw [List.getD_eq_getElem?_getD, hi] at this
  exact this
theorem x_bad0 (nb : Nib) : ∀ t ∈ oddA 0 ++ oddB 0, f_is_word [t] nb = .ok (.sh (.bl false)) nb := l_cases fun i hi => by
  have hi : i < 26 := hi
  match i, hi with
  | 0, _ => kernel_rfl
  | 1, _ => kernel_rfl
  | 2, _ => kernel_rfl
  | 3, _ => kernel_rfl
  | 4, _ => kernel_rfl
  | 5, _ => kernel_rfl
  | 6, _ => kernel_rfl
  | 7, _ => kernel_rfl
  | 8, _ => kernel_rfl
  | 9, _ => kernel_rfl
  | 10, _ => kernel_rfl
  | 11, _ => kernel_rfl
  | 12, _ => kernel_rfl
  | 13, _ => kernel_rfl
  | 14, _ => kernel_rfl
  | 15, _ => kernel_rfl
  | 16, _ => kernel_rfl
  | 17, _ => kernel_rfl
  | 18, _ => kernel_rfl
  | 19, _ => kernel_rfl
  | 20, _ => kernel_rfl
  | 21, _ => kernel_rfl
  | 22, _ => kernel_rfl
  | 23, _ => kernel_rfl
  | 24, _ => kernel_rfl
  | 25, _ => kernel_rfl
  | n + 26, h => exact absurd h (by omega)
theorem x_bad2 (nb : Nib) : ∀ t ∈ oddA 2 ++ oddB 2, f_is_word [t] nb = .ok (.sh (.bl false)) nb := l_cases fun i hi => by
  have hi : i < 26 := hi
  match i, hi with
  | 0, _ => kernel_rfl
  | 1, _ => kernel_rfl
  | 2, _ => kernel_rfl
  | 3, _ => kernel_rfl
  | 4, _ => kernel_rfl
  | 5, _ => kernel_rfl
  | 6, _ => kernel_rfl
  | 7, _ => kernel_rfl
  | 8, _ => kernel_rfl
  | 9, _ => kernel_rfl
  | 10, _ => kernel_rfl
  | 11, _ => kernel_rfl
  | 12, _ => kernel_rfl
  | 13, _ => kernel_rfl
  | 14, _ => kernel_rfl
  | 15, _ => kernel_rfl
  | 16, _ => kernel_rfl
  | 17, _ => kernel_rfl
  | 18, _ => kernel_rfl
  | 19, _ => kernel_rfl
  | 20, _ => kernel_rfl
  | 21, _ => kernel_rfl
  | 22, _ => kernel_rfl
  | 23, _ => kernel_rfl
  | 24, _ => kernel_rfl
  | 25, _ => kernel_rfl
  | n + 26, h => exact absurd h (by omega)
theorem x_bad4 (nb : Nib) : ∀ t ∈ oddA 4 ++ oddB 4, f_is_word [t] nb = .ok (.sh (.bl false)) nb := l_cases fun i hi => by
  have hi : i < 26 := hi
  match i, hi with
  | 0, _ => kernel_rfl
  | 1, _ => kernel_rfl
  | 2, _ => kernel_rfl
  | 3, _ => kernel_rfl
  | 4, _ => kernel_rfl
  | 5, _ => kernel_rfl
  | 6, _ => kernel_rfl
  | 7, _ => kernel_rfl
  | 8, _ => kernel_rfl
  | 9, _ => kernel_rfl
  | 10, _ => kernel_rfl
  | 11, _ => kernel_rfl
  | 12, _ => kernel_rfl
  | 13, _ => kernel_rfl
  | 14, _ => kernel_rfl
  | 15, _ => kernel_rfl
  | 16, _ => kernel_rfl
  | 17, _ => kernel_rfl
  | 18, _ => kernel_rfl
  | 19, _ => kernel_rfl
  | 20, _ => kernel_rfl
  | 21, _ => kernel_rfl
  | 22, _ => kernel_rfl
  | 23, _ => kernel_rfl
  | 24, _ => kernel_rfl
  | 25, _ => kernel_rfl
  | n + 26, h => exact absurd h (by omega)
theorem x_bad6 (nb : Nib) : ∀ t ∈ oddA 6 ++ oddB 6, f_is_word [t] nb = .ok (.sh (.bl false)) nb := l_cases fun i hi => by
  have hi : i < 26 := hi
  match i, hi with
  | 0, _ => kernel_rfl
  | 1, _ => kernel_rfl
  | 2, _ => kernel_rfl
  | 3, _ => kernel_rfl
  | 4, _ => kernel_rfl
  | 5, _ => kernel_rfl
  | 6, _ => kernel_rfl
  | 7, _ => kernel_rfl
  | 8, _ => kernel_rfl
  | 9, _ => kernel_rfl
  | 10, _ => kernel_rfl
  | 11, _ => kernel_rfl
  | 12, _ => kernel_rfl
  | 13, _ => kernel_rfl
  | 14, _ => kernel_rfl
  | 15, _ => kernel_rfl
  | 16, _ => kernel_rfl
  | 17, _ => kernel_rfl
  | 18, _ => kernel_rfl
  | 19, _ => kernel_rfl
  | 20, _ => kernel_rfl
  | 21, _ => kernel_rfl
  | 22, _ => kernel_rfl
  | 23, _ => kernel_rfl
  | 24, _ => kernel_rfl
  | 25, _ => kernel_rfl
  | n + 26, h => exact absurd h (by omega)
theorem x_bad8 (nb : Nib) : ∀ t ∈ oddA 8 ++ oddB 8, f_is_word [t] nb = .ok (.sh (.bl false)) nb := l_cases fun i hi => by
  have hi : i < 26 := hi
  match i, hi with
  | 0, _ => kernel_rfl
  | 1, _ => kernel_rfl
  | 2, _ => kernel_rfl
  | 3, _ => kernel_rfl
  | 4, _ => kernel_rfl
  | 5, _ => kernel_rfl
  | 6, _ => kernel_rfl
  | 7, _ => kernel_rfl
  | 8, _ => kernel_rfl
  | 9, _ => kernel_rfl
  | 10, _ => kernel_rfl
  | 11, _ => kernel_rfl
  | 12, _ => kernel_rfl
  | 13, _ => kernel_rfl
  | 14, _ => kernel_rfl
  | 15, _ => kernel_rfl
  | 16, _ => kernel_rfl
  | 17, _ => kernel_rfl
  | 18, _ => kernel_rfl
  | 19, _ => kernel_rfl
  | 20, _ => kernel_rfl
  | 21, _ => kernel_rfl
  | 22, _ => kernel_rfl
  | 23, _ => kernel_rfl
  | 24, _ => kernel_rfl
  | 25, _ => kernel_rfl
  | n + 26, h => exact absurd h (by omega)
theorem x_bad10 (nb : Nib) : ∀ t ∈ oddA 10 ++ oddB 10, f_is_word [t] nb = .ok (.sh (.bl false)) nb := l_cases fun i hi => by
  have hi : i < 26 := hi
  match i, hi with
  | 0, _ => kernel_rfl
  | 1, _ => kernel_rfl
  | 2, _ => kernel_rfl
  | 3, _ => kernel_rfl
  | 4, _ => kernel_rfl
  | 5, _ => kernel_rfl
  | 6, _ => kernel_rfl
  | 7, _ => kernel_rfl
  | 8, _ => kernel_rfl
  | 9, _ => kernel_rfl
  | 10, _ => kernel_rfl
  | 11, _ => kernel_rfl
  | 12, _ => kernel_rfl
  | 13, _ => kernel_rfl
  | 14, _ => kernel_rfl
  | 15, _ => kernel_rfl
  | 16, _ => kernel_rfl
  | 17, _ => kernel_rfl
  | 18, _ => kernel_rfl
  | 19, _ => kernel_rfl
  | 20, _ => kernel_rfl
  | 21, _ => kernel_rfl
  | 22, _ => kernel_rfl
  | 23, _ => kernel_rfl
  | 24, _ => kernel_rfl
  | 25, _ => kernel_rfl
  | n + 26, h => exact absurd h (by omega)
theorem x_bad12 (nb : Nib) : ∀ t ∈ oddA 12 ++ oddB 12, f_is_word [t] nb = .ok (.sh (.bl false)) nb := l_cases fun i hi => by
  have hi : i < 26 := hi
  match i, hi with
  | 0, _ => kernel_rfl
  | 1, _ => kernel_rfl
  | 2, _ => kernel_rfl
  | 3, _ => kernel_rfl
  | 4, _ => kernel_rfl
  | 5, _ => kernel_rfl
  | 6, _ => kernel_rfl
  | 7, _ => kernel_rfl
  | 8, _ => kernel_rfl
  | 9, _ => kernel_rfl
  | 10, _ => kernel_rfl
  | 11, _ => kernel_rfl
  | 12, _ => kernel_rfl
  | 13, _ => kernel_rfl
  | 14, _ => kernel_rfl
  | 15, _ => kernel_rfl
  | 16, _ => kernel_rfl
  | 17, _ => kernel_rfl
  | 18, _ => kernel_rfl
  | 19, _ => kernel_rfl
  | 20, _ => kernel_rfl
  | 21, _ => kernel_rfl
  | 22, _ => kernel_rfl
  | 23, _ => kernel_rfl
  | 24, _ => kernel_rfl
  | 25, _ => kernel_rfl
  | n + 26, h => exact absurd h (by omega)
theorem x_bad14 (nb : Nib) : ∀ t ∈ oddA 14 ++ oddB 14, f_is_word [t] nb = .ok (.sh (.bl false)) nb := l_cases fun i hi => by
  have hi : i < 26 := hi
  match i, hi with
  | 0, _ => kernel_rfl
  | 1, _ => kernel_rfl
  | 2, _ => kernel_rfl
  | 3, _ => kernel_rfl
  | 4, _ => kernel_rfl
  | 5, _ => kernel_rfl
  | 6, _ => kernel_rfl
  | 7, _ => kernel_rfl
  | 8, _ => kernel_rfl
  | 9, _ => kernel_rfl
  | 10, _ => kernel_rfl
  | 11, _ => kernel_rfl
  | 12, _ => kernel_rfl
  | 13, _ => kernel_rfl
  | 14, _ => kernel_rfl
  | 15, _ => kernel_rfl
  | 16, _ => kernel_rfl
  | 17, _ => kernel_rfl
  | 18, _ => kernel_rfl
  | 19, _ => kernel_rfl
  | 20, _ => kernel_rfl
  | 21, _ => kernel_rfl
  | 22, _ => kernel_rfl
  | 23, _ => kernel_rfl
  | 24, _ => kernel_rfl
  | 25, _ => kernel_rfl
  | n + 26, h => exact absurd h (by omega)
theorem x_bad16 (nb : Nib) : ∀ t ∈ oddA 16 ++ oddB 16, f_is_word [t] nb = .ok (.sh (.bl false)) nb := l_cases fun i hi => by
  have hi : i < 26 := hi
  match i, hi with
  | 0, _ => kernel_rfl
  | 1, _ => kernel_rfl
  | 2, _ => kernel_rfl
  | 3, _ => kernel_rfl
  | 4, _ => kernel_rfl
  | 5, _ => kernel_rfl
  | 6, _ => kernel_rfl
  | 7, _ => kernel_rfl
  | 8, _ => kernel_rfl
  | 9, _ => kernel_rfl
  | 10, _ => kernel_rfl
  | 11, _ => kernel_rfl
  | 12, _ => kernel_rfl
  | 13, _ => kernel_rfl
  | 14, _ => kernel_rfl
  | 15, _ => kernel_rfl
  | 16, _ => kernel_rfl
  | 17, _ => kernel_rfl
  | 18, _ => kernel_rfl
  | 19, _ => kernel_rfl
  | 20, _ => kernel_rfl
  | 21, _ => kernel_rfl
  | 22, _ => kernel_rfl
  | 23, _ => kernel_rfl
  | 24, _ => kernel_rfl
  | 25, _ => kernel_rfl
  | n + 26, h => exact absurd h (by omega)
theorem x_bad18 (nb : Nib) : ∀ t ∈ oddA 18 ++ oddB 18, f_is_word [t] nb = .ok (.sh (.bl false)) nb := l_cases fun i hi => by
  have hi : i < 26 := hi
  match i, hi with
  | 0, _ => kernel_rfl
  | 1, _ => kernel_rfl
  | 2, _ => kernel_rfl
  | 3, _ => kernel_rfl
  | 4, _ => kernel_rfl
  | 5, _ => kernel_rfl
  | 6, _ => kernel_rfl
  | 7, _ => kernel_rfl
  | 8, _ => kernel_rfl
  | 9, _ => kernel_rfl
  | 10, _ => kernel_rfl
  | 11, _ => kernel_rfl
  | 12, _ => kernel_rfl
  | 13, _ => kernel_rfl
  | 14, _ => kernel_rfl
  | 15, _ => kernel_rfl
  | 16, _ => kernel_rfl
  | 17, _ => kernel_rfl
  | 18, _ => kernel_rfl
  | 19, _ => kernel_rfl
  | 20, _ => kernel_rfl
  | 21, _ => kernel_rfl
  | 22, _ => kernel_rfl
  | 23, _ => kernel_rfl
  | 24, _ => kernel_rfl
  | 25, _ => kernel_rfl
  | n + 26, h => exact absurd h (by omega)
theorem x_bad20 (nb : Nib) : ∀ t ∈ oddA 20 ++ oddB 20, f_is_word [t] nb = .ok (.sh (.bl false)) nb := l_cases fun i hi => by
  have hi : i < 26 := hi
  match i, hi with
  | 0, _ => kernel_rfl
  | 1, _ => kernel_rfl
  | 2, _ => kernel_rfl
  | 3, _ => kernel_rfl
  | 4, _ => kernel_rfl
  | 5, _ => kernel_rfl
  | 6, _ => kernel_rfl
  | 7, _ => kernel_rfl
  | 8, _ => kernel_rfl
  | 9, _ => kernel_rfl
  | 10, _ => kernel_rfl
  | 11, _ => kernel_rfl
  | 12, _ => kernel_rfl
  | 13, _ => kernel_rfl
  | 14, _ => kernel_rfl
  | 15, _ => kernel_rfl
  | 16, _ => kernel_rfl
  | 17, _ => kernel_rfl
  | 18, _ => kernel_rfl
  | 19, _ => kernel_rfl
  | 20, _ => kernel_rfl
  | 21, _ => kernel_rfl
  | 22, _ => kernel_rfl
  | 23, _ => kernel_rfl
  | 24, _ => kernel_rfl
  | 25, _ => kernel_rfl
  | n + 26, h => exact absurd h (by omega)
theorem x_bad22 (nb : Nib) : ∀ t ∈ oddA 22 ++ oddB 22, f_is_word [t] nb = .ok (.sh (.bl false)) nb := l_cases fun i hi => by
  have hi : i < 26 := hi
  match i, hi with
  | 0, _ => kernel_rfl
  | 1, _ => kernel_rfl
  | 2, _ => kernel_rfl
  | 3, _ => kernel_rfl
  | 4, _ => kernel_rfl
  | 5, _ => kernel_rfl
  | 6, _ => kernel_rfl
  | 7, _ => kernel_rfl
  | 8, _ => kernel_rfl
  | 9, _ => kernel_rfl
  | 10, _ => kernel_rfl
  | 11, _ => kernel_rfl
  | 12, _ => kernel_rfl
  | 13, _ => kernel_rfl
  | 14, _ => kernel_rfl
  | 15, _ => kernel_rfl
  | 16, _ => kernel_rfl
  | 17, _ => kernel_rfl
  | 18, _ => kernel_rfl
  | 19, _ => kernel_rfl
  | 20, _ => kernel_rfl
  | 21, _ => kernel_rfl
  | 22, _ => kernel_rfl
  | 23, _ => kernel_rfl
  | 24, _ => kernel_rfl
  | 25, _ => kernel_rfl
  | n + 26, h => exact absurd h (by omega)
theorem x_bad24 (nb : Nib) : ∀ t ∈ oddA 24 ++ oddB 24, f_is_word [t] nb = .ok (.sh (.bl false)) nb := l_cases fun i hi => by
  have hi : i < 26 := hi
  match i, hi with
  | 0, _ => kernel_rfl
  | 1, _ => kernel_rfl
  | 2, _ => kernel_rfl
  | 3, _ => kernel_rfl
  | 4, _ => kernel_rfl
  | 5, _ => kernel_rfl
  | 6, _ => kernel_rfl
  | 7, _ => kernel_rfl
  | 8, _ => kernel_rfl
  | 9, _ => kernel_rfl
  | 10, _ => kernel_rfl
  | 11, _ => kernel_rfl
  | 12, _ => kernel_rfl
  | 13, _ => kernel_rfl
  | 14, _ => kernel_rfl
  | 15, _ => kernel_rfl
  | 16, _ => kernel_rfl
  | 17, _ => kernel_rfl
  | 18, _ => kernel_rfl
  | 19, _ => kernel_rfl
  | 20, _ => kernel_rfl
  | 21, _ => kernel_rfl
  | 22, _ => kernel_rfl
  | 23, _ => kernel_rfl
  | 24, _ => kernel_rfl
  | 25, _ => kernel_rfl
  | n + 26, h => exact absurd h (by omega)
theorem x_bad26 (nb : Nib) : ∀ t ∈ oddA 26 ++ oddB 26, f_is_word [t] nb = .ok (.sh (.bl false)) nb := l_cases fun i hi => by
  have hi : i < 26 := hi
  match i, hi with
  | 0, _ => kernel_rfl
  | 1, _ => kernel_rfl
  | 2, _ => kernel_rfl
  | 3, _ => kernel_rfl
  | 4, _ => kernel_rfl
  | 5, _ => kernel_rfl
  | 6, _ => kernel_rfl
  | 7, _ => kernel_rfl
  | 8, _ => kernel_rfl
  | 9, _ => kernel_rfl
  | 10, _ => kernel_rfl
  | 11, _ => kernel_rfl
  | 12, _ => kernel_rfl
  | 13, _ => kernel_rfl
  | 14, _ => kernel_rfl
  | 15, _ => kernel_rfl
  | 16, _ => kernel_rfl
  | 17, _ => kernel_rfl
  | 18, _ => kernel_rfl
  | 19, _ => kernel_rfl
  | 20, _ => kernel_rfl
  | 21, _ => kernel_rfl
  | 22, _ => kernel_rfl
  | 23, _ => kernel_rfl
  | 24, _ => kernel_rfl
  | 25, _ => kernel_rfl
  | n + 26, h => exact absurd h (by omega)
theorem x_bad28 (nb : Nib) : ∀ t ∈ oddA 28 ++ oddB 28, f_is_word [t] nb = .ok (.sh (.bl false)) nb := l_cases fun i hi => by
  have hi : i < 26 := hi
  match i, hi with
  | 0, _ => kernel_rfl
  | 1, _ => kernel_rfl
  | 2, _ => kernel_rfl
  | 3, _ => kernel_rfl
  | 4, _ => kernel_rfl
  | 5, _ => kernel_rfl
  | 6, _ => kernel_rfl
  | 7, _ => kernel_rfl
  | 8, _ => kernel_rfl
  | 9, _ => kernel_rfl
  | 10, _ => kernel_rfl
  | 11, _ => kernel_rfl
  | 12, _ => kernel_rfl
  | 13, _ => kernel_rfl
  | 14, _ => kernel_rfl
  | 15, _ => kernel_rfl
  | 16, _ => kernel_rfl
  | 17, _ => kernel_rfl
  | 18, _ => kernel_rfl
  | 19, _ => kernel_rfl
  | 20, _ => kernel_rfl
  | 21, _ => kernel_rfl
  | 22, _ => kernel_rfl
  | 23, _ => kernel_rfl
  | 24, _ => kernel_rfl
  | 25, _ => kernel_rfl
  | n + 26, h => exact absurd h (by omega)
theorem x_bad30 (nb : Nib) : ∀ t ∈ oddA 30 ++ oddB 30, f_is_word [t] nb = .ok (.sh (.bl false)) nb := l_cases fun i hi => by
  have hi : i < 26 := hi
  match i, hi with
  | 0, _ => kernel_rfl
  | 1, _ => kernel_rfl
  | 2, _ => kernel_rfl
  | 3, _ => kernel_rfl
  | 4, _ => kernel_rfl
  | 5, _ => kernel_rfl
  | 6, _ => kernel_rfl
  | 7, _ => kernel_rfl
  | 8, _ => kernel_rfl
  | 9, _ => kernel_rfl
  | 10, _ => kernel_rfl
  | 11, _ => kernel_rfl
  | 12, _ => kernel_rfl
  | 13, _ => kernel_rfl
  | 14, _ => kernel_rfl
  | 15, _ => kernel_rfl
  | 16, _ => kernel_rfl
  | 17, _ => kernel_rfl
  | 18, _ => kernel_rfl
  | 19, _ => kernel_rfl
  | 20, _ => kernel_rfl
  | 21, _ => kernel_rfl
  | 22, _ => kernel_rfl
  | 23, _ => kernel_rfl
  | 24, _ => kernel_rfl
  | 25, _ => kernel_rfl
  | n + 26, h => exact absurd h (by omega)
theorem x_bad32 (nb : Nib) : ∀ t ∈ oddA 32 ++ oddB 32, f_is_word [t] nb = .ok (.sh (.bl false)) nb := l_cases fun i hi => by
  have hi : i < 26 := hi
  match i, hi with
  | 0, _ => kernel_rfl
  | 1, _ => kernel_rfl
  | 2, _ => kernel_rfl
  | 3, _ => kernel_rfl
  | 4, _ => kernel_rfl
  | 5, _ => kernel_rfl
  | 6, _ => kernel_rfl
  | 7, _ => kernel_rfl
  | 8, _ => kernel_rfl
  | 9, _ => kernel_rfl
  | 10, _ => kernel_rfl
  | 11, _ => kernel_rfl
  | 12, _ => kernel_rfl
  | 13, _ => kernel_rfl
  | 14, _ => kernel_rfl
  | 15, _ => kernel_rfl
  | 16, _ => kernel_rfl
  | 17, _ => kernel_rfl
  | 18, _ => kernel_rfl
  | 19, _ => kernel_rfl
  | 20, _ => kernel_rfl
  | 21, _ => kernel_rfl
  | 22, _ => kernel_rfl
  | 23, _ => kernel_rfl
  | 24, _ => kernel_rfl
  | 25, _ => kernel_rfl
  | n + 26, h => exact absurd h (by omega)
theorem x_bad34 (nb : Nib) : ∀ t ∈ oddA 34 ++ oddB 34, f_is_word [t] nb = .ok (.sh (.bl false)) nb := l_cases fun i hi => by
  have hi : i < 26 := hi
  match i, hi with
  | 0, _ => kernel_rfl
  | 1, _ => kernel_rfl
  | 2, _ => kernel_rfl
  | 3, _ => kernel_rfl
  | 4, _ => kernel_rfl
  | 5, _ => kernel_rfl
  | 6, _ => kernel_rfl
  | 7, _ => kernel_rfl
  | 8, _ => kernel_rfl
  | 9, _ => kernel_rfl
  | 10, _ => kernel_rfl
  | 11, _ => kernel_rfl
  | 12, _ => kernel_rfl
  | 13, _ => kernel_rfl
  | 14, _ => kernel_rfl
  | 15, _ => kernel_rfl
  | 16, _ => kernel_rfl
  | 17, _ => kernel_rfl
  | 18, _ => kernel_rfl
  | 19, _ => kernel_rfl
  | 20, _ => kernel_rfl
  | 21, _ => kernel_rfl
  | 22, _ => kernel_rfl
  | 23, _ => kernel_rfl
  | 24, _ => kernel_rfl
  | 25, _ => kernel_rfl
  | n + 26, h => exact absurd h (by omega)
theorem x_bad36 (nb : Nib) : ∀ t ∈ oddA 36 ++ oddB 36, f_is_word [t] nb = .ok (.sh (.bl false)) nb := l_cases fun i hi => by
  have hi : i < 26 := hi
  match i, hi with
  | 0, _ => kernel_rfl
  | 1, _ => kernel_rfl
  | 2, _ => kernel_rfl
  | 3, _ => kernel_rfl
  | 4, _ => kernel_rfl
  | 5, _ => kernel_rfl
  | 6, _ => kernel_rfl
  | 7, _ => kernel_rfl
  | 8, _ => kernel_rfl
  | 9, _ => kernel_rfl
  | 10, _ => kernel_rfl
  | 11, _ => kernel_rfl
  | 12, _ => kernel_rfl
  | 13, _ => kernel_rfl
  | 14, _ => kernel_rfl
  | 15, _ => kernel_rfl
  | 16, _ => kernel_rfl
  | 17, _ => kernel_rfl
  | 18, _ => kernel_rfl
  | 19, _ => kernel_rfl
  | 20, _ => kernel_rfl
  | 21, _ => kernel_rfl
  | 22, _ => kernel_rfl
  | 23, _ => kernel_rfl
  | 24, _ => kernel_rfl
  | 25, _ => kernel_rfl
  | n + 26, h => exact absurd h (by omega)
theorem x_bad38 (nb : Nib) : ∀ t ∈ oddA 38 ++ oddB 38, f_is_word [t] nb = .ok (.sh (.bl false)) nb := l_cases fun i hi => by
  have hi : i < 26 := hi
  match i, hi with
  | 0, _ => kernel_rfl
  | 1, _ => kernel_rfl
  | 2, _ => kernel_rfl
  | 3, _ => kernel_rfl
  | 4, _ => kernel_rfl
  | 5, _ => kernel_rfl
  | 6, _ => kernel_rfl
  | 7, _ => kernel_rfl
  | 8, _ => kernel_rfl
  | 9, _ => kernel_rfl
  | 10, _ => kernel_rfl
  | 11, _ => kernel_rfl
  | 12, _ => kernel_rfl
  | 13, _ => kernel_rfl
  | 14, _ => kernel_rfl
  | 15, _ => kernel_rfl
  | 16, _ => kernel_rfl
  | 17, _ => kernel_rfl
  | 18, _ => kernel_rfl
  | 19, _ => kernel_rfl
  | 20, _ => kernel_rfl
  | 21, _ => kernel_rfl
  | 22, _ => kernel_rfl
  | 23, _ => kernel_rfl
  | 24, _ => kernel_rfl
  | 25, _ => kernel_rfl
  | n + 26, h => exact absurd h (by omega)
theorem x_bad40 (nb : Nib) : ∀ t ∈ oddA 40 ++ oddB 40, f_is_word [t] nb = .ok (.sh (.bl false)) nb := l_cases fun i hi => by
  have hi : i < 26 := hi
  match i, hi with
  | 0, _ => kernel_rfl
  | 1, _ => kernel_rfl
  | 2, _ => kernel_rfl
  | 3, _ => kernel_rfl
  | 4, _ => kernel_rfl
  | 5, _ => kernel_rfl
  | 6, _ => kernel_rfl
  | 7, _ => kernel_rfl
  | 8, _ => kernel_rfl
  | 9, _ => kernel_rfl
  | 10, _ => kernel_rfl
  | 11, _ => kernel_rfl
  | 12, _ => kernel_rfl
  | 13, _ => kernel_rfl
  | 14, _ => kernel_rfl
  | 15, _ => kernel_rfl
  | 16, _ => kernel_rfl
  | 17, _ => kernel_rfl
  | 18, _ => kernel_rfl
  | 19, _ => kernel_rfl
  | 20, _ => kernel_rfl
  | 21, _ => kernel_rfl
  | 22, _ => kernel_rfl
  | 23, _ => kernel_rfl
  | 24, _ => kernel_rfl
  | 25, _ => kernel_rfl
  | n + 26, h => exact absurd h (by omega)
theorem x_bad42 (nb : Nib) : ∀ t ∈ oddA 42 ++ oddB 42, f_is_word [t] nb = .ok (.sh (.bl false)) nb := l_cases fun i hi => by
  have hi : i < 26 := hi
  match i, hi with
  | 0, _ => kernel_rfl
  | 1, _ => kernel_rfl
  | 2, _ => kernel_rfl
  | 3, _ => kernel_rfl
  | 4, _ => kernel_rfl
  | 5, _ => kernel_rfl
  | 6, _ => kernel_rfl
  | 7, _ => kernel_rfl
  | 8, _ => kernel_rfl
  | 9, _ => kernel_rfl
  | 10, _ => kernel_rfl
  | 11, _ => kernel_rfl
  | 12, _ => kernel_rfl
  | 13, _ => kernel_rfl
  | 14, _ => kernel_rfl
  | 15, _ => kernel_rfl
  | 16, _ => kernel_rfl
  | 17, _ => kernel_rfl
  | 18, _ => kernel_rfl
  | 19, _ => kernel_rfl
  | 20, _ => kernel_rfl
  | 21, _ => kernel_rfl
  | 22, _ => kernel_rfl
  | 23, _ => kernel_rfl
  | 24, _ => kernel_rfl
  | 25, _ => kernel_rfl
  | n + 26, h => exact absurd h (by omega)
theorem x_bad44 (nb : Nib) : ∀ t ∈ oddA 44 ++ oddB 44, f_is_word [t] nb = .ok (.sh (.bl false)) nb := l_cases fun i hi => by
  have hi : i < 26 := hi
  match i, hi with
  | 0, _ => kernel_rfl
  | 1, _ => kernel_rfl
  | 2, _ => kernel_rfl
  | 3, _ => kernel_rfl
  | 4, _ => kernel_rfl
  | 5, _ => kernel_rfl
  | 6, _ => kernel_rfl
  | 7, _ => kernel_rfl
  | 8, _ => kernel_rfl
  | 9, _ => kernel_rfl
  | 10, _ => kernel_rfl
  | 11, _ => kernel_rfl
  | 12, _ => kernel_rfl
  | 13, _ => kernel_rfl
  | 14, _ => kernel_rfl
  | 15, _ => kernel_rfl
  | 16, _ => kernel_rfl
  | 17, _ => kernel_rfl
  | 18, _ => kernel_rfl
  | 19, _ => kernel_rfl
  | 20, _ => kernel_rfl
  | 21, _ => kernel_rfl
  | 22, _ => kernel_rfl
  | 23, _ => kernel_rfl
  | 24, _ => kernel_rfl
  | 25, _ => kernel_rfl
  | n + 26, h => exact absurd h (by omega)
theorem x_bad46 (nb : Nib) : ∀ t ∈ oddA 46 ++ oddB 46, f_is_word [t] nb = .ok (.sh (.bl false)) nb := l_cases fun i hi => by
  have hi : i < 26 := hi
  match i, hi with
  | 0, _ => kernel_rfl
  | 1, _ => kernel_rfl
  | 2, _ => kernel_rfl
  | 3, _ => kernel_rfl
  | 4, _ => kernel_rfl
  | 5, _ => kernel_rfl
  | 6, _ => kernel_rfl
  | 7, _ => kernel_rfl
  | 8, _ => kernel_rfl
  | 9, _ => kernel_rfl
  | 10, _ => kernel_rfl
  | 11, _ => kernel_rfl
  | 12, _ => kernel_rfl
  | 13, _ => kernel_rfl
  | 14, _ => kernel_rfl
  | 15, _ => kernel_rfl
  | 16, _ => kernel_rfl
  | 17, _ => kernel_rfl
  | 18, _ => kernel_rfl
  | 19, _ => kernel_rfl
  | 20, _ => kernel_rfl
  | 21, _ => kernel_rfl
  | 22, _ => kernel_rfl
  | 23, _ => kernel_rfl
  | 24, _ => kernel_rfl
  | 25, _ => kernel_rfl
  | n + 26, h => exact absurd h (by omega)
theorem x_bad48 (nb : Nib) : ∀ t ∈ oddA 48 ++ oddB 48, f_is_word [t] nb = .ok (.sh (.bl false)) nb := l_cases fun i hi => by
  have hi : i < 26 := hi
  match i, hi with
  | 0, _ => kernel_rfl
  | 1, _ => kernel_rfl
  | 2, _ => kernel_rfl
  | 3, _ => kernel_rfl
  | 4, _ => kernel_rfl
  | 5, _ => kernel_rfl
  | 6, _ => kernel_rfl
  | 7, _ => kernel_rfl
  | 8, _ => kernel_rfl
  | 9, _ => kernel_rfl
  | 10, _ => kernel_rfl
  | 11, _ => kernel_rfl
  | 12, _ => kernel_rfl
  | 13, _ => kernel_rfl
  | 14, _ => kernel_rfl
  | 15, _ => kernel_rfl
  | 16, _ => kernel_rfl
  | 17, _ => kernel_rfl
  | 18, _ => kernel_rfl
  | 19, _ => kernel_rfl
  | 20, _ => kernel_rfl
  | 21, _ => kernel_rfl
  | 22, _ => kernel_rfl
  | 23, _ => kernel_rfl
  | 24, _ => kernel_rfl
  | 25, _ => kernel_rfl
  | n + 26, h => exact absurd h (by omega)
theorem x_bad50 (nb : Nib) : ∀ t ∈ oddA 50 ++ oddB 50, f_is_word [t] nb = .ok (.sh (.bl false)) nb := l_cases fun i hi => by
  have hi : i < 26 := hi
  match i, hi with
  | 0, _ => kernel_rfl
  | 1, _ => kernel_rfl
  | 2, _ => kernel_rfl
  | 3, _ => kernel_rfl
  | 4, _ => kernel_rfl
  | 5, _ => kernel_rfl
  | 6, _ => kernel_rfl
  | 7, _ => kernel_rfl
  | 8, _ => kernel_rfl
  | 9, _ => kernel_rfl
  | 10, _ => kernel_rfl
  | 11, _ => kernel_rfl
  | 12, _ => kernel_rfl
  | 13, _ => kernel_rfl
  | 14, _ => kernel_rfl
  | 15, _ => kernel_rfl
  | 16, _ => kernel_rfl
  | 17, _ => kernel_rfl
  | 18, _ => kernel_rfl
  | 19, _ => kernel_rfl
  | 20, _ => kernel_rfl
  | 21, _ => kernel_rfl
  | 22, _ => kernel_rfl
  | 23, _ => kernel_rfl
  | 24, _ => kernel_rfl
  | 25, _ => kernel_rfl
  | n + 26, h => exact absurd h (by omega)
theorem x_bad {r : Nat} (hr : r < 52) (he : r % 2 = 0) (nb : Nib) : ∀ t ∈ oddA r ++ oddB r, f_is_word [t] nb = .ok (.sh (.bl false)) nb := by
  match r, hr, he with
  | 0, _, h => exact x_bad0 nb
  | 1, _, h => exact absurd h (by decide)
  | 2, _, h => exact x_bad2 nb
  | 3, _, h => exact absurd h (by decide)
  | 4, _, h => exact x_bad4 nb
  | 5, _, h => exact absurd h (by decide)
  | 6, _, h => exact x_bad6 nb
  | 7, _, h => exact absurd h (by decide)
  | 8, _, h => exact x_bad8 nb
  | 9, _, h => exact absurd h (by decide)
  | 10, _, h => exact x_bad10 nb
  | 11, _, h => exact absurd h (by decide)
  | 12, _, h => exact x_bad12 nb
  | 13, _, h => exact absurd h (by decide)
  | 14, _, h => exact x_bad14 nb
  | 15, _, h => exact absurd h (by decide)
  | 16, _, h => exact x_bad16 nb
  | 17, _, h => exact absurd h (by decide)
  | 18, _, h => exact x_bad18 nb
  | 19, _, h => exact absurd h (by decide)
  | 20, _, h => exact x_bad20 nb
  | 21, _, h => exact absurd h (by decide)
  | 22, _, h => exact x_bad22 nb
  | 23, _, h => exact absurd h (by decide)
  | 24, _, h => exact x_bad24 nb
  | 25, _, h => exact absurd h (by decide)
  | 26, _, h => exact x_bad26 nb
  | 27, _, h => exact absurd h (by decide)
  | 28, _, h => exact x_bad28 nb
  | 29, _, h => exact absurd h (by decide)
  | 30, _, h => exact x_bad30 nb
  | 31, _, h => exact absurd h (by decide)
  | 32, _, h => exact x_bad32 nb
  | 33, _, h => exact absurd h (by decide)
  | 34, _, h => exact x_bad34 nb
  | 35, _, h => exact absurd h (by decide)
  | 36, _, h => exact x_bad36 nb
  | 37, _, h => exact absurd h (by decide)
  | 38, _, h => exact x_bad38 nb
  | 39, _, h => exact absurd h (by decide)
  | 40, _, h => exact x_bad40 nb
  | 41, _, h => exact absurd h (by decide)
  | 42, _, h => exact x_bad42 nb
  | 43, _, h => exact absurd h (by decide)
  | 44, _, h => exact x_bad44 nb
  | 45, _, h => exact absurd h (by decide)
  | 46, _, h => exact x_bad46 nb
  | 47, _, h => exact absurd h (by decide)
  | 48, _, h => exact x_bad48 nb
  | 49, _, h => exact absurd h (by decide)
  | 50, _, h => exact x_bad50 nb
  | 51, _, h => exact absurd h (by decide)
  | n + 52, h, _ => exact absurd h (by omega)
theorem q1 {r : Nat} (hr : r < 52) (he : r % 2 = 0) (nb : Nib) : (setF 2 (lstF (consA (opE (varE 1)) (consA (opE (op2 addT (var 1) (var 1))) (consA (opE (con .non)) (consA (opE (con (.int 5))) (consA (opE (con (.bl true))) (consA (opE (dicF)) (consA (opE (dicV 1 1)) (consA (opE (lstF (consA (opE (op1 upT (var 1))) (nilA)))) (consA (opE (lstF (consA (opE (op2 addT (var 1) (opE (con (.str "''"))))) (nilA)))) (consA (opE (lstF (consA (opE (op2 addT (opE (con (.str "'"))) (var 1))) (nilA)))) (consA (opE (lstF (consA (opE (con (.str ""))) (nilA)))) (consA (opE (lstF (consA (opE (con (.str "'"))) (nilA)))) (consA (opE (lstF (consA (opE (op2 addT (var 1) (var 1))) (nilA)))) (nilA)))))))))))))))) ⟨[.sh .nib, .sh (sT r), .no, .no, .no, .no], [], nb⟩ = .ok .nx ⟨[.sh .nib, .sh (sT r), .ow (.lst (oddA r)), .no, .no, .no], [], nb⟩ := by
  match r, hr, he with
  | 0, _, h => kernel_rfl
  | 1, _, h => exact absurd h (by decide)
  | 2, _, h => kernel_rfl
  | 3, _, h => exact absurd h (by decide)
  | 4, _, h => kernel_rfl
  | 5, _, h => exact absurd h (by decide)
  | 6, _, h => kernel_rfl
  | 7, _, h => exact absurd h (by decide)
  | 8, _, h => kernel_rfl
  | 9, _, h => exact absurd h (by decide)
  | 10, _, h => kernel_rfl
  | 11, _, h => exact absurd h (by decide)
  | 12, _, h => kernel_rfl
  | 13, _, h => exact absurd h (by decide)
  | 14, _, h => kernel_rfl
  | 15, _, h => exact absurd h (by decide)
  | 16, _, h => kernel_rfl
  | 17, _, h => exact absurd h (by decide)
  | 18, _, h => kernel_rfl
  | 19, _, h => exact absurd h (by decide)
  | 20, _, h => kernel_rfl
  | 21, _, h => exact absurd h (by decide)
  | 22, _, h => kernel_rfl
  | 23, _, h => exact absurd h (by decide)
  | 24, _, h => kernel_rfl
  | 25, _, h => exact absurd h (by decide)
  | 26, _, h => kernel_rfl
  | 27, _, h => exact absurd h (by decide)
  | 28, _, h => kernel_rfl
  | 29, _, h => exact absurd h (by decide)
  | 30, _, h => kernel_rfl
  | 31, _, h => exact absurd h (by decide)
  | 32, _, h => kernel_rfl
  | 33, _, h => exact absurd h (by decide)
  | 34, _, h => kernel_rfl
  | 35, _, h => exact absurd h (by decide)
  | 36, _, h => kernel_rfl
  | 37, _, h => exact absurd h (by decide)
  | 38, _, h => kernel_rfl
  | 39, _, h => exact absurd h (by decide)
  | 40, _, h => kernel_rfl
  | 41, _, h => exact absurd h (by decide)
  | 42, _, h => kernel_rfl
  | 43, _, h => exact absurd h (by decide)
  | 44, _, h => kernel_rfl
  | 45, _, h => exact absurd h (by decide)
  | 46, _, h => kernel_rfl
  | 47, _, h => exact absurd h (by decide)
  | 48, _, h => kernel_rfl
  | 49, _, h => exact absurd h (by decide)
  | 50, _, h => kernel_rfl
  | 51, _, h => exact absurd h (by decide)
  | n + 52, h, _ => exact absurd h (by omega)
theorem q2 {r : Nat} (hr : r < 52) (he : r % 2 = 0) (nb : Nib) : (setF 2 (op2 addT (var 2) (opE (lstF (consA (opE (lstF (consA (opE (con (.int 1))) (nilA)))) (consA (opE (lstF (consA (opE (con .non)) (nilA)))) (consA (opE (lstF (consA (opE (varE 1)) (consA (opE (lstF (consA (opE (varE 1)) (nilA)))) (nilA))))) (consA (opE (lstF (consA (opE (op2 addT (var 1) (opE (con (.str " "))))) (nilA)))) (consA (opE (lstF (consA (opE (con (.str "1"))) (nilA)))) (consA (opE (lstF (consA (opE (varE 1)) (consA (opE (op2 addT (var 1) (opE (con (.str "1"))))) (nilA))))) (consA (opE (lstF (consA (opE (varE 1)) (consA (opE (con (.bl true))) (nilA))))) (consA (opE (con (.str ""))) (consA (opE (lstF (consA (opE (varE 1)) (consA (opE (con (.str "-"))) (nilA))))) (consA (opE (lstF (consA (opE (con (.str " "))) (nilA)))) (consA (opE (lstF (consA (opE (con (.str "_"))) (nilA)))) (consA (opE (lstF (consA (opE (op2 addT (var 1) (opE (con (.str "\n"))))) (nilA)))) (consA (opE (lstF (consA (opE (varE 1)) (consA (opE (op2 addT (var 1) (opE (con (.str "'\n"))))) (nilA))))) (nilA)))))))))))))))))) ⟨[.sh .nib, .sh (sT r), .ow (.lst (oddA r)), .no, .no, .no], [], nb⟩ = .ok .nx ⟨[.sh .nib, .sh (sT r), .ow (.lst (oddA r ++ oddB r)), .no, .no, .no], [], nb⟩ := by
  match r, hr, he with
  | 0, _, h => kernel_rfl
  | 1, _, h => exact absurd h (by decide)
  | 2, _, h => kernel_rfl
  | 3, _, h => exact absurd h (by decide)
  | 4, _, h => kernel_rfl
  | 5, _, h => exact absurd h (by decide)
  | 6, _, h => kernel_rfl
  | 7, _, h => exact absurd h (by decide)
  | 8, _, h => kernel_rfl
  | 9, _, h => exact absurd h (by decide)
  | 10, _, h => kernel_rfl
  | 11, _, h => exact absurd h (by decide)
  | 12, _, h => kernel_rfl
  | 13, _, h => exact absurd h (by decide)
  | 14, _, h => kernel_rfl
  | 15, _, h => exact absurd h (by decide)
  | 16, _, h => kernel_rfl
  | 17, _, h => exact absurd h (by decide)
  | 18, _, h => kernel_rfl
  | 19, _, h => exact absurd h (by decide)
  | 20, _, h => kernel_rfl
  | 21, _, h => exact absurd h (by decide)
  | 22, _, h => kernel_rfl
  | 23, _, h => exact absurd h (by decide)
  | 24, _, h => kernel_rfl
  | 25, _, h => exact absurd h (by decide)
  | 26, _, h => kernel_rfl
  | 27, _, h => exact absurd h (by decide)
  | 28, _, h => kernel_rfl
  | 29, _, h => exact absurd h (by decide)
  | 30, _, h => kernel_rfl
  | 31, _, h => exact absurd h (by decide)
  | 32, _, h => kernel_rfl
  | 33, _, h => exact absurd h (by decide)
  | 34, _, h => kernel_rfl
  | 35, _, h => exact absurd h (by decide)
  | 36, _, h => kernel_rfl
  | 37, _, h => exact absurd h (by decide)
  | 38, _, h => kernel_rfl
  | 39, _, h => exact absurd h (by decide)
  | 40, _, h => kernel_rfl
  | 41, _, h => exact absurd h (by decide)
  | 42, _, h => kernel_rfl
  | 43, _, h => exact absurd h (by decide)
  | 44, _, h => kernel_rfl
  | 45, _, h => exact absurd h (by decide)
  | 46, _, h => kernel_rfl
  | 47, _, h => exact absurd h (by decide)
  | 48, _, h => kernel_rfl
  | 49, _, h => exact absurd h (by decide)
  | 50, _, h => kernel_rfl
  | 51, _, h => exact absurd h (by decide)
  | n + 52, h, _ => exact absurd h (by omega)
end K35

end
section
set_option Elab.async false
set_option linter.all false
set_option maxRecDepth 100000
set_option autoImplicit false
set_option maxHeartbeats 400000
open PySem PySem.Spec PyProof.Rows L2
open TL hiding eqT neT
namespace K35
local macro_rules | `(tactic| trivial) => `(tactic| simp -implicitDefEqProofs only [w_callBF, kCallB_ap, gCallB_ap, gFRB_ok, lf_int, lf_tn, lf_tr, lf_bl, w_setDF, kSetD_ap, gSetD0_ap, kSetD2_ap, gSetD_ap, w_okB, w_excB, w_dicF, w_starA, kStar_l, kStar_t, kStar2_ap, vals_star, w_callKF, kCallK_ap, kCallK2_ap, gCallK_ap, prm_nil, w_tryF, kTry_ok, kTry_exc, gTry_t, gTry_f, kTry2_ap, w_raiseF, kRaise_ap, gRaise_ap, w_par3F, kPar3a_ap, kPar3b_ap, kPar3c_ap, gPar_exc, gPar_exc1, w_slF, kSl1_ap, kSl2_ap, kSl3_ap, w_someB, kSome_ap, w_noB, w_rngI2, kRng2_ap, List.nil_append, List.cons_append,  w_con, w_opE, kOpE_sh, kOpE_ow, w_nilA, w_consA, kCons_ap, kCons2_ap, w_op2, kOp2_ap, kOp2'_ap, gOp2_ap, w_op1, kOp1_ap, gOp1_ap, w_opN, kOpN_ap, gOpN_ap, w_res, w_tst, kTst_ap, w_chn, kChn_ap, kChn2_ap, gChn_ap, hChn_t, hChn_f, kChn3_ap, w_andT, kAndT_t, kAndT_f, w_orT, kOrT_t, kOrT_f, w_notT, kNotT_ap, w_andE, kAndE_t, kAndE_f, w_orE, kOrE_t, kOrE_f, w_notE, kNotE_ap, w_ite3, kIte3_t, kIte3_f, w_lstF, kLst_ap, w_tupF, kTup_ap, gLst_ap, gTup_ap, w_seq, kSeq_nx, kSeq_rt, kSeq_bk, kSeq_ct, w_nxF, w_bkF, w_ctF, w_retF, kRet_ap, w_retNF, w_dropF, kDrop_ap, w_ifF, kIfF_t, kIfF_f, w_setF, kSet_ap, w_asgF, kAsg_ap, gAsg_ap, w_forF, kFor_ap, w_forL, w_forL0, gForL_ap, kForL_nx, kForL_ct, kForL_bk, kForL_rt, w_callF, kCall_ap, gCall_ap, gFR_ok, gFR_exc, w_seqI, kSeqI_l, kSeqI_t, w_enumI, kEnumI_l, kEnumI_t, w_zipI, kZip_ap, kZip2_l, kZip2_t, w_rngI1, kRng_n, w_yesT, w_var, w_varE, w_varR, gVar_sh, gVar_ow, gVarE_sh, gVarE_ow, gVarR_sh, gVarR_ow, get_pl, get_val, tree_sh, tree_ow, slot_tree_sh, slot_tree_ow, w_methF, gMeth0_ap, kMeth_ap, gMeth_ap, hMeth_ap, w_setIF, kSetI_ap, gSetI0_ap, kSetI2_ap, gSetI_ap, hSetI_ap, w_parF, kPar_ap, gPar_ap, gPar_one, nil_app, put_nm, put_tp, put_tpw, put_tpl, putAll_nil, putAll_cons, vals_nil, vals_cons, gets_nil, gets_cons, Option.map_some, Option.bind_some, List.getElem?_cons_succ, List.getElem?_cons_zero, List.set_cons_succ, List.set_cons_zero, List.length_cons, List.length_nil, Nat.zero_add, Nat.reduceAdd, Nat.reduceLT, Nat.reduceLeDiff, Nat.le_refl, and_self, ↓reduceIte, Bool.not_true, Bool.not_false, fnEnd, *])

section
variable {t : T} {nb : Nib}
theorem x_need (h : f_is_word [t] nb = .ok (.sh (.bl false)) nb) : f_need_word [t, .str "word"] nb = .exc exW nb := by
  have s2 : f_need_word [t, .str "word"] nb = fnEnd (b_need_word ⟨[.sh t, .sh (.str "word")], [], nb⟩) := rfl
  have kk : b_need_word ⟨[.sh t, .sh (.str "word")], [], nb⟩ = .exc exW ⟨[.sh t, .sh (.str "word")], [], nb⟩ := by
    unfold b_need_word
    clear s2
    trivial; rfl
  rw [s2, kk]
  rfl
theorem x_turned_word (h : f_is_word [t] nb = .ok (.sh (.bl false)) nb) : f_turned_word [t] nb = .exc exW nb := by
  have e := x_need h
  have s2 : f_turned_word [t] nb = fnEnd (b_turned_word ⟨[.sh t], [], nb⟩) := rfl
  rw [s2]
  unfold b_turned_word
  clear h s2
  trivial
theorem x_round_of (h : f_is_word [t] nb = .ok (.sh (.bl false)) nb) : f_round_of [t] nb = .exc exW nb := by
  have e := x_need h
  have s2 : f_round_of [t] nb = fnEnd (b_round_of ⟨[.sh t], [], nb⟩) := rfl
  rw [s2]
  unfold b_round_of
  clear h s2
  trivial
theorem askF_exc {ask : Nib → FR} {e : Ex} {l gh : List Slot} {nb n : Nib} (h : ask nb = .exc e n) : askF 0 ask ⟨.fu :: l, gh, nb⟩ = .exc e ⟨.fu :: l, gh, n⟩ := by
  show (match ask nb with
    | .ok x n => R.ok x { (⟨.fu :: l, gh, nb⟩ : Sta) with nb := n }
    | .exc e n => .exc e { (⟨.fu :: l, gh, nb⟩ : Sta) with nb := n }
    | .stuck => .stuck) = _
  rw [h]
theorem hear1 {ask : Nib → FR} (h : ask nb = .exc exW nb) : hFn 3 b_law_heard ask nb = .ok (.sh (.str "word")) nb := by
  have e1 := askF_exc (l := [.sh .non, .no]) (gh := []) h
  have c1 : ctch_SizeError 1 = some true := rfl
  have c2 : isT false (.exo 1 [("part", .str "word")]) .non = some (.sh (.bl false)) := rfl
  have c3 : isX own_BadWord btN (.exo 1 [("part", .str "word")]) = some (.sh (.bl true)) := by kernel_rfl
  have c4 : attrT okc_part "part" (.exo 1 [("part", .str "word")]) = some (.sh (.str "word")) := by kernel_rfl
  have s2 : hFn 3 b_law_heard ask nb = fnEnd (b_law_heard ask ⟨[.fu, .no, .no], [], nb⟩) := rfl
  rw [s2]
  unfold b_law_heard
  clear h
  trivial
end
section
variable {t : T} {nb : Nib} {L : List T} {r : Nat} {x5 : Slot}
theorem y2 (h : f_is_word [t] nb = .ok (.sh (.bl false)) nb) (gh : List Slot) : lamF [3] b_law_refused_right_X2 (hFn 3 b_law_heard) ⟨[.sh .nib, .sh (sT r), .sh (.lst L), .sh t, .no, .no], gh, nb⟩ = .ok (.sh (.str "word")) ⟨[.sh .nib, .sh (sT r), .sh (.lst L), .sh t, .no, .no], gh, nb⟩ := by
  refine lamF_run (S1 := ⟨[.sh .nib, .sh (sT r), .sh (.lst L), .sh t, .no, .no], gh, nb⟩) rfl (hear1 ?_)
  have e := x_turned_word h
  show askEnd (b_law_refused_right_X2 ⟨[.sh .nib, .sh (sT r), .sh (.lst L), .sh t, .no, .no], [], nb⟩) = _
  have e2 : b_law_refused_right_X2 ⟨[.sh .nib, .sh (sT r), .sh (.lst L), .sh t, .no, .no], [], nb⟩ = .exc exW ⟨[.sh .nib, .sh (sT r), .sh (.lst L), .sh t, .no, .no], [], nb⟩ := by
    unfold b_law_refused_right_X2
    clear h
    trivial
  rw [e2]; rfl
theorem y3 (h : f_is_word [t] nb = .ok (.sh (.bl false)) nb) (gh : List Slot) : lamF [3] b_law_refused_right_X3 (hFn 3 b_law_heard) ⟨[.sh .nib, .sh (sT r), .sh (.lst L), .sh t, .no, .no], gh, nb⟩ = .ok (.sh (.str "word")) ⟨[.sh .nib, .sh (sT r), .sh (.lst L), .sh t, .no, .no], gh, nb⟩ := by
  refine lamF_run (S1 := ⟨[.sh .nib, .sh (sT r), .sh (.lst L), .sh t, .no, .no], gh, nb⟩) rfl (hear1 ?_)
  have e := x_round_of h
  show askEnd (b_law_refused_right_X3 ⟨[.sh .nib, .sh (sT r), .sh (.lst L), .sh t, .no, .no], [], nb⟩) = _
  have e2 : b_law_refused_right_X3 ⟨[.sh .nib, .sh (sT r), .sh (.lst L), .sh t, .no, .no], [], nb⟩ = .exc exW ⟨[.sh .nib, .sh (sT r), .sh (.lst L), .sh t, .no, .no], [], nb⟩ := by
    unfold b_law_refused_right_X3
    clear h
    trivial
  rw [e2]; rfl
theorem z_C4 (h : f_is_word [t] nb = .ok (.sh (.bl false)) nb) : b_law_refused_right_C4 ⟨[.sh .nib, .sh (sT r), .sh (.lst L), .sh t, .no, .no], [], nb⟩ = .ok (.ow (.lst [])) ⟨[.sh .nib, .sh (sT r), .sh (.lst L), .sh t, .no, .no], [], nb⟩ := by
  have e1 := y3 (L := L) (r := r) h []
  replace e1 : lamF [3] b_law_refused_right_X3 (hFn N_law_heard.length b_law_heard) _ = _ := e1
  refine (compF_map (S1 := ⟨[.sh .nib, .sh (sT r), .sh (.lst L), .sh t, .no, .no], [], nb⟩) [()] (fun _ => T.str "word") (fun _ => if false = true then some (T.int 1) else none) (by
    obtain ⟨f, hf⟩ : ∃ f, f = lamF [3] b_law_refused_right_X3 (hFn N_law_heard.length b_law_heard) := ⟨_, rfl⟩
    rw [← hf] at e1 ⊢
    clear h hf
    trivial; rfl) rfl rfl (by decide) (fun _ hm acc => ?_)).trans rfl
  have e2 : TL.neT (.str "word") (.str "word") = some (.sh (.bl false)) := ne_str _ (by decide +kernel)
  clear hm h e1
  exact compStep_filter (S1 := ⟨[.sh .nib, .sh (sT r), .sh (.lst L), .sh t, .no, .sh (.str "word")], [] ++ [.ow (.lst acc)], nb⟩) rfl (by trivial) (by trivial) rfl
theorem z_L5 (h : f_is_word [t] nb = .ok (.sh (.bl false)) nb) : b_law_refused_right_L5 ⟨[.sh .nib, .sh (sT r), .sh (.lst L), .sh t, .no, .no], [], nb⟩ = .ok .nx ⟨[.sh .nib, .sh (sT r), .sh (.lst L), .sh t, .no, .no], [], nb⟩ := by
  have e1 := y2 (L := L) (r := r) h []
  replace e1 : lamF [3] b_law_refused_right_X2 (hFn N_law_heard.length b_law_heard) _ = _ := e1
  have e2 := z_C4 (L := L) (r := r) h
  have e3 : isT true (.bl false) (.bl false) = some (.sh (.bl false)) := rfl
  have e4 : TL.neT (.str "word") (.str "word") = some (.sh (.bl false)) := ne_str _ (by decide +kernel)
  have e5 := ne_l00
  unfold b_law_refused_right_L5
  obtain ⟨f, hf⟩ : ∃ f, f = lamF [3] b_law_refused_right_X2 (hFn N_law_heard.length b_law_heard) := ⟨_, rfl⟩
  rw [← hf] at e1 ⊢
  clear hf
  trivial
theorem z_loop (nb : Nib) : ∀ (vs : List T) (x3 : Slot), (∀ t ∈ vs, f_is_word [t] nb = .ok (.sh (.bl false)) nb) → ∃ x3', forL (.nm 3) b_law_refused_right_L5 vs ⟨[.sh .nib, .sh (sT r), .sh (.lst L), x3, .no, .no], [], nb⟩ = .ok .nx ⟨[.sh .nib, .sh (sT r), .sh (.lst L), x3', .no, .no], [], nb⟩
  | [], x3, _ => ⟨x3, rfl⟩
  | t :: vs, x3, h => by
    obtain ⟨x3', e⟩ := z_loop nb vs (.sh t) (fun u hu => h u (List.mem_cons_of_mem _ hu))
    refine ⟨x3', ?_⟩
    rw [forL_cons]
    show ((b_law_refused_right_L5 ⟨[.sh .nib, .sh (sT r), .sh (.lst L), .sh t, .no, .no], [], nb⟩).bind _) = _
    rw [z_L5 (h t List.mem_cons_self), R.bind_ok]
    exact e
theorem compF_rel1 {own : List Nat} {it : IF} {tg : Tg} {tt : TF} {te : EF} {S : Sta} {lo0 lo1 gh : List Slot} {nb : Nib} {t0 : T} {ts : List T} (k : Nat) (I : Nat → Nib → Prop) (P : T → Prop) (hi : it S = .ok (t0 :: ts) ⟨lo0, gh, nb⟩) (hf : (own.all fun i => Slot.free lo0[i]?) = true) (hs : (tg.slots.all fun i => own.contains i) = true)
    (hw0 : noes lo0 own = lo0) (hw : noes lo1 own = lo1) (hb : backs lo1 lo0 own = lo1) (hl : ts.length + 1 ≤ sz)
    (h0 : ∃ v nb', I (k + 1) nb' ∧ P v ∧ compStep own tg tt te t0 ⟨lo0, gh ++ [.ow (.lst [])], nb⟩ = .ok (some v) ⟨lo1, gh ++ [.ow (.lst [])], nb'⟩)
    (hstep : ∀ k' nb acc t, k + 1 ≤ k' → k' < k + 1 + ts.length → I k' nb → t ∈ ts → ∃ v nb', I (k' + 1) nb' ∧ P v ∧ compStep own tg tt te t ⟨lo1, gh ++ [.ow (.lst acc)], nb⟩ = .ok (some v) ⟨lo1, gh ++ [.ow (.lst acc)], nb'⟩) :
    ∃ vs nb', I (k + 1 + ts.length) nb' ∧ vs.length = ts.length + 1 ∧ (∀ v ∈ vs, P v) ∧ compF own it tg tt te S = .ok (.ow (.lst vs)) ⟨lo1, gh, nb'⟩ := by
  obtain ⟨v, nb1, g1, g2, g3⟩ := h0
  obtain ⟨vs, nb', h1, h2, h3, h4⟩ := compL_rel (gh := gh) hw ts [v] (k + 1) nb1 (by rw [List.length_singleton]; omega) hstep g1
  refine ⟨v :: vs, nb', h1, by rw [List.length_cons, h2], fun x hx => ?_, ?_⟩
  · rcases List.mem_cons.mp hx with rfl | hx
    · exact g2
    · exact h3 x hx
  unfold compF
  rw [hi, R.bind_ok]
  have hc : ((own.all fun i => Slot.free lo0[i]?) && (tg.slots.all fun i => own.contains i)) = true := by rw [hf, hs]; rfl
  rw [if_pos hc]
  have : (Sta.mk lo0 gh nb).wipe own = Sta.mk lo0 gh nb := by show Sta.mk (noes lo0 own) gh nb = _; rw [hw0]
  rw [this]
  have e1 : compL own tg tt te (t0 :: ts) ⟨lo0, gh ++ [.ow (.lst [])], nb⟩ = .ok () ⟨lo1, gh ++ [.ow (.lst (v :: vs))], nb'⟩ := by
    have := compL_step (own := own) (tg := tg) (tt := tt) (te := te) (t := t0) (ts := ts) (S := ⟨lo0, gh, nb⟩) (S' := ⟨lo1, gh, nb1⟩) (acc := []) (v := some v) g3 (by show Sta.mk (noes lo1 own) gh nb1 = _; rw [hw]) (by decide)
    refine Eq.trans this ?_
    exact h4
  show (match compL own tg tt te (t0 :: ts) ⟨lo0, gh ++ [.ow (.lst [])], nb⟩ with
    | .ok () S2 => match S2.popG with
      | some (.ow (.lst acc), S3) => R.ok (Slot.ow (.lst acc)) (S3.back ⟨lo0, gh, nb⟩ own)
      | _ => .stuck
    | _ => .stuck) = _
  rw [e1]
  dsimp only
  rw [popG_snoc]
  show R.ok (Slot.ow (T.lst (v :: vs))) (Sta.mk (backs lo1 lo0 own) gh nb') = _
  rw [hb]
theorem z_C1 {k : Nat} (h : NbOk k nb) (hk : k ≤ 90000) (h0 : 0 < L.length) (h1 : L.length ≤ 1000) : ∃ vs nb', NbOk (k + 5) nb' ∧ (∀ t ∈ vs, t ∈ L) ∧ b_law_refused_right_C1 ⟨[.sh .nib, .sh (sT r), .ow (.lst L), .no, .no, .no], [], nb⟩ = .ok (.ow (.lst vs)) ⟨[.sh .nib, .sh (sT r), .sh (.lst L), .no, .no, .no], [], nb'⟩ := by
  have e0 : ∀ S, kRng (.val (.int 5)) S = .ok (.int ((0 : Nat) : Int) :: tn [1, 2, 3, 4]) S := fun S => kRng_n S 5 (by omega)
  obtain ⟨v0, nb0, hv0, k0, e1⟩ := r_pick h (by omega) L h0 h1
  obtain ⟨vs, nb', a1, a2, a3, a4⟩ := compF_rel1 (own := [4]) (it := rngI1 (opE (con (.int 5)))) (tg := .nm 4) (tt := yesT) (te := callF 2 f_law_pick (consA (opE (varE 0)) (consA (opE (varE 2)) (nilA)))) (S := ⟨[.sh .nib, .sh (sT r), .ow (.lst L), .no, .no, .no], [], nb⟩)
    (lo0 := [.sh .nib, .sh (sT r), .ow (.lst L), .no, .no, .no]) (lo1 := [.sh .nib, .sh (sT r), .sh (.lst L), .no, .no, .no]) (gh := []) (nb := nb) (t0 := .int ((0 : Nat) : Int)) (ts := tn [1, 2, 3, 4]) k NbOk (fun v => v ∈ L) (by clear h hk h0 h1 hv0 k0 e1; trivial) rfl rfl rfl rfl rfl (by decide) ⟨v0, nb0, k0, hv0, by
      clear e0 h hk h0 h1 hv0 k0
      exact compStep_map (S1 := ⟨[.sh .nib, .sh (sT r), .ow (.lst L), .no, .sh (.int ((0 : Nat) : Int)), .no], [] ++ [.ow (.lst [])], nb⟩) rfl (by trivial; rfl) rfl rfl⟩ (fun k' nb acc t hk1 hk2 hI ht => by
      rw [tn_length] at hk2
      have hk2 : k' < k + 1 + 4 := hk2
      obtain ⟨v, nb1, hv, k1, e2⟩ := r_pick hI (by omega) L h0 h1
      obtain ⟨n, _, rfl⟩ := List.mem_map.mp ht
      refine ⟨v, nb1, k1, hv, ?_⟩
      clear e0 h hk hk1 hk2 hI ht hv k1 h0 h1 e1 hv0 k0
      exact compStep_map (S1 := ⟨[.sh .nib, .sh (sT r), .sh (.lst L), .no, .sh (.int (n : Int)), .no], [] ++ [.ow (.lst acc)], nb⟩) rfl (by trivial; rfl) rfl rfl)
  exact ⟨vs, nb', a1, a3, a4⟩
end
end K35

end
section
set_option Elab.async false
set_option linter.all false
set_option maxRecDepth 100000
set_option autoImplicit false
set_option maxHeartbeats 400000
open PySem PySem.Spec PyProof.Rows L2
open TL hiding eqT neT
namespace K35
local macro_rules | `(tactic| trivial) => `(tactic| simp -implicitDefEqProofs only [w_callBF, kCallB_ap, gCallB_ap, gFRB_ok, lf_int, lf_tn, lf_tr, lf_bl, w_setDF, kSetD_ap, gSetD0_ap, kSetD2_ap, gSetD_ap, w_okB, w_excB, w_dicF, w_starA, kStar_l, kStar_t, kStar2_ap, vals_star, w_callKF, kCallK_ap, kCallK2_ap, gCallK_ap, prm_nil, w_tryF, kTry_ok, kTry_exc, gTry_t, gTry_f, kTry2_ap, w_raiseF, kRaise_ap, gRaise_ap, w_par3F, kPar3a_ap, kPar3b_ap, kPar3c_ap, gPar_exc, gPar_exc1, w_slF, kSl1_ap, kSl2_ap, kSl3_ap, w_someB, kSome_ap, w_noB, w_rngI2, kRng2_ap, List.nil_append, List.cons_append,  w_con, w_opE, kOpE_sh, kOpE_ow, w_nilA, w_consA, kCons_ap, kCons2_ap, w_op2, kOp2_ap, kOp2'_ap, gOp2_ap, w_op1, kOp1_ap, gOp1_ap, w_opN, kOpN_ap, gOpN_ap, w_res, w_tst, kTst_ap, w_chn, kChn_ap, kChn2_ap, gChn_ap, hChn_t, hChn_f, kChn3_ap, w_andT, kAndT_t, kAndT_f, w_orT, kOrT_t, kOrT_f, w_notT, kNotT_ap, w_andE, kAndE_t, kAndE_f, w_orE, kOrE_t, kOrE_f, w_notE, kNotE_ap, w_ite3, kIte3_t, kIte3_f, w_lstF, kLst_ap, w_tupF, kTup_ap, gLst_ap, gTup_ap, w_seq, kSeq_nx, kSeq_rt, kSeq_bk, kSeq_ct, w_nxF, w_bkF, w_ctF, w_retF, kRet_ap, w_retNF, w_dropF, kDrop_ap, w_ifF, kIfF_t, kIfF_f, w_setF, kSet_ap, w_asgF, kAsg_ap, gAsg_ap, w_forF, kFor_ap, w_forL, w_forL0, gForL_ap, kForL_nx, kForL_ct, kForL_bk, kForL_rt, w_callF, kCall_ap, gCall_ap, gFR_ok, gFR_exc, w_seqI, kSeqI_l, kSeqI_t, w_enumI, kEnumI_l, kEnumI_t, w_zipI, kZip_ap, kZip2_l, kZip2_t, w_rngI1, kRng_n, w_yesT, w_var, w_varE, w_varR, gVar_sh, gVar_ow, gVarE_sh, gVarE_ow, gVarR_sh, gVarR_ow, get_pl, get_val, tree_sh, tree_ow, slot_tree_sh, slot_tree_ow, w_methF, gMeth0_ap, kMeth_ap, gMeth_ap, hMeth_ap, w_setIF, kSetI_ap, gSetI0_ap, kSetI2_ap, gSetI_ap, hSetI_ap, w_parF, kPar_ap, gPar_ap, gPar_one, nil_app, put_nm, put_tp, put_tpw, put_tpl, putAll_nil, putAll_cons, vals_nil, vals_cons, gets_nil, gets_cons, Option.map_some, Option.bind_some, List.getElem?_cons_succ, List.getElem?_cons_zero, List.set_cons_succ, List.set_cons_zero, List.length_cons, List.length_nil, Nat.zero_add, Nat.reduceAdd, Nat.reduceLT, Nat.reduceLeDiff, Nat.le_refl, and_self, ↓reduceIte, Bool.not_true, Bool.not_false, fnEnd, *])

theorem r_refused {k : Nat} {nb : Nib} (h : NbOk k nb) (hk : k ≤ 50000) : ∃ nb', NbOk (k + 10) nb' ∧ f_law_refused_right [.nib] nb = .ok (.sh (.bl true)) nb' := by
  obtain ⟨A, a1, hA0, hA1, hA2⟩ : ∃ A : List Nat, listSN [.str "abcdefghijklmnopqrstuvwxyz"] = some (.ow (.lst (tw A))) ∧ A ≠ [] ∧ A.length ≤ 1000 ∧ ∀ r ∈ A, r < 52 ∧ r % 2 = 0 := ⟨abc, list_abc, by decide, by decide, abc_ok⟩
  obtain ⟨r, nb1, hr, k1, e1⟩ := r_pickw h (by omega) A hA0 hA1
  obtain ⟨hr1, hr2⟩ := hA2 r hr
  have b0 : (setF 1 (callF 2 f_law_pick (consA (opE (varE 0)) (consA (opE (opN listSN (consA (opE (con (.str "abcdefghijklmnopqrstuvwxyz"))) (nilA)))) (nilA))))) ⟨[.sh .nib, .no, .no, .no, .no, .no], [], nb⟩ = .ok .nx ⟨[.sh .nib, .sh (sT r), .no, .no, .no, .no], [], nb1⟩ := by
    clear h hk hA0 hA1 hA2 hr k1 hr1 hr2
    trivial
  have b1 := q1 hr1 hr2 nb1
  have b2 := q2 hr1 hr2 nb1
  have bad := fun nb => x_bad hr1 hr2 nb
  obtain ⟨L, hL⟩ : ∃ L, L = oddA r ++ oddB r := ⟨_, rfl⟩
  have hLl : L.length = 26 := by rw [hL]; rfl
  rw [← hL] at b2 bad
  obtain ⟨vs, nb2, k2, hv, e2⟩ := z_C1 (r := r) (L := L) k1 (by omega) (by omega) (by omega)
  obtain ⟨x3, e3⟩ := z_loop (L := L) (r := r) nb2 vs .no (fun t ht => bad nb2 t (hv t ht))
  have b3 : (forF (seqI (opE (b_law_refused_right_C1))) (.nm 3) (b_law_refused_right_L5)) ⟨[.sh .nib, .sh (sT r), .ow (.lst L), .no, .no, .no], [], nb1⟩ = .ok .nx ⟨[.sh .nib, .sh (sT r), .sh (.lst L), x3, .no, .no], [], nb2⟩ := by
    clear h hk hA0 hA1 hA2 hr k1 hr1 hr2 b0 b1 b2 bad hL hLl k2 hv e1 a1
    trivial
  refine ⟨nb2, k2.mono (by omega), ?_⟩
  have b4 : (retF (con (.bl true))) ⟨[.sh .nib, .sh (sT r), .sh (.lst L), x3, .no, .no], [], nb2⟩ = .ok (.rt (.sh (.bl true))) ⟨[.sh .nib, .sh (sT r), .sh (.lst L), x3, .no, .no], [], nb2⟩ := by
    clear h hk hA0 hA1 hA2 hr k1 hr1 hr2 b0 b1 b2 bad hL hLl k2 hv e1 a1 e2 e3 b3
    trivial
  have s2 : f_law_refused_right [.nib] nb = fnEnd (b_law_refused_right ⟨[.sh .nib, .no, .no, .no, .no, .no], [], nb⟩) := rfl
  have kk := seq_nx b0 (seq_nx b1 (seq_nx b2 (seq_nx b3 b4)))
  rw [s2, show b_law_refused_right ⟨[.sh .nib, .no, .no, .no, .no, .no], [], nb⟩ = _ from kk]
  rfl
theorem r_lap {k : Nat} {nb : Nib} (h : NbOk k nb) (hk : k ≤ 40000) (x2 : Slot) : ∃ nb', NbOk (k + 30) nb' ∧ b_law_L1 ⟨[.no, .sh .nib, x2, .no, .no], [], nb⟩ = .ok .nx ⟨[.no, .sh .nib, x2, .no, .no], [], nb'⟩ := by
  obtain ⟨v, x, nb1, hx, hv, hl, k1, e1⟩ := r_drawn h hk
  have e2 := r_word_right hv (by omega) nb1
  refine ⟨nb1, k1, ?_⟩
  clear h hk hv hl k1
  unfold b_law_L1
  rcases hx with e | e
  · subst e
    trivial
  · subst e
    trivial
theorem laps : ∀ (l : List Nat) (k : Nat) (nb : Nib) (x2 : Slot), NbOk k nb → k + 30 * l.length ≤ 40000 → ∃ nb' x2', NbOk (k + 30 * l.length) nb' ∧ forL (.nm 2) b_law_L1 (tn l) ⟨[.no, .sh .nib, x2, .no, .no], [], nb⟩ = .ok .nx ⟨[.no, .sh .nib, x2', .no, .no], [], nb'⟩
  | [], k, nb, x2, h, _ => ⟨nb, x2, h, rfl⟩
  | i :: l, k, nb, x2, h, hk => by
    rw [List.length_cons] at hk
    obtain ⟨nb1, k1, e1⟩ := r_lap h (by omega) (.sh (.int (i : Int)))
    obtain ⟨nb', x2', k2, e2⟩ := laps l (k + 30) nb1 (.sh (.int (i : Int))) k1 (by omega)
    refine ⟨nb', x2', k2.mono (by rw [List.length_cons]; omega), ?_⟩
    rw [tn_cons, forL_cons]
    show ((b_law_L1 ⟨[.no, .sh .nib, .sh (.int (i : Int)), .no, .no], [], nb⟩).bind _) = _
    rw [e1, R.bind_ok]
    exact e2
theorem ne_sT (a b : Nat) : ∃ z : Bool, TL.neT (sT a) (sT b) = some (.sh (.bl z)) := by
  unfold TL.neT
  rw [if_pos ⟨sS_ok a, sS_ok b⟩]
  exact ⟨_, rfl⟩
theorem fmF (F : List (List Nat)) : (F.filterMap fun w => if false = true then some (T.lst (tw w)) else none) = [] := by
  induction F with
  | nil => rfl
  | cons w F ih => exact ih
theorem l_C2 {k : Nat} {nb : Nib} {u : List Nat} {x2 : Slot} (h : NbOk k nb) (hk : k ≤ 40000) (hu : ∀ r ∈ u, r < 52 ∧ r % 2 = 0) (hl : u.length = 2) : ∃ nb' x3, NbOk (k + 1) nb' ∧ b_law_C2 ⟨[.no, .sh .nib, x2, .ow (.lst (tw u)), .no], [], nb⟩ = .ok (.ow (.lst [])) ⟨[.no, .sh .nib, x2, x3, .no], [], nb'⟩ := by
  obtain ⟨m, nb1, hm, k1, e1⟩ := r_pickn h (by omega) [2, 1, 3, 2] (by decide) (by decide)
  have hm3 : m ≤ 3 := (show ∀ x ∈ [2, 1, 3, 2], x ≤ 3 by decide) m hm
  replace e1 : f_law_pick [.nib, .lst [.int 2, .int 1, .int 3, .int 2]] nb = _ := e1
  cases u with
  | nil => cases hl
  | cons a u =>
    cases u with
    | nil => cases hl
    | cons b u =>
      cases u with
      | cons _ _ => simp at hl
      | nil =>
        obtain ⟨z, e2⟩ := ne_sT a b
        have e3 : ixT (.lst (tw [a, b])) (.int 0) = some (.sh (sT a)) := ix_lst (i := 0) (ts := tw [a, b]) (t := sT a) rfl
        have e4 : ixT (.lst (tw [a, b])) (.int 1) = some (.sh (sT b)) := ix_lst (i := 1) (ts := tw [a, b]) (t := sT b) rfl
        have step : ∀ (x3 : Slot) (F : List (List Nat)) (nb2 : Nib), Good 3 F → ∀ w ∈ F, ∀ acc : List T, compStep [4] (.nm 4) (notT (tst (callF 1 f_law_word_right (consA (opE (varE 4)) (nilA))))) (varE 4) (.lst (tw w)) ⟨[.no, .sh .nib, x2, x3, .no], [] ++ [.ow (.lst acc)], nb2⟩ = .ok (if false = true then some (T.lst (tw w)) else none) ⟨[.no, .sh .nib, x2, x3, .no], [] ++ [.ow (.lst acc)], nb2⟩ := fun x3 F nb2 hF w hw acc => by
          have e5 := r_word_right (hF w hw).1 (by have := (hF w hw).2; omega) nb2
          clear hF hw e1 e2 e3 e4 h hk hu hl hm hm3 k1
          exact compStep_filter (S1 := ⟨[.no, .sh .nib, x2, x3, .sh (.lst (tw w))], [] ++ [.ow (.lst acc)], nb2⟩) rfl (by trivial) (by trivial) rfl
        cases z with
        | true =>
          obtain ⟨F, y, hF, hFl, hy, e6⟩ := r_all (u := [a, b]) (m := m) hu (Nat.le_refl 2) hm3 nb1
          refine ⟨nb1, .sh (.lst (tw [a, b])), k1, ?_⟩
          refine (compF_map (S1 := ⟨[.no, .sh .nib, x2, .sh (.lst (tw [a, b])), .no], [], nb1⟩) F (fun w => T.lst (tw w)) (fun w => if false = true then some (T.lst (tw w)) else none) ?_ rfl rfl (len_sz (by omega)) (fun w hw acc => step _ F nb1 hF w hw acc)).trans (by rw [fmF])
          obtain ⟨v, hv⟩ : ∃ v, v = tw [a, b] := ⟨_, rfl⟩
          rw [← hv] at e3 e4 e6 ⊢
          clear step h hk hu hl hm hm3 k1 hF hFl hv
          rcases hy with e | e
          · subst e
            trivial; rfl
          · subst e
            trivial; rfl
        | false =>
          obtain ⟨F, y, hF, hFl, hy, e6⟩ := r_all (u := [a]) (m := m) (fun r hr => hu r (by rw [List.mem_singleton.mp hr]; exact List.mem_cons_self)) (show 1 ≤ 2 by decide) hm3 nb1
          have e7 : slT' (.lst (tw [a, b])) none (some 1) = some (.ow (.lst (tw [a]))) := sl_lt [a, b] (k := 1) (show 1 ≤ 2 by decide)
          refine ⟨nb1, .ow (.lst (tw [a, b])), k1, ?_⟩
          refine (compF_map (S1 := ⟨[.no, .sh .nib, x2, .ow (.lst (tw [a, b])), .no], [], nb1⟩) F (fun w => T.lst (tw w)) (fun w => if false = true then some (T.lst (tw w)) else none) ?_ rfl rfl (len_sz (by omega)) (fun w hw acc => step _ F nb1 hF w hw acc)).trans (by rw [fmF])
          obtain ⟨v, hv⟩ : ∃ v, v = tw [a, b] := ⟨_, rfl⟩
          obtain ⟨v2, hv2⟩ : ∃ v2, v2 = tw [a] := ⟨_, rfl⟩
          rw [← hv] at e3 e4 e7 ⊢
          rw [← hv2] at e6 e7
          clear step h hk hu hl hm hm3 k1 hF hFl hv hv2
          rcases hy with e | e
          · subst e
            trivial; rfl
          · subst e
            trivial; rfl
theorem law_holds0 : ∀ ns : List Int, ns.length ≤ 63 → (∀ z ∈ ns, Builtin.Int.intBits z ≤ 1048576) → ∃ S', b_law ⟨.no :: .sh .nib :: List.replicate 3 .no, [], ⟨ns.take 60, 0, 0⟩⟩ = .ok (.rt (.sh (.bl true))) S' := by
  intro ns hl hb
  have h0 : NbOk 0 ⟨ns.take 60, 0, 0⟩ := ⟨Int.le_refl 0, Int.le_refl 0, Int.le_refl 0, fun z hz => hb z (List.mem_of_mem_take hz)⟩
  obtain ⟨nb1, x2, k1, e1⟩ := laps (List.range 6) 0 _ .no h0 (by decide)
  obtain ⟨u, nb2, k2, hu1, hu2, e2⟩ := r_letters (m := 2) k1 (by decide) (by omega)
  obtain ⟨nb3, x3, k3, e3⟩ := l_C2 (x2 := x2) k2 (by decide) hu2 hu1
  have e4 : f_law_word_right [.lst []] nb3 = .ok (.sh (.bl true)) nb3 := r_word_right (w := []) (fun r hr => nomatch hr) (by decide) nb3
  obtain ⟨nb4, k4, e5⟩ := r_refused k3 (by decide)
  replace e2 : f_law_letters [.nib, .int 2] nb1 = _ := e2
  have e6 : ∀ S, kRng (.val (.int 6)) S = .ok (tn (List.range 6)) S := fun S => kRng_n S 6 (by omega)
  have e7 := ne_l00
  have hz : ∀ w : List Nat, (∀ x ∈ w, x < 52) → w.length ≤ 10 → ∀ b, f_round_of [sq b (tw w)] nb4 = .ok (.sh (.tup (tw (lst w)))) nb4 := fun w h1 h2 b => r_round b h1 (by omega) nb4
  have e8 : f_round_of [.lst [.str "b", .str "a'", .str "a"]] nb4 = .ok (.sh (.tup (tw [0, 2, 1]))) nb4 := by
    have := hz [2, 1, 0] (by decide) (by decide) false
    rw [show lst [2, 1, 0] = [0, 2, 1] by decide +kernel] at this
    exact this
  have e9 : f_round_of [.tup [.str "b'", .str "a'"]] nb4 = .ok (.sh (.tup (tw [0, 2]))) nb4 := by
    have := hz [3, 1] (by decide) (by decide) true
    rw [show lst [3, 1] = [0, 2] by decide +kernel] at this
    exact this
  have e10 : TL.eqT (.tup (tw [0, 2, 1])) (.tup [.str "a", .str "b", .str "a'"]) = some (.sh (.bl true)) := eq_tw [0, 2, 1]
  have e11 : TL.eqT (.tup (tw [0, 2])) (.tup [.str "a", .str "b"]) = some (.sh (.bl true)) := eq_tw [0, 2]
  have b0 : (forF (rngI1 (opE (con (.int 6)))) (.nm 2) (b_law_L1)) ⟨[.no, .sh .nib, .no, .no, .no], [], ⟨ns.take 60, 0, 0⟩⟩ = .ok .nx ⟨[.no, .sh .nib, x2, .no, .no], [], nb1⟩ := by
    clear hl hb h0 k1 k2 hu1 hu2 e2 k3 e3 e4 k4 e5 e7 hz e8 e9 e10 e11
    trivial
  have b1 : (setF 3 (callF 2 f_law_letters (consA (opE (varE 1)) (consA (opE (con (.int 2))) (nilA))))) ⟨[.no, .sh .nib, x2, .no, .no], [], nb1⟩ = .ok .nx ⟨[.no, .sh .nib, x2, .ow (.lst (tw u)), .no], [], nb2⟩ := by
    clear hl hb h0 k1 k2 hu1 hu2 e1 k3 e3 e4 k4 e5 e6 e7 hz e8 e9 e10 e11 b0
    trivial
  have b2 : (ifF (tst (op2 TL.neT (opE (b_law_C2)) (opE (lstF (nilA))))) (retF (con (.bl false))) (nxF)) ⟨[.no, .sh .nib, x2, .ow (.lst (tw u)), .no], [], nb2⟩ = .ok .nx ⟨[.no, .sh .nib, x2, x3, .no], [], nb3⟩ := by
    clear hl hb h0 k1 k2 hu1 hu2 e1 e2 k3 e4 k4 e5 e6 hz e8 e9 e10 e11 b0 b1
    trivial
  have b3 : (ifF (orT (notT (tst (callF 1 f_law_word_right (consA (opE (lstF (nilA))) (nilA))))) (notT (tst (callF 1 f_law_refused_right (consA (opE (varE 1)) (nilA)))))) (retF (con (.bl false))) (nxF)) ⟨[.no, .sh .nib, x2, x3, .no], [], nb3⟩ = .ok .nx ⟨[.no, .sh .nib, x2, x3, .no], [], nb4⟩ := by
    clear hl hb h0 k1 k2 hu1 hu2 e1 e2 k3 e3 k4 e6 e7 hz e8 e9 e10 e11 b0 b1 b2
    trivial
  have b4 : (retF (andE (op2 TL.eqT (opE (callF 1 f_round_of (consA (opE (lstF (consA (opE (con (.str "b"))) (consA (opE (con (.str "a'"))) (consA (opE (con (.str "a"))) (nilA)))))) (nilA)))) (opE (tupF (consA (opE (con (.str "a"))) (consA (opE (con (.str "b"))) (consA (opE (con (.str "a'"))) (nilA))))))) (op2 TL.eqT (opE (callF 1 f_round_of (consA (opE (tupF (consA (opE (con (.str "b'"))) (consA (opE (con (.str "a'"))) (nilA))))) (nilA)))) (opE (tupF (consA (opE (con (.str "a"))) (consA (opE (con (.str "b"))) (nilA)))))))) ⟨[.no, .sh .nib, x2, x3, .no], [], nb4⟩ = .ok (.rt (.sh (.bl true))) ⟨[.no, .sh .nib, x2, x3, .no], [], nb4⟩ := by
    obtain ⟨p, hp⟩ : ∃ p, p = tw [0, 2, 1] := ⟨_, rfl⟩
    obtain ⟨q, hq⟩ : ∃ q, q = tw [0, 2] := ⟨_, rfl⟩
    rw [← hp] at e8 e10
    rw [← hq] at e9 e11
    clear hl hb h0 k1 k2 hu1 hu2 e1 e2 k3 e3 e4 k4 e5 e6 e7 hz b0 b1 b2 b3 hp hq
    trivial
  exact ⟨_, seq_nx b0 (seq_nx b1 (seq_nx b2 (seq_nx b3 b4)))⟩
end K35

end
section
theorem K35.law_holds : K35.LawHolds := K35.law_holds0
end
open PySem PySem.W PyProof.Rows
set_option maxHeartbeats 0 in
theorem PySem.Challenge.cw_fromsize_k35_words_turned_and_gone_round_holds : PySem.Challenge.rw_fromsize_k35_words_turned_and_gone_round.Holds := by
  w_on; o_law; k_head; (case hw => w_witness2)
  k_fill
  refine TL.walk_ofTabs (l := PySem.Challenge.rw_fromsize_k35_words_turned_and_gone_round) (n := 63) (k := 9) (x := "_law_script") (CX := fun w => L2.CX PySem.Challenge.rw_fromsize_k35_words_turned_and_gone_round.prog w) rfl (by decide) rfl ⟨rfl, by decide, by decide⟩ (fun w h Y => PySem.W.km_in_of Y) ?F (fun _ _ _ _ _ h => by obtain ⟨_, _, _, _, _, _, _, _, _, _, _, _, z⟩ := h; exact z)
  case F =>
    intro w mg fa h Y KX G hmg own
    refine' K35.law_fact K35.law_holds (K35.tab_mk KX G ?a0 ?l0 ?c0 ?k0 ?a1 ?l1 ?c1 ?k1 ?a2 ?l2 ?c2 ?k2 ?a3 ?l3 ?c3 ?k3 ?a4 ?l4 ?c4 ?k4 ?a5 ?l5 ?c5 ?k5 ?a6 ?l6 ?c6 ?k6 ?a7 ?l7 ?c7 ?k7 ?a8 ?l8 ?c8 ?k8 ?a9 ?l9 ?c9 ?k9 ?a10 ?l10 ?c10 ?k10 ?a11 ?l11 ?c11 ?k11 ?a12 ?l12 ?c12 ?k12 ?a13 ?l13 ?c13 ?k13 ?a14 ?l14 ?c14 ?k14 ?a15 ?l15 ?c15 ?k15 ?a16 ?l16 ?c16 ?k16 ?a17 ?l17 ?c17 ?k17 ?a18 ?l18 ?c18 ?k18 ?a19 ?l19 ?c19 ?k19 ?a20 ?l20 ?c20 ?k20 ?a21 ?l21 ?c21 ?k21 ?lc21 ?v21 ?a22 ?l22 ?c22 ?k22 ?a23 ?l23 ?c23 ?k23 ?xa_SizeError ?eC_SizeError ?tC_SizeError ?hC_SizeError ?sC_SizeError ?xa_BadWord ?eC_BadWord ?tC_BadWord ?hC_BadWord ?sC_BadWord ?xl_BadWord ?sa_BadWord ?ga_BadWord ?gg_BadWord ?cl_BadWord ?kC_BadWord ?mo_BadWord ?in_BadWord ?it_BadWord ?il_BadWord ?ik_BadWord ?ic_BadWord ?no_BadWord_part ?sN_BadWord ?s_BadWord_SizeError ?spG ?tkG ?z_abs ?z_all ?z_int ?z_isinstance ?z_len ?z_list ?z_min ?z_range ?z_str ?z_tuple ?g_LETTERS ?g_STROKE) hmg ?bb own ?hR_law_refused_right ?hN_law_refused_right
    (case bb => exact fun s v => .of_eq rfl)
    (case a0 => k_is); (case l0 => k_is); (case c0 => k_is); (case k0 => k_is); (case a1 => k_is); (case l1 => k_is); (case c1 => k_is); (case k1 => k_is); (case a2 => k_is); (case l2 => k_is); (case c2 => k_is); (case k2 => k_is); (case a3 => k_is); (case l3 => k_is); (case c3 => k_is); (case k3 => k_is); (case a4 => k_is); (case l4 => k_is); (case c4 => k_is); (case k4 => k_is); (case a5 => k_is); (case l5 => k_is); (case c5 => k_is); (case k5 => k_is); (case a6 => k_is); (case l6 => k_is); (case c6 => k_is); (case k6 => k_is); (case a7 => k_is); (case l7 => k_is); (case c7 => k_is); (case k7 => k_is); (case a8 => k_is); (case l8 => k_is); (case c8 => k_is); (case k8 => k_is); (case a9 => k_is); (case l9 => k_is); (case c9 => k_is); (case k9 => k_is); (case a10 => k_is); (case l10 => k_is); (case c10 => k_is); (case k10 => k_is); (case a11 => k_is); (case l11 => k_is); (case c11 => k_is); (case k11 => k_is); (case a12 => k_is); (case l12 => k_is); (case c12 => k_is); (case k12 => k_is); (case a13 => k_is); (case l13 => k_is); (case c13 => k_is); (case k13 => k_is); (case a14 => k_is); (case l14 => k_is); (case c14 => k_is); (case k14 => k_is); (case a15 => k_is); (case l15 => k_is); (case c15 => k_is); (case k15 => k_is); (case a16 => k_is); (case l16 => k_is); (case c16 => k_is); (case k16 => k_is); (case a17 => k_is); (case l17 => k_is); (case c17 => k_is); (case k17 => k_is); (case a18 => k_is); (case l18 => k_is); (case c18 => k_is); (case k18 => k_is); (case a19 => k_is); (case l19 => k_is); (case c19 => k_is); (case k19 => k_is); (case a20 => k_is); (case l20 => k_is); (case c20 => k_is); (case k20 => k_is); (case a21 => k_is); (case l21 => k_is); (case c21 => k_is); (case k21 => k_is); (case lc21 => k_is); (case a22 => k_is); (case l22 => k_is); (case c22 => k_is); (case k22 => k_is); (case a23 => k_is); (case l23 => k_is); (case c23 => k_is); (case k23 => k_is); (case xa_SizeError => k_is); (case eC_SizeError => k_is); (case tC_SizeError => k_is); (case hC_SizeError => k_is); (case sC_SizeError => k_is); (case xa_BadWord => k_is); (case eC_BadWord => k_is); (case tC_BadWord => k_is); (case hC_BadWord => k_is); (case sC_BadWord => k_is); (case xl_BadWord => k_is); (case sa_BadWord => k_is); (case ga_BadWord => k_is); (case gg_BadWord => k_is); (case cl_BadWord => k_is); (case kC_BadWord => k_is); (case mo_BadWord => k_is); (case in_BadWord => k_is); (case it_BadWord => k_is); (case il_BadWord => k_is); (case ik_BadWord => k_is); (case ic_BadWord => k_is); (case no_BadWord_part => k_is); (case sN_BadWord => k_is); (case s_BadWord_SizeError => k_is); (case spG => k_is); (case tkG => k_is); (case z_abs => k_is); (case z_all => k_is); (case z_int => k_is); (case z_isinstance => k_is); (case z_len => k_is); (case z_list => k_is); (case z_min => k_is); (case z_range => k_is); (case z_str => k_is); (case z_tuple => k_is); (case g_LETTERS => k_is); (case g_STROKE => k_is); (case v21 => rfl)
    (case hN_law_refused_right => first | rfl | k_is)
    (case hR_law_refused_right => decide +kernel)

import PyProof.Rows.All
import Wide.All
import OpenK.AllK
import Wide.FinOn
import PySem.Challenge.RW_fromsize_k08_whole_kept_ones_are_the_ear
import HandS.Conv
import HandS.Deep
import HandS.EndBits
import HandS.ForExc
import HandS.ForMost
import HandS.IsInst
import HandS.Iter
import HandS.NoneIn
import HandS.RaiseMore
import HandS.Strs
import HandS.Style
import HandS.Text
import HandS.TupAny
import HandS.TupLe
import HandS.Wide
import HandS.WordsExc
import HandS.Zip
import KE.DatumOrd
import KE.GoesEnum
import KE.GoesMore
import KE.OsSort
import PyProof.Rows.SortShellAny
section
set_option Elab.async false
set_option linter.all false
set_option maxRecDepth 100000
set_option autoImplicit false
/-! TLT: tuples whose object is known to have no dict -/
open PySem PySem.Spec PyProof.Rows L2
namespace TL
def SqD (K : PySem.W.Frag) (H : Hp) (a : Addr) (xs : List V) : Prop :=
  (∃ o, H a = some (.frz o (.tup xs)) ∧ o.dict = none) ∨ ∃ (o : Obj) (its : Array Value) (n : Nat), K.lookup a = some o ∧ o.cls = .type "tuple" ∧ o.dict = none ∧ o.data = .seq its n ∧ its.size ≤ sizeLine ∧ Vals xs its.toList
theorem SqD.sq {K : PySem.W.Frag} {H : Hp} {a : Addr} {xs : List V} (h : SqD K H a xs) : SqT K H a xs := by
  rcases h with ⟨o, h, _⟩ | ⟨o, its, n, h1, h2, _, h3, h4, h5⟩
  · exact .inl (.inr ⟨o, h⟩)
  · exact .inr ⟨o, its, n, h1, h2, h3, h4, h5⟩
theorem sameSqD {K : PySem.W.Frag} {F F' : Hp} {a : Addr} {xs : List V} (e : Same F F') (h : SqD K F a xs) : SqD K F' a xs := by
  rcases h with ⟨o, h, d⟩ | h
  · exact .inl ⟨o, e _ _ h, d⟩
  · exact .inr h
def tupObj (its : List Value) : Obj := { cls := .type "tuple", data := .seq its.toArray }
section
variable {X : Cx} {pins : List (Addr × Obj)} {σ : L2.St} {H : Hp} {s : Shared}
theorem SqD.obj {a : Addr} {xs : List V} (I : Inv X pins σ H s) (h : SqD X.K H a xs) : ∃ ob, s.heap.get? a = some ob ∧ ob.cls = .type "tuple" ∧ ob.dict = none := by
  rcases h with ⟨o, h, d⟩ | ⟨o, its, n, h1, h2, h3, _⟩
  · obtain ⟨e, z, its, r, ob, e2, c, _⟩ := I.hok a _ h
    rw [e] at e2
    cases e2
    exact ⟨o, e, c, d⟩
  · exact ⟨o, I.kIn a o h1, h2, h3⟩
theorem frz_tup {P : Program} {w : World} {H : Hp} {h : Heap} {xs : List V} {its : List Value} (z : xs.length ≤ sizeLine) (r : Vals xs its) : ObjOk P w (upd H h.objs.size (.frz (tupObj its) (.tup xs))) (h.push (tupObj its)) h.objs.size (.frz (tupObj its) (.tup xs)) :=
  ⟨Heap.get?_push_size _ rfl, z, its, r, IsTup.new _ _⟩
end
section
variable {X : Cx} {es : List Expr} {t : TA} {pos : Pos}
def tTupF (t : TA) : TE := fun σ H Q => t σ H fun xs H1 => xs.length ≤ sizeLine ∧ ∀ p o, H1 p = none → o.dict = none → Q (.ref p) (upd H1 p (.frz o (.tup xs)))
theorem pe_tupF {x1 : Nat} (h : PA X es t) : PE X (.Tuple es x1 pos) (tTupF t) := by
  refine ⟨fun pins s σ H Q I hq => ?_⟩
  refine wpAny_Tuple_spliced (thn (h.run pos pins s σ H _ I hq) fun us s1 ⟨xs, H1, I1, r, z, q⟩ => ⟨by rw [← r.length]; exact z, ?_⟩)
  have hf : H1 s1.heap.objs.size = none := I1.hok.fresh (Nat.le_refl _)
  exact ⟨.ref s1.heap.objs.size, upd H1 s1.heap.objs.size (.frz (tupObj us) (.tup xs)), I1.laid (t' := s1.toks) (fun b u e => Heap.get?_push_of_some _ e) (Nat.le_refl _) (frz_tup z r), rfl, q _ _ hf rfl⟩
theorem call_tuple_ofF : CallR X (.type "tuple") (fun xs H Q => ∃ p ys, xs = [.ref p] ∧ ((SqL X.K H p ys ∧ ∀ l o, H l = none → o.dict = none → Q (.ref l) (upd H l (.frz o (.tup ys)))) ∨ (SqT X.K H p ys ∧ Q (.ref p) H))) := by
  intro pins s σ H xs us Q I r h
  obtain ⟨p, ys, rfl, h⟩ := h
  obtain ⟨u, rfl, rx⟩ := vals1 r
  cases rx
  rcases h with ⟨hq, q⟩ | ⟨hq, q⟩
  · obtain ⟨its, r', pl, hz⟩ := I.list hq
    have hlen := r'.length
    refine call_tuple_list pl.isList (fun h' kp => ?_) (by simp only [List.size_toArray] <;> omega)
    have I1 : Inv X pins σ H { s with heap := h' } := I.kept (t' := s.toks) kp
    have I2 : Inv X pins σ (upd H h'.objs.size (.frz (tupObj its) (.tup ys))) { s with heap := h'.push (tupObj its) } :=
      I1.laid (t' := s.toks) (fun b o e => Heap.get?_push_of_some _ e) (Nat.le_refl _) (frz_tup hz r')
    exact ⟨.ref h'.objs.size, _, I2, rfl, q _ _ (I1.hok.fresh (Nat.le_refl _)) rfl⟩
  · obtain ⟨its, r', pl, hz⟩ := I.tuple hq
    exact call_tuple_same pl ⟨.ref p, H, I, rfl, q⟩
def rSlF (K : PySem.W.Frag) : V → Option Int → Option Int → Hp → VK → Prop := fun x lo hi H Q => ∃ a xs, x = .ref a ∧ SqT K H a xs ∧
  ((HT.sIx xs.length 0 lo = 0 ∧ HT.sIx xs.length xs.length hi = xs.length) → Q (.ref a) H) ∧ (¬ (HT.sIx xs.length 0 lo = 0 ∧ HT.sIx xs.length xs.length hi = xs.length) → ∀ p o, H p = none → o.dict = none → Q (.ref p) (upd H p (.frz o (.tup (cutV xs lo hi)))))
theorem sl_tupF : SlR X (rSlF X.K) := by
  intro pins s σ H x v vl vu lo hi sl Q I rx hs pl pu h
  obtain ⟨a, xs, rfl, hx, q1, q2⟩ := h
  by_cases hw : HT.sIx xs.length 0 lo = 0 ∧ HT.sIx xs.length xs.length hi = xs.length
  · exact sl_tupA pins s σ H _ v vl vu lo hi sl Q I rx hs pl pu ⟨a, xs, rfl, hx, fun _ => q1 hw, fun z => absurd hw z⟩
  · cases rx
    obtain ⟨its, r, ht, hz⟩ := I.tuple hx
    have hlen : its.toArray.size = xs.length := by rw [List.size_toArray]; exact r.length.symm
    refine ⟨"tuple", _, PyProof.Rows.slot_tuple_getitem.lookup, ht.typeIs, ?_⟩
    refine HT.getItem_tuple_cut ht hs pl pu (by rw [hlen]; exact hw) ?_ (by rw [hlen]; exact hz)
    rw [hlen]
    exact ⟨.ref s.heap.objs.size, _, I.laid (t' := s.toks) (fun b ob q => Heap.get?_push_of_some _ q) (Nat.le_refl _) (frz_tup (Nat.le_trans (cutV_length xs lo hi) hz) ((r.drop (HT.sIx xs.length 0 lo)).take (HT.sIx xs.length xs.length hi - HT.sIx xs.length 0 lo))), rfl, q2 hw _ _ (I.hok.fresh (Nat.le_refl _)) rfl⟩
def rCatTF (K : PySem.W.Frag) : R2 := fun x y H Q => ∃ a b xs ys, x = .ref a ∧ y = .ref b ∧ SqT K H a xs ∧ SqT K H b ys ∧ xs ≠ [] ∧ xs.length + ys.length ≤ sizeLine ∧
  (ys = [] → Q (.ref a) H) ∧ (ys ≠ [] → ∀ p o, H p = none → o.dict = none → Q (.ref p) (upd H p (.frz o (.tup (xs ++ ys)))))
theorem op_catTF : OpR X (binaryOp .Add) (rCatTF X.K) := by
  intro pins s σ H x y v u Q I rx ry h
  obtain ⟨a, b, xs, ys, rfl, rfl, ha, hb, hx, hz, q1, q2⟩ := h
  cases rx
  cases ry
  obtain ⟨its, r1, p1, _⟩ := I.tuple ha
  obtain ⟨its2, r2, p2, _⟩ := I.tuple hb
  refine HT.cat_tup p1 p2 (fun z => hx (r1.nil_iff.mp z)) (fun z => ⟨.ref a, H, I, rfl, q1 (r2.nil_iff.mp z)⟩) (fun z => ?_) (by rw [← r1.length, ← r2.length]; exact hz)
  exact ⟨.ref s.heap.objs.size, _, I.laid (t' := s.toks) (fun b ob q => Heap.get?_push_of_some _ q) (Nat.le_refl _) (frz_tup (by rw [List.length_append]; exact hz) (r1.append r2)), rfl, q2 (fun w => z (r2.nil_iff.mpr w)) _ _ (I.hok.fresh (Nat.le_refl _)) rfl⟩
def tTupRgF (te : L2.St → Hp → (Int → Int → Hp → Prop) → Prop) : TE := fun σ H Q => te σ H fun a b H1 => RgOk a b ∧ ∀ q o, H1 q = none → o.dict = none → Q (.ref q) (upd H1 q (.frz o (.tup (rgV a b))))
theorem pe_tupRgF {e : Expr} {te : L2.St → Hp → (Int → Int → Hp → Prop) → Prop} {p pos : Pos} (hc : X.calm = true) (hg : Gl X "tuple") (hm : X.mg "tuple" = none) (he : PRg X e te) (na : starEach [e] X.env = (false, eval e X.env) :: starEach [] X.env := by rfl) : PE X (.Call (.Name "tuple" p) [e] [] pos) (tTupRgF te) := by
  refine ⟨fun pins s σ H Q I h => ?_⟩
  refine Call_ (ld_blt I hg hm PyProof.Rows.boot_tuple (PyProof.Rows.callWith_type1 (args_cons (thn (he pins s σ H _ I h) fun x s1 ⟨r, a, b, t, u, v, H1, ex, hr, I1, ok, q⟩ => args_nil ?_) na) na))
  subst ex
  obtain ⟨b1, b2, b3, b4, b5⟩ := ok
  refine call_tuple_range (n := (b - a).toNat) (I1.ok.hd hc) hr (small_one b1 b2 b3 b4) (rangeSize_nat a b) b5 fun h' tk acc hk hi => ?_
  have I2 : Inv X pins σ H1 { s1 with heap := h', toks := tk } := I1.kept hk
  have hz : (rgV a b).length ≤ sizeLine := by rw [rgV_length, sizeLine_eq]; omega
  have e := frz_tup (P := X.prog) (w := X.w) (H := H1) (h := h') hz (vals_rg hi)
  unfold tupObj at e
  rw [Array.toArray_toList] at e
  exact ⟨.ref h'.objs.size, _, I2.laid (t' := tk) (fun c o e => Heap.get?_push_of_some _ e) (Nat.le_refl _) e, rfl, q _ _ (I2.hok.fresh (Nat.le_refl _)) rfl⟩
/-- t.m(e, ..), t such a tuple -/
def tBMT (K : PySem.W.Frag) (r : V → List V → Hp → VK → Prop) (to : TE) (t : TA) : TE := fun σ H Q => to σ H fun x H1 => (∃ a xs, x = .ref a ∧ SqD K H1 a xs) ∧ t σ H1 fun xs H2 => r x xs H2 Q
theorem pe_bmT {o e : Expr} {to : TE} {name : Str} {apos cpos : Pos} {id : String} {r : V → List V → Hp → VK → Prop} (slot : PySem.Slot "tuple" name id) (hty : typeOf (.builtin id) = pure (.type "method_descriptor")) (hm : MtR X id r) (ho : PE X o to) (ha : PA X (e :: es) t)
    (hbase : attributeBase o name X.env (eval o X.env) = eval o X.env := by rfl)
    (hfew : ((backTo cpos (starEach (e :: es) X.env)).all (fun x => !x.1) && (backToKw cpos (keywordEach [] X.env)).all (fun x => x.1.isSome)
      && decide ((e :: es).length + ([] : List Keyword).length + (if ([] : List Keyword).isEmpty then 0 else 1) < 30)) = true := by rfl)
    (hline : (apos.endLine == cpos.line) = true := by rfl) (hs : starEach (e :: es) X.env = (false, eval e X.env) :: starEach es X.env := by rfl) (hplain : (backTo cpos (starEach es X.env)).any (·.1) = false := by rfl) :
    PE X (.Call (.Attribute o name apos) (e :: es) [] cpos) (tBMT X.K r to t) := by
  refine ⟨fun pins s σ H Q I h => ?_⟩
  refine wpAny_Call_method_late hbase hfew hline rfl (thn (ho.run pins s σ H _ I h) fun v s1 ⟨x, H1, I1, r1, ty, q1⟩ => ?_)
  obtain ⟨a, ys, rfl, hd⟩ := ty
  cases r1
  obtain ⟨ob, h1, h2, h3⟩ := hd.obj I1
  refine ⟨"tuple", id, PySem.F.plainAttrs_tuple, slot, hty, ⟨ob, h1, h2⟩, fun b e => by cases e; exact ⟨ob, h1, h3⟩, ?_⟩
  have hA := ha.run cpos pins s1 σ H1 _ I1 q1
  rw [hs] at hA ⊢
  refine Calls.callWith_builtin (by show (false || (backTo cpos (starEach es X.env)).any (·.1)) = false; rw [hplain] <;> rfl) (Calls.evalArgs_plain ?_)
  exact thn hA fun us s2 ⟨vs, H2, I2, r2, q2⟩ => hm pins s2 σ H2 (.ref a) vs (.ref a) us Q I2 rfl r2 q2
end
end TL

end
section
set_option Elab.async false
set_option linter.all false
set_option maxRecDepth 100000
set_option autoImplicit false
/-! TL1: tree values, how they lie in the abstract heap, the state of a small interpreter -/
open PySem PySem.Spec PyProof.Rows L2
namespace TL

inductive T where
  | non | bl (b : Bool) | int (i : Int) | str (x : Str)
  | lst (xs : List T) | tup (xs : List T) | wtp (xs : List T)
  | dic (kvs : List (T × T))
  | obj (c : Nat) (fs : List (Str × T))
  | nib
  deriving Inhabited

/-- what is fixed through a run: the written part, where the drawing list lies, the classes' places -/
structure Ga where
  K : PySem.W.Frag
  nb : Addr
  ca : Nat → Addr

def keyT : Key → T
  | .inl i => .int i
  | .inr x => .str x

mutual
inductive Rep (g : Ga) (F : Hp) : V → T → Prop
  | non : Rep g F .non .non
  | bl (b : Bool) : Rep g F (.bl b) (.bl b)
  | int (i : Int) : Rep g F (.int i) (.int i)
  | str (x : Str) : Rep g F (.str x) (.str x)
  | nib : Rep g F (.ref g.nb) .nib
  | lst {a : Addr} {vs : List V} {ts : List T} : F a = some (.lst vs) → RepAll g F vs ts → Rep g F (.ref a) (.lst ts)
  | tup {a : Addr} {vs : List V} {ts : List T} : SqD g.K F a vs → RepAll g F vs ts → Rep g F (.ref a) (.tup ts)
  | wtp {a : Addr} {vs : List V} {ts : List T} : SqT g.K F a vs → RepAll g F vs ts → Rep g F (.ref a) (.wtp ts)
  | dic {a : Addr} {kvs : List (Key × V)} {ts : List (T × T)} : F a = some (.dK kvs) → RepKV g F kvs ts → Rep g F (.ref a) (.dic ts)
  | obj {a dx : Addr} {c : Nat} {fs : List (Str × V)} {ts : List (Str × T)} : F a = some (.ins (g.ca c) dx fs) → RepF g F fs ts → Rep g F (.ref a) (.obj c ts)
inductive RepAll (g : Ga) (F : Hp) : List V → List T → Prop
  | nil : RepAll g F [] []
  | cons {v : V} {t : T} {vs : List V} {ts : List T} : Rep g F v t → RepAll g F vs ts → RepAll g F (v :: vs) (t :: ts)
inductive RepKV (g : Ga) (F : Hp) : List (Key × V) → List (T × T) → Prop
  | nil : RepKV g F [] []
  | cons {k : Key} {v : V} {t : T} {vs : List (Key × V)} {ts : List (T × T)} : Rep g F v t → RepKV g F vs ts → RepKV g F ((k, v) :: vs) ((keyT k, t) :: ts)
inductive RepF (g : Ga) (F : Hp) : List (Str × V) → List (Str × T) → Prop
  | nil : RepF g F [] []
  | cons {k : Str} {v : V} {t : T} {vs : List (Str × V)} {ts : List (Str × T)} : Rep g F v t → RepF g F vs ts → RepF g F ((k, v) :: vs) ((k, t) :: ts)
end

section
variable {g : Ga} {F F' H H' : Hp}
theorem sameSqT {K : PySem.W.Frag} {a : Addr} {xs : List V} (e : Same F F') (h : SqT K F a xs) : SqT K F' a xs := by
  rcases h with (h | ⟨o, h⟩) | h
  · exact .inl (.inl (e _ _ h))
  · exact .inl (.inr ⟨o, e _ _ h⟩)
  · exact .inr h
theorem Rep.mono (s : Same F F') {v : V} {t : T} (h : Rep g F v t) : Rep g F' v t :=
  Rep.rec (motive_1 := fun v t _ => Rep g F' v t) (motive_2 := fun vs ts _ => RepAll g F' vs ts) (motive_3 := fun vs ts _ => RepKV g F' vs ts) (motive_4 := fun vs ts _ => RepF g F' vs ts)
    .non .bl .int .str .nib (fun e _ r => .lst (s _ _ e) r) (fun e _ r => .tup (sameSqD s e) r) (fun e _ r => .wtp (sameSqT s e) r) (fun e _ r => .dic (s _ _ e) r) (fun e _ r => .obj (s _ _ e) r)
    .nil (fun _ _ a b => .cons a b) .nil (fun _ _ a b => .cons a b) .nil (fun _ _ a b => .cons a b) h
theorem RepAll.mono (s : Same F F') : ∀ {vs : List V} {ts : List T}, RepAll g F vs ts → RepAll g F' vs ts
  | _, _, .nil => .nil
  | _, _, .cons a b => .cons (a.mono s) (RepAll.mono s b)
theorem RepKV.mono (s : Same F F') : ∀ {vs : List (Key × V)} {ts : List (T × T)}, RepKV g F vs ts → RepKV g F' vs ts
  | _, _, .nil => .nil
  | _, _, .cons a b => .cons (a.mono s) (RepKV.mono s b)
theorem RepF.mono (s : Same F F') : ∀ {vs : List (Str × V)} {ts : List (Str × T)}, RepF g F vs ts → RepF g F' vs ts
  | _, _, .nil => .nil
  | _, _, .cons a b => .cons (a.mono s) (RepF.mono s b)
theorem RepAll.length : ∀ {vs : List V} {ts : List T}, RepAll g F vs ts → vs.length = ts.length
  | _, _, .nil => rfl
  | _, _, .cons _ b => by simp [RepAll.length b]
theorem RepAll.append : ∀ {vs ws : List V} {ts us : List T}, RepAll g F vs ts → RepAll g F ws us → RepAll g F (vs ++ ws) (ts ++ us)
  | _, _, _, _, .nil, q => q
  | _, _, _, _, .cons a b, q => .cons a (RepAll.append b q)
theorem RepAll.get : ∀ {vs : List V} {ts : List T} {i : Nat} {t : T}, RepAll g F vs ts → ts[i]? = some t → ∃ v, vs[i]? = some v ∧ Rep g F v t
  | _, _, _, _, .nil, e => by simp at e
  | _, _, 0, _, .cons a _, e => by simp at e; subst e; exact ⟨_, rfl, a⟩
  | _, _, i + 1, _, .cons _ b, e => by
    obtain ⟨v, h1, h2⟩ := RepAll.get (i := i) b (by simpa using e)
    exact ⟨v, by simpa using h1, h2⟩
theorem RepAll.getV : ∀ {vs : List V} {ts : List T} {i : Nat} {v : V}, RepAll g F vs ts → vs[i]? = some v → ∃ t, ts[i]? = some t ∧ Rep g F v t
  | _, _, _, _, .nil, e => by simp at e
  | _, _, 0, _, .cons a _, e => by simp at e; subst e; exact ⟨_, rfl, a⟩
  | _, _, i + 1, _, .cons _ b, e => by
    obtain ⟨v, h1, h2⟩ := RepAll.getV (i := i) b (by simpa using e)
    exact ⟨v, by simpa using h1, h2⟩
theorem RepAll.set {v : V} {t : T} (r : Rep g F v t) : ∀ {vs : List V} {ts : List T} (i : Nat), RepAll g F vs ts → RepAll g F (vs.set i v) (ts.set i t)
  | _, _, _, .nil => .nil
  | _, _, 0, .cons _ b => .cons r b
  | _, _, i + 1, .cons a b => .cons a (RepAll.set r i b)
theorem RepAll.take : ∀ {vs : List V} {ts : List T} (n : Nat), RepAll g F vs ts → RepAll g F (vs.take n) (ts.take n)
  | _, _, 0, _ => .nil
  | _, _, _ + 1, .nil => .nil
  | _, _, n + 1, .cons a b => .cons a (RepAll.take n b)
theorem RepAll.drop : ∀ {vs : List V} {ts : List T} (n : Nat), RepAll g F vs ts → RepAll g F (vs.drop n) (ts.drop n)
  | _, _, 0, h => h
  | _, _, _ + 1, .nil => .nil
  | _, _, n + 1, .cons _ b => RepAll.drop n b
theorem RepAll.erase : ∀ {vs : List V} {ts : List T} (n : Nat), RepAll g F vs ts → RepAll g F (vs.eraseIdx n) (ts.eraseIdx n)
  | _, _, _, .nil => .nil
  | _, _, 0, .cons _ b => b
  | _, _, n + 1, .cons a b => .cons a (RepAll.erase n b)
theorem RepAll.reverse : ∀ {vs : List V} {ts : List T}, RepAll g F vs ts → RepAll g F vs.reverse ts.reverse
  | _, _, .nil => .nil
  | _, _, .cons a b => by
    rw [List.reverse_cons, List.reverse_cons]
    exact (RepAll.reverse b).append (.cons a .nil)
theorem RepAll.ints : ∀ {vs : List V} {ns : List Int}, RepAll g F vs (ns.map T.int) → vs = ns.map V.int
  | [], [], _ => rfl
  | _ :: _, n :: ns, h => by
    cases h with
    | cons a b =>
      cases a
      rw [List.map_cons, RepAll.ints b]
  | [], _ :: _, h => by cases h
  | _ :: _, [], h => by cases h
theorem RepAll.of_ints : ∀ (ns : List Int), RepAll g F (ns.map V.int) (ns.map T.int)
  | [] => .nil
  | n :: ns => .cons (.int n) (RepAll.of_ints ns)
theorem RepAll.bools : ∀ {vs : List V} {ns : List Bool}, RepAll g F vs (ns.map T.bl) → vs = ns.map V.bl
  | [], [], _ => rfl
  | _ :: _, n :: ns, h => by
    cases h with
    | cons a b =>
      cases a
      rw [List.map_cons, RepAll.bools b]
  | [], _ :: _, h => by cases h
  | _ :: _, [], h => by cases h
end

/-! ### the state -/
inductive Slot where
  | no | sh (t : T) | ow (t : T)
  deriving Inhabited
structure Nib where
  cells : List Int
  turn : Int
  rest : Int
structure PS0 where
  sl : List Slot
  nb : Nib
structure Ex where
  cls : Nat
  fs : List (Str × T)
/-- the heap and the frozen part at the entry of a def -/
structure Bs where
  H : Hp
  F : Hp

/-- an object whose parts stand in F -/
inductive Mk (g : Ga) (F : Hp) : HO → T → Prop
  | lst {vs : List V} {ts : List T} : RepAll g F vs ts → Mk g F (.lst vs) (.lst ts)
  | dic {kvs : List (Key × V)} {ts : List (T × T)} : RepKV g F kvs ts → Mk g F (.dK kvs) (.dic ts)
  | obj {dx : Addr} {c : Nat} {fs : List (Str × V)} {ts : List (Str × T)} : RepF g F fs ts → Mk g F (.ins (g.ca c) dx fs) (.obj c ts)
theorem Mk.mono {g : Ga} {F F' : Hp} (s : Same F F') {o : HO} {t : T} (h : Mk g F o t) : Mk g F' o t := by
  cases h with
  | lst h => exact .lst (h.mono s)
  | dic h => exact .dic (h.mono s)
  | obj h => exact .obj (h.mono s)
theorem Mk.rep {g : Ga} {F : Hp} {a : Addr} {o : HO} {t : T} (h : Mk g F o t) (e : F a = some o) : Rep g F (.ref a) t := by
  cases h with
  | lst h => exact .lst e h
  | dic h => exact .dic e h
  | obj h => exact .obj e h

def SlotRel (g : Ga) (F H : Hp) (H0 : Bs) : Slot → Option V → Prop
  | .no, _ => True
  | .sh t, o => ∃ v, o = some v ∧ Rep g F v t
  | .ow t, o => ∃ a, o = some (.ref a) ∧ (∃ u, H a = some u ∧ Mk g F u t) ∧ F a = none ∧ H0.H a = none ∧ a ≠ g.nb

def NibRel (g : Ga) (F H : Hp) (n : Nib) : Prop := ∃ c, H g.nb = some (.lst [.ref c, .int n.turn, .int n.rest]) ∧ F c = some (.lst (n.cells.map V.int))

structure Abs (g : Ga) (H0 : Bs) (F : Hp) (S : PS0) (ρ : List (Option V)) (H : Hp) : Prop where
  fh : Same F H
  fn : F g.nb = none
  nib : NibRel g F H S.nb
  keep : ∀ a o, H0.H a = some o → a ≠ g.nb → H a = some o
  fre : ∀ a o, H0.H a = some o → H0.F a = none → F a = none
  len : S.sl.length = ρ.length
  sl : ∀ (i : Nat) (s : Slot) (o : Option V), S.sl[i]? = some s → ρ[i]? = some o → SlotRel g F H H0 s o
  ds : ∀ (i j : Nat) (t u : T) (a : Addr), S.sl[i]? = some (.ow t) → S.sl[j]? = some (.ow u) → ρ[i]? = some (some (.ref a)) → ρ[j]? = some (some (.ref a)) → i = j

def PS0.push (S : PS0) (x : Slot) : PS0 := { S with sl := S.sl ++ [x] }
def PS0.put (S : PS0) (i : Nat) (x : Slot) : PS0 := { S with sl := S.sl.set i x }

section
variable {g : Ga} {H0 : Bs} {F F' H H' : Hp} {S : PS0} {ρ : List (Option V)} {x y : Slot} {v : V} {o : Option V} {t : T} {a p : Addr}
theorem getE_snoc_lt {α : Type} {l : List α} {z : α} {i : Nat} (h : i < l.length) : (l ++ [z])[i]? = l[i]? := List.getElem?_append_left h
theorem getE_snoc_last {α : Type} {l : List α} {z : α} : (l ++ [z])[l.length]? = some z := by simp
theorem getE_snoc {α : Type} {l : List α} {z w : α} {i : Nat} (h : (l ++ [z])[i]? = some w) : (i < l.length ∧ l[i]? = some w) ∨ (i = l.length ∧ z = w) := by
  by_cases hi : i < l.length
  · rw [getE_snoc_lt hi] at h; exact .inl ⟨hi, h⟩
  · have hl : i < (l ++ [z]).length := (List.getElem?_eq_some_iff.mp h).1
    have e : i = l.length := by simp at hl; omega
    subst e
    rw [getE_snoc_last] at h
    exact .inr ⟨rfl, Option.some.inj h⟩

theorem Abs.pop (A : Abs g H0 F (S.push x) (ρ ++ [o]) H) : Abs g H0 F S ρ H := by
  have hl : S.sl.length = ρ.length := by have := A.len; simp [PS0.push] at this; exact this
  refine ⟨A.fh, A.fn, A.nib, A.keep, A.fre, hl, fun i s q h1 h2 => ?_, fun i j t u a h1 h2 h3 h4 => ?_⟩
  · have i1 : i < S.sl.length := (List.getElem?_eq_some_iff.mp h1).1
    exact A.sl i s q (by show (S.sl ++ [x])[i]? = _; rw [getE_snoc_lt i1]; exact h1) (by rw [getE_snoc_lt (hl ▸ i1)]; exact h2)
  · have i1 : i < S.sl.length := (List.getElem?_eq_some_iff.mp h1).1
    have j1 : j < S.sl.length := (List.getElem?_eq_some_iff.mp h2).1
    exact A.ds i j t u a (by show (S.sl ++ [x])[i]? = _; rw [getE_snoc_lt i1]; exact h1) (by show (S.sl ++ [x])[j]? = _; rw [getE_snoc_lt j1]; exact h2)
      (by rw [getE_snoc_lt (hl ▸ i1)]; exact h3) (by rw [getE_snoc_lt (hl ▸ j1)]; exact h4)
theorem Abs.lenP (A : Abs g H0 F (S.push x) (ρ ++ [o]) H) : S.sl.length = ρ.length := A.pop.len
theorem Abs.top (A : Abs g H0 F (S.push x) (ρ ++ [o]) H) : SlotRel g F H H0 x o :=
  A.sl S.sl.length x o (by show (S.sl ++ [x])[_]? = _; exact getE_snoc_last) (by rw [A.lenP]; exact getE_snoc_last)
theorem Abs.topSh (A : Abs g H0 F (S.push (.sh t)) (ρ ++ [some v]) H) : Rep g F v t := by
  obtain ⟨w, e, r⟩ := A.top
  cases e
  exact r
/-- a slot more, no owned one -/
theorem Abs.pushSh (A : Abs g H0 F S ρ H) (r : Rep g F v t) : Abs g H0 F (S.push (.sh t)) (ρ ++ [some v]) H := by
  refine ⟨A.fh, A.fn, A.nib, A.keep, A.fre, by simp [PS0.push, A.len], fun i s q h1 h2 => ?_, fun i j t u a h1 h2 h3 h4 => ?_⟩
  · rcases getE_snoc h1 with ⟨l1, e1⟩ | ⟨l1, e1⟩
    · rw [getE_snoc_lt (A.len ▸ l1)] at h2
      exact A.sl i s q e1 h2
    · subst e1
      subst l1
      rw [A.len, getE_snoc_last] at h2
      cases h2
      exact ⟨v, rfl, r⟩
  · rcases getE_snoc h1 with ⟨l1, e1⟩ | ⟨l1, e1⟩
    · rcases getE_snoc h2 with ⟨l2, e2⟩ | ⟨l2, e2⟩
      · rw [getE_snoc_lt (A.len ▸ l1)] at h3
        rw [getE_snoc_lt (A.len ▸ l2)] at h4
        exact A.ds i j t u a e1 e2 h3 h4
      · cases e2
    · cases e1
theorem Abs.pushNo (A : Abs g H0 F S ρ H) (o : Option V) : Abs g H0 F (S.push .no) (ρ ++ [o]) H := by
  refine ⟨A.fh, A.fn, A.nib, A.keep, A.fre, by simp [PS0.push, A.len], fun i s q h1 h2 => ?_, fun i j t u a h1 h2 h3 h4 => ?_⟩
  · rcases getE_snoc h1 with ⟨l1, e1⟩ | ⟨l1, e1⟩
    · rw [getE_snoc_lt (A.len ▸ l1)] at h2
      exact A.sl i s q e1 h2
    · subst e1
      trivial
  · rcases getE_snoc h1 with ⟨l1, e1⟩ | ⟨l1, e1⟩
    · rcases getE_snoc h2 with ⟨l2, e2⟩ | ⟨l2, e2⟩
      · rw [getE_snoc_lt (A.len ▸ l1)] at h3
        rw [getE_snoc_lt (A.len ▸ l2)] at h4
        exact A.ds i j t u a e1 e2 h3 h4
      · cases e2
    · cases e1
/-- the frozen part grows (by what stands in H, none of it owned) -/
theorem Abs.grow (A : Abs g H0 F S ρ H) (s : Same F F') (s' : Same F' H) (n : F' g.nb = none) (fr : ∀ a, F a = none → F' a ≠ none → H0.H a = none) (no : ∀ (i : Nat) (t : T) (a : Addr), S.sl[i]? = some (.ow t) → ρ[i]? = some (some (.ref a)) → F' a = none) : Abs g H0 F' S ρ H := by
  obtain ⟨c, n1, n2⟩ := A.nib
  refine ⟨s', n, ⟨c, n1, s _ _ n2⟩, A.keep, fun a o q1 q2 => ?_, A.len, fun i s1 q h1 h2 => ?_, A.ds⟩
  · cases q : F' a with
    | none => rfl
    | some u => have := fr a (A.fre a o q1 q2) (by rw [q]; simp); rw [this] at q1; cases q1
  have h := A.sl i s1 q h1 h2
  cases s1 with
  | no => trivial
  | sh t => obtain ⟨v, e, r⟩ := h; exact ⟨v, e, r.mono s⟩
  | ow t =>
    obtain ⟨a, e, ⟨u, hu, mk⟩, f, h0, nn⟩ := h
    subst e
    exact ⟨a, rfl, ⟨u, hu, mk.mono s⟩, no i t a h1 h2, h0, nn⟩
/-- a slot's own object is frozen -/
theorem Abs.freeze {i : Nat} (A : Abs g H0 F S ρ H) (h : S.sl[i]? = some (.ow t)) : ∃ F', Same F F' ∧ Abs g H0 F' (S.put i (.sh t)) ρ H := by
  have hi : i < S.sl.length := (List.getElem?_eq_some_iff.mp h).1
  have hr : i < ρ.length := A.len ▸ hi
  have e0 : ρ[i]? = some ρ[i] := List.getElem?_eq_getElem hr
  obtain ⟨a, e, ⟨u, hu, mk⟩, f, h0, nn⟩ := A.sl i _ _ h e0
  rw [e] at e0
  have s : Same F (upd F a u) := fun b w q => by
    rw [upd_ne (show b ≠ a from fun z => by subst z; rw [f] at q; cases q)]; exact q
  have s' : Same (upd F a u) H := fun b w q => by
    by_cases hb : b = a
    · subst hb; rw [upd_same] at q; cases q; exact hu
    · rw [upd_ne hb] at q; exact A.fh b w q
  obtain ⟨c, n1, n2⟩ := A.nib
  refine ⟨upd F a u, s, s', by rw [upd_ne (Ne.symm nn)]; exact A.fn, ⟨c, n1, s _ _ n2⟩, A.keep, fun b w q1 q2 => by rw [upd_ne (show b ≠ a from fun z => by subst z; rw [h0] at q1; cases q1)]; exact A.fre b w q1 q2, by simp [PS0.put, A.len], fun j s1 q h1 h2 => ?_, fun j k t1 t2 b h1 h2 h3 h4 => ?_⟩
  · by_cases hj : i = j
    · subst hj
      rw [show (S.put i (.sh t)).sl = S.sl.set i (.sh t) from rfl, List.getElem?_set_self hi] at h1
      cases h1
      rw [e0] at h2
      cases h2
      exact ⟨_, rfl, (mk.mono s).rep upd_same⟩
    · rw [show (S.put i (.sh t)).sl = S.sl.set i (.sh t) from rfl, List.getElem?_set_ne hj] at h1
      have hh := A.sl j s1 q h1 h2
      cases s1 with
      | no => trivial
      | sh t => obtain ⟨v, e, r⟩ := hh; exact ⟨v, e, r.mono s⟩
      | ow t1 =>
        obtain ⟨b, e', ⟨u', hu', mk'⟩, f', h0', nn'⟩ := hh
        subst e'
        refine ⟨b, rfl, ⟨u', hu', mk'.mono s⟩, ?_, h0', nn'⟩
        rw [upd_ne (fun z => hj (A.ds i j _ _ b h h1 (by subst z; exact e0) h2))]
        exact f'
  · have ne : ∀ (j : Nat) (t1 : T), (S.put i (.sh t)).sl[j]? = some (.ow t1) → S.sl[j]? = some (.ow t1) := fun j t1 h1 => by
      by_cases hj : i = j
      · subst hj
        rw [show (S.put i (.sh t)).sl = S.sl.set i (.sh t) from rfl, List.getElem?_set_self hi] at h1
        cases h1
      · rwa [show (S.put i (.sh t)).sl = S.sl.set i (.sh t) from rfl, List.getElem?_set_ne hj] at h1
    exact A.ds j k t1 t2 b (ne _ _ h1) (ne _ _ h2) h3 h4
theorem put_push_top : (S.push x).put S.sl.length y = S.push y := by
  simp [PS0.put, PS0.push]
theorem Abs.freezeTop (A : Abs g H0 F (S.push (.ow t)) (ρ ++ [o]) H) : ∃ F', Same F F' ∧ Abs g H0 F' (S.push (.sh t)) (ρ ++ [o]) H := by
  obtain ⟨F', s, A'⟩ := A.freeze (i := S.sl.length) (t := t) (by show (S.sl ++ [_])[_]? = _; exact getE_snoc_last)
  rw [put_push_top] at A'
  exact ⟨F', s, A'⟩
/-- whatever the top is, as a shared value -/
def Slot.tree : Slot → Option T
  | .no => none
  | .sh t => some t
  | .ow t => some t
theorem Abs.shTop (A : Abs g H0 F (S.push x) (ρ ++ [o]) H) (e : x.tree = some t) : ∃ F', Same F F' ∧ Abs g H0 F' (S.push (.sh t)) (ρ ++ [o]) H := by
  cases x with
  | no => cases e
  | sh t' => cases e; exact ⟨F, Same.refl F, A⟩
  | ow t' => cases e; exact A.freezeTop
theorem Abs.fresh (A : Abs g H0 F S ρ H) (np : H p = none) : H0.H p = none := by
  cases q : H0.H p with
  | none => rfl
  | some w =>
    by_cases hz : p = g.nb
    · obtain ⟨c, n1, _⟩ := A.nib
      subst hz; rw [n1] at np; cases np
    · have := A.keep p w q hz
      rw [np] at this; cases this
/-- a new object of one's own -/
theorem Abs.newOw (A : Abs g H0 F S ρ H) {u : HO} (m : Mk g F u t) (np : H p = none) : Abs g H0 F (S.push (.ow t)) (ρ ++ [some (.ref p)]) (upd H p u) := by
  have st : Same H (upd H p u) := fun b w q => by rw [upd_ne (ne_of_none q np)]; exact q
  obtain ⟨c, n1, n2⟩ := A.nib
  have fp : F p = none := Same.free A.fh np
  refine ⟨A.fh.trans st, A.fn, ⟨c, st _ _ n1, n2⟩, fun a w q n => st _ _ (A.keep a w q n), A.fre, by simp [PS0.push, A.len], fun i s q h1 h2 => ?_, fun i j t1 t2 b h1 h2 h3 h4 => ?_⟩
  · rcases getE_snoc h1 with ⟨l1, e1⟩ | ⟨l1, e1⟩
    · rw [getE_snoc_lt (A.len ▸ l1)] at h2
      have h := A.sl i s q e1 h2
      cases s with
      | no => trivial
      | sh t => exact h
      | ow t1 =>
        obtain ⟨a, e, ⟨w, hw, mk⟩, r⟩ := h
        exact ⟨a, e, ⟨w, st _ _ hw, mk⟩, r⟩
    · subst e1
      subst l1
      rw [A.len, getE_snoc_last] at h2
      cases h2
      refine ⟨p, rfl, ⟨u, upd_same, m⟩, fp, ?_, fun z => ?_⟩
      · exact A.fresh np
      · subst z; rw [n1] at np; cases np
  · have lt : ∀ (i : Nat) (t1 : T), S.sl[i]? = some (.ow t1) → (ρ ++ [some (V.ref p)])[i]? = some (some (.ref p)) → False := fun i t1 h1 h3 => by
      have l1 : i < S.sl.length := (List.getElem?_eq_some_iff.mp h1).1
      rw [getE_snoc_lt (A.len ▸ l1)] at h3
      obtain ⟨a, e, ⟨w, hw, _⟩, _⟩ := A.sl i _ _ h1 h3
      cases e
      rw [np] at hw; cases hw
    rcases getE_snoc h1 with ⟨l1, e1⟩ | ⟨l1, e1⟩
    · rcases getE_snoc h2 with ⟨l2, e2⟩ | ⟨l2, e2⟩
      · rw [getE_snoc_lt (A.len ▸ l1)] at h3
        rw [getE_snoc_lt (A.len ▸ l2)] at h4
        exact A.ds i j t1 t2 b e1 e2 h3 h4
      · subst l2
        rw [A.len, getE_snoc_last] at h4
        cases h4
        exact (lt i t1 e1 h3).elim
    · subst l1
      rw [A.len, getE_snoc_last] at h3
      cases h3
      rcases getE_snoc h2 with ⟨l2, e2⟩ | ⟨l2, e2⟩
      · exact (lt j t2 e2 h4).elim
      · exact l2.symm
theorem Abs.newT (A : Abs g H0 F S ρ H) {u : HO} {t : T} (m : ∀ F', Same F F' → F' p = some u → Rep g F' (.ref p) t) (np : H p = none) : ∃ F', Same F F' ∧ Abs g H0 F' (S.push (.sh t)) (ρ ++ [some (.ref p)]) (upd H p u) := by
  have st : Same H (upd H p u) := fun b w q => by rw [upd_ne (ne_of_none q np)]; exact q
  have fp : F p = none := Same.free A.fh np
  obtain ⟨c, n1, n2⟩ := A.nib
  have npn : p ≠ g.nb := fun z => by subst z; rw [n1] at np; cases np
  have sF : Same F (upd F p u) := fun b w q => by rw [upd_ne (ne_of_none q fp)]; exact q
  refine ⟨upd F p u, sF, ?_⟩
  have A1 : Abs g H0 F S ρ (upd H p u) := by
    refine ⟨A.fh.trans st, A.fn, ⟨c, st _ _ n1, n2⟩, fun a w q n => st _ _ (A.keep a w q n), A.fre, A.len, fun i s q h1 h2 => ?_, A.ds⟩
    have h := A.sl i s q h1 h2
    cases s with
    | no => trivial
    | sh t => exact h
    | ow t1 =>
      obtain ⟨a, e, ⟨w, hw, mk⟩, r⟩ := h
      exact ⟨a, e, ⟨w, st _ _ hw, mk⟩, r⟩
  have A2 : Abs g H0 (upd F p u) S ρ (upd H p u) := by
    refine A1.grow sF (fun b w q => ?_) (by rw [upd_ne (Ne.symm npn)]; exact A.fn) (fun a q1 q2 => ?_) fun i t a h1 h2 => ?_
    · by_cases hb : b = p
      · subst hb; rw [upd_same] at q ⊢; exact q
      · rw [upd_ne hb] at q ⊢; exact A.fh b w q
    · by_cases hb : a = p
      · subst hb; exact A.fresh np
      · rw [upd_ne hb] at q2; exact absurd q1 q2
    · obtain ⟨a', e, ⟨w, hw, _⟩, f, _⟩ := A.sl i _ _ h1 h2
      cases e
      rw [upd_ne (ne_of_none hw np)]
      exact f
  exact A2.pushSh (m _ sF upd_same)
theorem Abs.newTup (A : Abs g H0 F S ρ H) {vs : List V} {ts : List T} {o : Obj} (m : RepAll g F vs ts) (np : H p = none) (hd : o.dict = none) : ∃ F', Same F F' ∧ Abs g H0 F' (S.push (.sh (.tup ts))) (ρ ++ [some (.ref p)]) (upd H p (.frz o (.tup vs))) :=
  A.newT (fun F' s e => .tup (.inl ⟨o, e, hd⟩) (m.mono s)) np
theorem Abs.newWtp (A : Abs g H0 F S ρ H) {vs : List V} {ts : List T} (m : RepAll g F vs ts) (np : H p = none) : ∃ F', Same F F' ∧ Abs g H0 F' (S.push (.sh (.wtp ts))) (ρ ++ [some (.ref p)]) (upd H p (.tup vs)) :=
  A.newT (fun F' s e => .wtp (.inl (.inl e)) (m.mono s)) np
/-- the top goes to a slot -/
theorem Abs.assign {σ τ : List (Option V)} {i : Nat} (A : Abs g H0 F (S.push x) (σ ++ τ ++ [some v]) H) (hi : i < σ.length) : Abs g H0 F (S.put i x) (σ.set i (some v) ++ τ) H := by
  have A0 := A.pop
  have hl := A0.len
  have hlen : i < S.sl.length := by rw [hl]; simp; omega
  have e : (σ.set i (some v) ++ τ) = (σ ++ τ).set i (some v) := by rw [List.set_append_left _ _ hi]
  rw [e]
  have hi2 : i < (σ ++ τ).length := by simp; omega
  refine ⟨A.fh, A.fn, A.nib, A.keep, A.fre, by simp [PS0.put, hl], fun j s q h1 h2 => ?_, fun j k t1 t2 b h1 h2 h3 h4 => ?_⟩
  · by_cases hj : i = j
    · subst hj
      rw [show (S.put i x).sl = S.sl.set i x from rfl, List.getElem?_set_self hlen] at h1
      rw [List.getElem?_set_self hi2] at h2
      cases h1
      cases h2
      exact A.top
    · rw [show (S.put i x).sl = S.sl.set i x from rfl, List.getElem?_set_ne hj] at h1
      rw [List.getElem?_set_ne hj] at h2
      exact A0.sl j s q h1 h2
  · -- old places: i stands for the top
    have back : ∀ (j : Nat) (t1 : T), (S.put i x).sl[j]? = some (.ow t1) → ((σ ++ τ).set i (some v))[j]? = some (some (.ref b)) →
        ∃ j', (S.push x).sl[j']? = some (.ow t1) ∧ (σ ++ τ ++ [some v])[j']? = some (some (.ref b)) ∧ (j = if j' = S.sl.length then i else j') := fun j t1 h1 h3 => by
      by_cases hj : i = j
      · subst hj
        rw [show (S.put i x).sl = S.sl.set i x from rfl, List.getElem?_set_self hlen] at h1
        rw [List.getElem?_set_self hi2] at h3
        cases h1
        refine ⟨S.sl.length, by show (S.sl ++ [_])[_]? = _; exact getE_snoc_last, ?_, by simp⟩
        rw [hl, getE_snoc_last]
        exact h3
      · rw [show (S.put i x).sl = S.sl.set i x from rfl, List.getElem?_set_ne hj] at h1
        rw [List.getElem?_set_ne hj] at h3
        have l1 : j < S.sl.length := (List.getElem?_eq_some_iff.mp h1).1
        refine ⟨j, by show (S.sl ++ [_])[_]? = _; rw [getE_snoc_lt l1]; exact h1, by rw [getE_snoc_lt (hl ▸ l1)]; exact h3, ?_⟩
        rw [if_neg (by omega)]
    obtain ⟨j', p1, p2, p3⟩ := back j t1 h1 h3
    obtain ⟨k', q1, q2, q3⟩ := back k t2 h2 h4
    have := A.ds j' k' t1 t2 b p1 q1 p2 q2
    rw [p3, q3, this]
/-- an own object is changed -/
theorem Abs.change {i : Nat} {t' : T} (A : Abs g H0 F S ρ H) (h : S.sl[i]? = some (.ow t)) (h2 : ρ[i]? = some (some (.ref a))) {u' : HO} (m : Mk g F u' t') : Abs g H0 F (S.put i (.ow t')) ρ (upd H a u') := by
  have hi : i < S.sl.length := (List.getElem?_eq_some_iff.mp h).1
  obtain ⟨a', e, ⟨u, hu, mk⟩, f, h0, nn⟩ := A.sl i _ _ h h2
  cases e
  obtain ⟨c, n1, n2⟩ := A.nib
  refine ⟨fun b w q => ?_, A.fn, ⟨c, ?_, n2⟩, fun b w q n => ?_, fun b w q n => ?_, by simp [PS0.put, A.len], fun j s q h1 h3 => ?_, fun j k t1 t2 b h1 h3 h4 h5 => ?_⟩
  · rw [upd_ne (show b ≠ a from fun z => by subst z; rw [f] at q; cases q)]; exact A.fh b w q
  · rw [upd_ne (Ne.symm nn)]; exact n1
  · rw [upd_ne (show b ≠ a from fun z => by subst z; rw [h0] at q; cases q)]; exact A.keep b w q n
  · exact A.fre b w q n
  · by_cases hj : i = j
    · subst hj
      rw [show (S.put i (.ow t')).sl = S.sl.set i (.ow t') from rfl, List.getElem?_set_self hi] at h1
      cases h1
      rw [h2] at h3
      cases h3
      exact ⟨a, rfl, ⟨u', upd_same, m⟩, f, h0, nn⟩
    · rw [show (S.put i (.ow t')).sl = S.sl.set i (.ow t') from rfl, List.getElem?_set_ne hj] at h1
      have hh := A.sl j s q h1 h3
      cases s with
      | no => trivial
      | sh t => exact hh
      | ow t1 =>
        obtain ⟨b, e', ⟨u2, hu2, mk2⟩, r⟩ := hh
        subst e'
        exact ⟨b, rfl, ⟨u2, by rw [upd_ne (show b ≠ a from fun z => hj (A.ds i j _ _ b h h1 (by subst z; exact h2) h3))]; exact hu2, mk2⟩, r⟩
  · have ne : ∀ (j : Nat) (t1 : T), (S.put i (.ow t')).sl[j]? = some (.ow t1) → ∃ t0, S.sl[j]? = some (.ow t0) := fun j t1 h1 => by
      by_cases hj : i = j
      · subst hj; exact ⟨_, h⟩
      · rw [show (S.put i (.ow t')).sl = S.sl.set i (.ow t') from rfl, List.getElem?_set_ne hj] at h1
        exact ⟨_, h1⟩
    obtain ⟨t3, h1'⟩ := ne _ _ h1
    obtain ⟨t4, h3'⟩ := ne _ _ h3
    exact A.ds j k t3 t4 b h1' h3' h4 h5
end
end TL

end
section
set_option Elab.async false
set_option linter.all false
set_option maxRecDepth 100000
set_option autoImplicit false
/-! TL2: readings by semantic functions; names, constants, operators, tests -/
open PySem PySem.Spec PyProof.Rows L2
namespace TL

structure Sta where
  lo : List Slot
  gh : List Slot
  nb : Nib
inductive R (α : Type) where
  | ok (a : α) (S : Sta) | exc (e : Ex) (S : Sta) | stuck
def R.bind {α β : Type} (r : R α) (k : α → Sta → R β) : R β := match r with
  | .ok a S => k a S
  | .exc e S => .exc e S
  | .stuck => .stuck
@[simp] theorem R.bind_ok {α β : Type} (a : α) (S : Sta) (k : α → Sta → R β) : (R.ok a S).bind k = k a S := rfl
@[simp] theorem R.bind_stuck {α β : Type} (k : α → Sta → R β) : (R.stuck : R α).bind k = R.stuck := rfl
def Sta.z (S : Sta) : PS0 := ⟨S.lo ++ S.gh, S.nb⟩
def Sta.push (S : Sta) (x : Slot) : Sta := { S with gh := S.gh ++ [x] }
def Sta.put (S : Sta) (i : Nat) (x : Slot) : Sta := { S with lo := S.lo.set i x }
theorem Sta.z_push (S : Sta) (x : Slot) : (S.push x).z = S.z.push x := by simp [Sta.z, Sta.push, PS0.push]
theorem Sta.z_put {S : Sta} {i : Nat} {x : Slot} (h : i < S.lo.length) : (S.put i x).z = S.z.put i x := by simp [Sta.z, Sta.put, PS0.put, List.set_append_left _ _ h]

/-- what is fixed through a def's run -/
structure Cfg where
  g : Ga
  B : Bs
  E : XK
structure AbsX (c : Cfg) (F : Hp) (S : Sta) (σ τ : List (Option V)) (H : Hp) : Prop where
  a : Abs c.g c.B F S.z (σ ++ τ) H
  l : S.lo.length = σ.length
def ExRel (g : Ga) (F H : Hp) (e : Ex) (cls : Value) (d : Option Addr) : Prop := cls = .ref (g.ca e.cls) ∧ ∃ a fs, d = some a ∧ H a = some (.xd fs) ∧ RepF g F fs e.fs

section
variable {c : Cfg} {F F' F1 H : Hp} {S S' : Sta} {σ τ : List (Option V)} {x : Slot} {v : V} {o : Option V} {t : T}
theorem AbsX.gl (A : AbsX c F S σ τ H) : S.gh.length = τ.length := by
  have h1 := A.a.len
  have h2 := A.l
  simp [Sta.z] at h1
  omega
theorem AbsX.pop (A : AbsX c F (S.push x) σ (τ ++ [o]) H) : AbsX c F S σ τ H := by
  refine ⟨?_, A.l⟩
  have h := A.a
  rw [Sta.z_push, ← List.append_assoc] at h
  exact h.pop
theorem AbsX.mk' (h : Abs c.g c.B F (S.z.push x) (σ ++ τ ++ [o]) H) (l : S.lo.length = σ.length) : AbsX c F (S.push x) σ (τ ++ [o]) H :=
  ⟨by rw [Sta.z_push, ← List.append_assoc]; exact h, l⟩
theorem AbsX.as (A : AbsX c F (S.push x) σ (τ ++ [o]) H) : Abs c.g c.B F (S.z.push x) (σ ++ τ ++ [o]) H := by
  have h := A.a
  rw [Sta.z_push, ← List.append_assoc] at h
  exact h
theorem AbsX.pushSh (A : AbsX c F S σ τ H) (r : Rep c.g F v t) : AbsX c F (S.push (.sh t)) σ (τ ++ [some v]) H := .mk' (A.a.pushSh r) A.l
theorem AbsX.topSh (A : AbsX c F (S.push (.sh t)) σ (τ ++ [some v]) H) : Rep c.g F v t := A.as.topSh
theorem AbsX.shTop (A : AbsX c F (S.push x) σ (τ ++ [o]) H) (e : x.tree = some t) : ∃ F', Same F F' ∧ AbsX c F' (S.push (.sh t)) σ (τ ++ [o]) H := by
  obtain ⟨F', s, A'⟩ := A.as.shTop e
  exact ⟨F', s, .mk' A' A.l⟩
theorem AbsX.newOw {u : HO} {p : Addr} (A : AbsX c F S σ τ H) (m : Mk c.g F u t) (np : H p = none) : AbsX c F (S.push (.ow t)) σ (τ ++ [some (.ref p)]) (upd H p u) := .mk' (A.a.newOw m np) A.l
theorem AbsX.newTup {vs : List V} {ts : List T} {p : Addr} {o : Obj} (A : AbsX c F S σ τ H) (m : RepAll c.g F vs ts) (np : H p = none) (hd : o.dict = none) : ∃ F', Same F F' ∧ AbsX c F' (S.push (.sh (.tup ts))) σ (τ ++ [some (.ref p)]) (upd H p (.frz o (.tup vs))) := by
  obtain ⟨F', s, A'⟩ := A.a.newTup m np hd
  exact ⟨F', s, .mk' A' A.l⟩
theorem AbsX.newWtp {vs : List V} {ts : List T} {p : Addr} (A : AbsX c F S σ τ H) (m : RepAll c.g F vs ts) (np : H p = none) : ∃ F', Same F F' ∧ AbsX c F' (S.push (.sh (.wtp ts))) σ (τ ++ [some (.ref p)]) (upd H p (.tup vs)) := by
  obtain ⟨F', s, A'⟩ := A.a.newWtp m np
  exact ⟨F', s, .mk' A' A.l⟩
theorem AbsX.slot {i : Nat} {s : Slot} (A : AbsX c F S σ τ H) (h : S.lo[i]? = some s) : ∃ o, σ[i]? = some o ∧ SlotRel c.g F H c.B s o := by
  have hi : i < S.lo.length := (List.getElem?_eq_some_iff.mp h).1
  have hi2 : i < σ.length := A.l ▸ hi
  refine ⟨σ[i], List.getElem?_eq_getElem hi2, ?_⟩
  refine A.a.sl i s _ (by show (S.lo ++ S.gh)[i]? = _; rw [List.getElem?_append_left hi]; exact h) ?_
  rw [List.getElem?_append_left hi2]
  exact List.getElem?_eq_getElem hi2
theorem AbsX.assign {i : Nat} (A : AbsX c F (S.push x) σ (τ ++ [some v]) H) (hi : i < σ.length) : AbsX c F (S.put i x) (σ.set i (some v)) τ H := by
  have l : S.lo.length = σ.length := A.l
  refine ⟨?_, by simp [Sta.put, l]⟩
  rw [Sta.z_put (l ▸ hi)]
  exact A.as.assign hi
theorem AbsX.freeze {i : Nat} (A : AbsX c F S σ τ H) (h : S.lo[i]? = some (.ow t)) : ∃ F', Same F F' ∧ AbsX c F' (S.put i (.sh t)) σ τ H := by
  have hi : i < S.lo.length := (List.getElem?_eq_some_iff.mp h).1
  obtain ⟨F', s, A'⟩ := A.a.freeze (i := i) (t := t) (by show (S.lo ++ S.gh)[i]? = _; rw [List.getElem?_append_left hi]; exact h)
  exact ⟨F', s, by rw [Sta.z_put hi]; exact A', by simp [Sta.put, A.l]⟩
theorem AbsX.change {i : Nat} {a : Addr} {t' : T} {u' : HO} (A : AbsX c F S σ τ H) (h : S.lo[i]? = some (.ow t)) (h2 : σ[i]? = some (some (.ref a))) (m : Mk c.g F u' t') : AbsX c F (S.put i (.ow t')) σ τ (upd H a u') := by
  have hi : i < S.lo.length := (List.getElem?_eq_some_iff.mp h).1
  refine ⟨?_, by simp [Sta.put, A.l]⟩
  rw [Sta.z_put hi]
  refine A.a.change (i := i) (t := t) (by show (S.lo ++ S.gh)[i]? = _; rw [List.getElem?_append_left hi]; exact h) ?_ m
  rw [List.getElem?_append_left (A.l ▸ hi)]
  exact h2
end

/-! ### operands -/
inductive Opd where
  | val (t : T) | pl (i : Nat)
def Opd.get (S : Sta) : Opd → Option T
  | .val t => some t
  | .pl i => (S.lo[i]?).bind Slot.tree
def OpdRel (g : Ga) (F : Hp) (σ : List (Option V)) : Opd → V → Prop
  | .val t, v => Rep g F v t
  | .pl i, v => σ[i]? = some (some v)
/-- read now: it stands in F, or its top stands in H alone -/
def PRep (g : Ga) (F H : Hp) (v : V) (t : T) : Prop := Rep g F v t ∨ ∃ a u, v = .ref a ∧ H a = some u ∧ Mk g F u t
inductive OpdAll (g : Ga) (F : Hp) (σ : List (Option V)) : List Opd → List V → Prop
  | nil : OpdAll g F σ [] []
  | cons {o : Opd} {v : V} {os : List Opd} {vs : List V} : OpdRel g F σ o v → OpdAll g F σ os vs → OpdAll g F σ (o :: os) (v :: vs)
inductive PRepAll (g : Ga) (F H : Hp) : List V → List T → Prop
  | nil : PRepAll g F H [] []
  | cons {v : V} {t : T} {vs : List V} {ts : List T} : PRep g F H v t → PRepAll g F H vs ts → PRepAll g F H (v :: vs) (t :: ts)
def gets (S : Sta) : List Opd → Option (List T)
  | [] => some []
  | o :: os => (o.get S).bind fun t => (gets S os).map (t :: ·)
section
variable {c : Cfg} {F F' F1 H : Hp} {S S' : Sta} {σ τ : List (Option V)} {o : Opd} {v : V} {t : T}
theorem OpdRel.mono (s : Same F F') (h : OpdRel c.g F σ o v) : OpdRel c.g F' σ o v := by
  cases o with
  | val t => exact Rep.mono s h
  | pl i => exact h
theorem OpdAll.mono (s : Same F F') : ∀ {os : List Opd} {vs : List V}, OpdAll c.g F σ os vs → OpdAll c.g F' σ os vs
  | _, _, .nil => .nil
  | _, _, .cons a b => .cons (a.mono s) (OpdAll.mono s b)
theorem AbsX.opd (A : AbsX c F S σ τ H) (h : OpdRel c.g F σ o v) (e : o.get S = some t) : PRep c.g F H v t := by
  cases o with
  | val t' => cases e; exact .inl h
  | pl i =>
    have h : σ[i]? = some (some v) := h
    cases q : S.lo[i]? with
    | none => simp [Opd.get, q] at e
    | some s =>
      simp [Opd.get, q] at e
      obtain ⟨w, hw, r⟩ := A.slot q
      rw [h] at hw
      cases hw
      cases s with
      | no => cases e
      | sh t' =>
        cases e
        obtain ⟨_, e1, r⟩ := r
        cases e1
        exact .inl r
      | ow t' =>
        cases e
        obtain ⟨a, e1, ⟨u, hu, m⟩, _⟩ := r
        cases e1
        exact .inr ⟨a, u, rfl, hu, m⟩
theorem AbsX.opds (A : AbsX c F S σ τ H) : ∀ {os : List Opd} {vs : List V} {ts : List T}, OpdAll c.g F σ os vs → gets S os = some ts → PRepAll c.g F H vs ts
  | _, _, _, .nil, e => by cases e; exact .nil
  | o :: os, _, _, .cons a b, e => by
    cases q : o.get S with
    | none => simp [gets, q] at e
    | some t =>
      cases q2 : gets S os with
      | none => simp [gets, q, q2] at e
      | some ts =>
        simp [gets, q, q2] at e
        subst e
        exact .cons (A.opd a q) (A.opds b q2)
end

/-! ### readings -/
inductive Flow where
  | nx | rt (x : Slot) | bk | ct
def rOut {α : Type} (c : Cfg) (F : Hp) (σ τ : List (Option V)) (P : α → Sta → Hp → Hp → Prop) : R α → Prop
  | .ok a S => ∀ H' F', Same F F' → P a S F' H'
  | .exc e S => ∀ cls d H' F', Same F F' → AbsX c F' S σ τ H' → ExRel c.g F' H' e cls d → c.E cls d H'
  | .stuck => False
theorem rOut.mono {α : Type} {c : Cfg} {F F1 : Hp} {σ τ : List (Option V)} {P : α → Sta → Hp → Hp → Prop} (s : Same F F1) : ∀ {r : R α}, rOut c F σ τ P r → rOut c F1 σ τ P r
  | .ok _ _, h => fun H' F' s' => h H' F' (s.trans s')
  | .exc _ _, h => fun cls d H' F' s' => h cls d H' F' (s.trans s')
  | .stuck, h => h
theorem rOut.bind {α β : Type} {c : Cfg} {F : Hp} {σ τ : List (Option V)} {P1 : α → Sta → Hp → Hp → Prop} {P2 : β → Sta → Hp → Hp → Prop} {r : R α} {k : α → Sta → R β} (h : rOut c F σ τ P2 (r.bind k))
    (K : ∀ a S F' H', Same F F' → rOut c F' σ τ P2 (k a S) → P1 a S F' H') : rOut c F σ τ P1 r := by
  cases r with
  | ok a S =>
    intro H' F' s
    exact K a S F' H' s (rOut.mono s h)
  | exc e S => exact h
  | stuck => exact h

abbrev EF := Sta → R Slot
abbrev OF := Sta → R Opd
abbrev TF := Sta → R Bool
abbrev AF := Sta → R (List Opd)
abbrev SF := Sta → R Flow
def eP (c : Cfg) (σ τ : List (Option V)) (Q : VK) : Slot → Sta → Hp → Hp → Prop := fun x S F' H' => ∀ v, AbsX c F' (S.push x) σ (τ ++ [some v]) H' → Q v H'
def oP (c : Cfg) (σ τ : List (Option V)) (Q : VK) : Opd → Sta → Hp → Hp → Prop := fun o S F' H' => ∀ v, AbsX c F' S σ τ H' → OpdRel c.g F' σ o v → Q v H'
def tP (c : Cfg) (σ τ : List (Option V)) (Q : Bool → Hp → Prop) : Bool → Sta → Hp → Hp → Prop := fun b S F' H' => AbsX c F' S σ τ H' → Q b H'
def aP (c : Cfg) (σ τ : List (Option V)) (Q : List V → Hp → Prop) : List Opd → Sta → Hp → Hp → Prop := fun os S F' H' => ∀ vs, AbsX c F' S σ τ H' → OpdAll c.g F' σ os vs → Q vs H'
def rdE (c : Cfg) (f : EF) : TE := fun σ H Q => ∃ τ F S, AbsX c F S σ τ H ∧ rOut c F σ τ (eP c σ τ Q) (f S)
def rdO (c : Cfg) (f : OF) : TE := fun σ H Q => ∃ τ F S, AbsX c F S σ τ H ∧ rOut c F σ τ (oP c σ τ Q) (f S)
def rdT (c : Cfg) (f : TF) : TT := fun σ H Q => ∃ τ F S, AbsX c F S σ τ H ∧ rOut c F σ τ (tP c σ τ Q) (f S)
def rdA (c : Cfg) (f : AF) : TA := fun σ H Q => ∃ τ F S, AbsX c F S σ τ H ∧ rOut c F σ τ (aP c σ τ Q) (f S)

theorem PE.imp {X : Cx} {e : Expr} {t t' : TE} (h : PE X e t) (w : ∀ σ H Q, t' σ H Q → t σ H Q) : PE X e t' := ⟨fun pins s σ H Q I q => h.run pins s σ H Q I (w σ H Q q)⟩
theorem PT.imp {X : Cx} {e : Expr} {t t' : TT} (h : PT X e t) (w : ∀ σ H Q, t' σ H Q → t σ H Q) : PT X e t' := ⟨fun pins s σ H Q I q => h.run pins s σ H Q I (w σ H Q q)⟩
theorem PW.imp {X : Cx} {e : Expr} {t t' : TT} (h : PW X e t) (w : ∀ σ H Q, t' σ H Q → t σ H Q) : PW X e t' := ⟨fun wh pins s σ H Q I q => h.run wh pins s σ H Q I (w σ H Q q)⟩
theorem PA.imp {X : Cx} {e : List Expr} {t t' : TA} (h : PA X e t) (w : ∀ σ H Q, t' σ H Q → t σ H Q) : PA X e t' := ⟨fun p pins s σ H Q I q => h.run p pins s σ H Q I (w σ H Q q)⟩
theorem ps_imp {X : Cx} {e : Stmt} {t t' : TS} (h : PS X e t) (w : ∀ D σ H, t' D σ H → t D σ H) : PS X e t' := ⟨fun pins s σ H D I q => h.run pins s σ H D I (w D σ H q)⟩

end TL

end
section
set_option Elab.async false
set_option linter.all false
set_option maxRecDepth 100000
set_option autoImplicit false
/-! TL3: expressions -/
open PySem PySem.Spec PyProof.Rows L2
namespace TL
def sz : Nat := 16777216
theorem sz_eq : sz = sizeLine := sizeLine_eq.symm

/-! ### names, constants -/
def var (i : Nat) : OF := fun S => match S.lo[i]? with
  | some (.sh t) => .ok (.val t) S
  | some (.ow _) => .ok (.pl i) S
  | _ => .stuck
def varE (i : Nat) : EF := fun S => match S.lo[i]? with
  | some (.sh t) => .ok (.sh t) S
  | some (.ow t) => .ok (.sh t) (S.put i (.sh t))
  | _ => .stuck
/-- handed out for good: the slot is left without it -/
def varR (i : Nat) : EF := fun S => match S.lo[i]? with
  | some (.sh t) => .ok (.sh t) S
  | some (.ow t) => .ok (.ow t) (S.put i .no)
  | _ => .stuck
def con (t : T) : EF := fun S => .ok (.sh t) S
def opE (f : EF) : OF := fun S => (f S).bind fun x S1 => match x.tree with
  | some t => .ok (.val t) S1
  | none => .stuck
section
variable {X : Cx} {c : Cfg} {e a b : Expr} {es : List Expr} {pos : Pos}
theorem do_var {i : Nat} {x : Str} (h : PE X (.Name x pos) (tVar i)) : PE X (.Name x pos) (rdO c (var i)) := by
  refine PE.imp h fun σ H Q q => ?_
  obtain ⟨τ, F, S, A, q⟩ := q
  unfold var at q
  split at q
  · rename_i t e
    obtain ⟨o, h1, w, h2, r⟩ := A.slot e
    subst h2
    exact ⟨w, h1, q H F (Same.refl F) w A r⟩
  · rename_i t e
    obtain ⟨o, h1, w, h2, r⟩ := A.slot e
    subst h2
    exact ⟨_, h1, q H F (Same.refl F) _ A h1⟩
  · exact q.elim
theorem de_var {i : Nat} {x : Str} (h : PE X (.Name x pos) (tVar i)) : PE X (.Name x pos) (rdE c (varE i)) := by
  refine PE.imp h fun σ H Q q => ?_
  obtain ⟨τ, F, S, A, q⟩ := q
  unfold varE at q
  split at q
  · rename_i t e
    obtain ⟨o, h1, w, h2, r⟩ := A.slot e
    subst h2
    exact ⟨w, h1, q H F (Same.refl F) w (A.pushSh r)⟩
  · rename_i t e
    obtain ⟨F', s, A'⟩ := A.freeze e
    have hi : i < S.lo.length := (List.getElem?_eq_some_iff.mp e).1
    obtain ⟨o, h1, w, h2, r⟩ := A'.slot (i := i) (s := .sh t) (by show (S.lo.set i _)[i]? = _; rw [List.getElem?_set_self hi])
    subst h2
    exact ⟨w, h1, q H F' s w (A'.pushSh r)⟩
  · exact q.elim
theorem Abs.release {g : Ga} {H0 : Bs} {F H : Hp} {S : PS0} {ρ : List (Option V)} {t : T} {i : Nat} (A : Abs g H0 F S ρ H) (h : S.sl[i]? = some (.ow t)) : ∃ o, ρ[i]? = some o ∧ Abs g H0 F ((S.put i .no).push (.ow t)) (ρ ++ [o]) H := by
  have hi : i < S.sl.length := (List.getElem?_eq_some_iff.mp h).1
  have hr : i < ρ.length := A.len ▸ hi
  have e0 : ρ[i]? = some ρ[i] := List.getElem?_eq_getElem hr
  refine ⟨ρ[i], e0, A.fh, A.fn, A.nib, A.keep, A.fre, by simp [PS0.put, PS0.push, A.len], fun j s q h1 h2 => ?_, fun j k t1 t2 b h1 h2 h3 h4 => ?_⟩
  · rcases getE_snoc h1 with ⟨l1, e1⟩ | ⟨l1, e1⟩
    · have l2 : j < ρ.length := by simp [PS0.put] at l1; rw [← A.len]; exact l1
      rw [getE_snoc_lt l2] at h2
      by_cases hj : i = j
      · subst hj
        rw [show (S.put i .no).sl = S.sl.set i .no from rfl, List.getElem?_set_self hi] at e1
        cases e1
        trivial
      · rw [show (S.put i .no).sl = S.sl.set i .no from rfl, List.getElem?_set_ne hj] at e1
        exact A.sl j s q e1 h2
    · subst e1
      subst l1
      rw [show (S.put i Slot.no).sl.length = ρ.length by simp [PS0.put, A.len], getE_snoc_last] at h2
      cases h2
      exact A.sl i _ _ h e0
  · have back : ∀ (j : Nat) (t1 : T), ((S.put i .no).push (.ow t)).sl[j]? = some (.ow t1) → (ρ ++ [ρ[i]])[j]? = some (some (.ref b)) →
        ∃ (j' : Nat) (t' : T), S.sl[j']? = some (.ow t') ∧ ρ[j']? = some (some (.ref b)) ∧ (j = if j' = i then S.sl.length else j') := fun j t1 h1 h3 => by
      rcases getE_snoc h1 with ⟨l1, e1⟩ | ⟨l1, e1⟩
      · have l2 : j < ρ.length := by simp [PS0.put] at l1; rw [← A.len]; exact l1
        rw [getE_snoc_lt l2] at h3
        by_cases hj : i = j
        · subst hj
          rw [show (S.put i .no).sl = S.sl.set i .no from rfl, List.getElem?_set_self hi] at e1
          cases e1
        · rw [show (S.put i .no).sl = S.sl.set i .no from rfl, List.getElem?_set_ne hj] at e1
          exact ⟨j, t1, e1, h3, by rw [if_neg (Ne.symm hj)]⟩
      · subst l1
        rw [show (S.put i Slot.no).sl.length = ρ.length by simp [PS0.put, A.len], getE_snoc_last] at h3
        exact ⟨i, t, h, e0.trans h3, by simp [PS0.put]⟩
    obtain ⟨j', _, p1, p2, p3⟩ := back j t1 h1 h3
    obtain ⟨k', _, q1, q2, q3⟩ := back k t2 h2 h4
    have := A.ds j' k' _ _ b p1 q1 p2 q2
    rw [p3, q3, this]
theorem de_varR {i : Nat} {x : Str} (h : PE X (.Name x pos) (tVar i)) : PE X (.Name x pos) (rdE c (varR i)) := by
  refine PE.imp h fun σ H Q q => ?_
  obtain ⟨τ, F, S, A, q⟩ := q
  unfold varR at q
  split at q
  · rename_i t e
    obtain ⟨o, h1, w, h2, r⟩ := A.slot e
    subst h2
    exact ⟨w, h1, q H F (Same.refl F) w (A.pushSh r)⟩
  · rename_i t e
    obtain ⟨o, h1, w, h2, r⟩ := A.slot e
    subst h2
    have hi : i < S.lo.length := (List.getElem?_eq_some_iff.mp e).1
    obtain ⟨o, h3, A'⟩ := A.a.release (i := i) (t := t) (by show (S.lo ++ S.gh)[i]? = _; rw [List.getElem?_append_left hi]; exact e)
    rw [List.getElem?_append_left (A.l ▸ hi), h1] at h3
    cases h3
    exact ⟨_, h1, q H F (Same.refl F) _ (.mk' (by rw [Sta.z_put hi]; exact A') (by simp [Sta.put, A.l]))⟩
  · exact q.elim
theorem de_con {v : V} {t : T} (h : PE X e (tC v)) (r : ∀ F, Rep c.g F v t) : PE X e (rdE c (con t)) := by
  refine PE.imp h fun σ H Q q => ?_
  obtain ⟨τ, F, S, A, q⟩ := q
  exact q H F (Same.refl F) v (A.pushSh (r F))
theorem do_of {f : EF} (h : PE X e (rdE c f)) : PE X e (rdO c (opE f)) := by
  refine PE.imp h fun σ H Q q => ?_
  obtain ⟨τ, F, S, A, q⟩ := q
  refine ⟨τ, F, S, A, rOut.bind q fun x S1 F1 H1 s1 q1 v A1 => ?_⟩
  split at q1
  · rename_i t e
    obtain ⟨F2, s2, A2⟩ := A1.shTop e
    exact q1 H1 F2 s2 v A2.pop A2.topSh
  · exact q1.elim

/-! ### argument lists -/
def nilA : AF := fun S => .ok [] S
def consA (f : OF) (r : AF) : AF := fun S => (f S).bind fun o S1 => (r S1).bind fun os S2 => .ok (o :: os) S2
theorem da_nil : PA X [] (rdA c nilA) := by
  refine PA.imp pa_nil fun σ H Q q => ?_
  obtain ⟨τ, F, S, A, q⟩ := q
  exact q H F (Same.refl F) [] A .nil
theorem da_cons {f : OF} {r : AF} (h : PE X e (rdO c f)) (hr : PA X es (rdA c r)) (hs : starEach (e :: es) X.env = (false, eval e X.env) :: starEach es X.env := by rfl) : PA X (e :: es) (rdA c (consA f r)) := by
  refine PA.imp (pa_cons h hr hs) fun σ H Q q => ?_
  obtain ⟨τ, F, S, A, q⟩ := q
  refine ⟨τ, F, S, A, rOut.bind q fun o S1 F1 H1 s1 q1 v A1 r1 => ⟨τ, F1, S1, A1, rOut.bind q1 fun os S2 F2 H2 s2 q2 vs A2 r2 => ?_⟩⟩
  exact q2 H2 F2 (Same.refl F2) (v :: vs) A2 (.cons (r1.mono s2) r2)

/-! ### operators -/
def Op2 (c : Cfg) (r : R2) (p : T → T → Option Slot) : Prop := ∀ (F : Hp) (S : Sta) (σ τ : List (Option V)) (H : Hp) (x y : V) (t u : T) (z : Slot) (Q : VK), AbsX c F S σ τ H → PRep c.g F H x t → PRep c.g F H y u → p t u = some z →
  (∀ v H' F', Same F F' → AbsX c F' (S.push z) σ (τ ++ [some v]) H' → Q v H') → r x y H Q
def Op1 (c : Cfg) (r : V → Hp → VK → Prop) (p : T → Option Slot) : Prop := ∀ (F : Hp) (S : Sta) (σ τ : List (Option V)) (H : Hp) (x : V) (t : T) (z : Slot) (Q : VK), AbsX c F S σ τ H → PRep c.g F H x t → p t = some z →
  (∀ v H' F', Same F F' → AbsX c F' (S.push z) σ (τ ++ [some v]) H' → Q v H') → r x H Q
def OpN (c : Cfg) (r : List V → Hp → VK → Prop) (p : List T → Option Slot) : Prop := ∀ (F : Hp) (S : Sta) (σ τ : List (Option V)) (H : Hp) (xs : List V) (ts : List T) (z : Slot) (Q : VK), AbsX c F S σ τ H → PRepAll c.g F H xs ts → p ts = some z →
  (∀ v H' F', Same F F' → AbsX c F' (S.push z) σ (τ ++ [some v]) H' → Q v H') → r xs H Q
def res (z : Option Slot) (S : Sta) : R Slot := match z with
  | some z => .ok z S
  | none => .stuck
def op2 (p : T → T → Option Slot) (a b : OF) : EF := fun S => (a S).bind fun o S1 => (b S1).bind fun o' S2 => match o.get S2, o'.get S2 with
  | some t, some u => res (p t u) S2
  | _, _ => .stuck
def op1 (p : T → Option Slot) (a : OF) : EF := fun S => (a S).bind fun o S1 => match o.get S1 with
  | some t => res (p t) S1
  | _ => .stuck
def opN (p : List T → Option Slot) (a : AF) : EF := fun S => (a S).bind fun os S1 => match gets S1 os with
  | some ts => res (p ts) S1
  | _ => .stuck
theorem op2_out {r : R2} {p : T → T → Option Slot} {fa fb : OF} (hp : Op2 c r p) {σ : List (Option V)} {H : Hp} {Q : VK} (h : rdE c (op2 p fa fb) σ H Q) : tOp r (rdO c fa) (rdO c fb) σ H Q := by
  obtain ⟨τ, F, S, A, q⟩ := h
  refine ⟨τ, F, S, A, rOut.bind q fun o S1 F1 H1 s1 q1 v A1 r1 => ⟨τ, F1, S1, A1, rOut.bind q1 fun o2 S2 F2 H2 s2 q2 w A2 r2 => ?_⟩⟩
  cases e1 : o.get S2 with
  | none => simp only [e1] at q2; exact q2.elim
  | some t =>
    cases e2 : o2.get S2 with
    | none => simp only [e1, e2] at q2; exact q2.elim
    | some u =>
      simp only [e1, e2] at q2
      unfold res at q2
      split at q2
      · rename_i z hz
        exact hp F2 S2 σ τ H2 v w t u z Q A2 (A2.opd (r1.mono s2) e1) (A2.opd r2 e2) hz fun v' H' F' s' A' => q2 H' F' s' v' A'
      · exact q2.elim
theorem op1_out {r : V → Hp → VK → Prop} {p : T → Option Slot} {fa : OF} (hp : Op1 c r p) {σ : List (Option V)} {H : Hp} {Q : VK} (h : rdE c (op1 p fa) σ H Q) : rdO c fa σ H fun x H1 => r x H1 Q := by
  obtain ⟨τ, F, S, A, q⟩ := h
  refine ⟨τ, F, S, A, rOut.bind q fun o S1 F1 H1 s1 q1 v A1 r1 => ?_⟩
  cases e1 : o.get S1 with
  | none => simp only [e1] at q1; exact q1.elim
  | some t =>
    simp only [e1] at q1
    unfold res at q1
    split at q1
    · rename_i z hz
      exact hp F1 S1 σ τ H1 v t z Q A1 (A1.opd r1 e1) hz fun v' H' F' s' A' => q1 H' F' s' v' A'
    · exact q1.elim
theorem opN_out {r : List V → Hp → VK → Prop} {p : List T → Option Slot} {fa : AF} (hp : OpN c r p) {σ : List (Option V)} {H : Hp} {Q : VK} (h : rdE c (opN p fa) σ H Q) : rdA c fa σ H fun x H1 => r x H1 Q := by
  obtain ⟨τ, F, S, A, q⟩ := h
  refine ⟨τ, F, S, A, rOut.bind q fun o S1 F1 H1 s1 q1 v A1 r1 => ?_⟩
  cases e1 : gets S1 o with
  | none => simp only [e1] at q1; exact q1.elim
  | some t =>
    simp only [e1] at q1
    unfold res at q1
    split at q1
    · rename_i z hz
      exact hp F1 S1 σ τ H1 v t z Q A1 (A1.opds r1 e1) hz fun v' H' F' s' A' => q1 H' F' s' v' A'
    · exact q1.elim
theorem de_bin {op : Operator} {r : R2} {p : T → T → Option Slot} {fa fb : OF} (ho : OpR X (binaryOp op) r) (hp : Op2 c r p) (ha : PE X a (rdO c fa)) (hb : PE X b (rdO c fb)) : PE X (.BinOp a op b pos) (rdE c (op2 p fa fb)) :=
  PE.imp (pe_op ho ha hb) fun _ _ _ q => op2_out hp q
theorem de_un {op : UnaryOp} {r : V → Hp → VK → Prop} {p : T → Option Slot} {fa : OF} (ho : UnR X (unaryOp op) r) (hp : Op1 c r p) (ha : PE X a (rdO c fa)) : PE X (.UnaryOp op a pos) (rdE c (op1 p fa)) :=
  PE.imp (pe_un ho ha) fun _ _ _ q => op1_out hp q
theorem de_cmp {op : CmpOp} {r : R2} {p : T → T → Option Slot} {fa fb : OF} (ho : OpR X (compareOp op) r) (hp : Op2 c r p) (ha : PE X a (rdO c fa)) (hb : PE X b (rdO c fb)) (hm : behindInMarks op b = false) : PE X (.Compare a [op] [b] pos) (rdE c (op2 p fa fb)) :=
  PE.imp (pe_cmpR ho ha hb hm) fun _ _ _ q => op2_out hp q
/-- a value as a test -/
def tst (f : EF) : TF := fun S => (f S).bind fun x S1 => match x with
  | .sh (.bl b) => .ok b S1
  | _ => .stuck
theorem tst_out {f : EF} {σ : List (Option V)} {H : Hp} {Q : Bool → Hp → Prop} (h : rdT c (tst f) σ H Q) : rdE c f σ H fun x H1 => ∃ k, x = .bl k ∧ Q k H1 := by
  obtain ⟨τ, F, S, A, q⟩ := h
  refine ⟨τ, F, S, A, rOut.bind q fun x S1 F1 H1 s1 q1 v A1 => ?_⟩
  split at q1
  · have r := A1.topSh
    cases r
    exact ⟨_, rfl, q1 H1 F1 (Same.refl F1) A1.pop⟩
  · exact q1.elim
theorem dt_cmp {op : CmpOp} {r : R2} {p : T → T → Option Slot} {fa fb : OF} (ho : OpR X (compareOp op) r) (hp : Op2 c r p) (ha : PE X a (rdO c fa)) (hb : PE X b (rdO c fb)) (hm : behindInMarks op b = false) : PT X (.Compare a [op] [b] pos) (rdT c (tst (op2 p fa fb))) :=
  PT.imp (pt_cmpR ho ha hb hm) fun _ _ _ q => op2_out hp (tst_out q)
theorem dt_val {f : EF} (h : PE X e (rdE c f)) (he : ∀ whole, isTrue e X.env whole = (do let v ← whole; standAt e.pos; holding [v] (truthy v)) := by intro _; rfl) : PT X e (rdT c (tst f)) :=
  PT.imp (pt_val h he) fun _ _ _ q => tst_out q
/-- a op b op' c -/
def chn (p p' : T → T → Option Slot) (fa fb fc : OF) : EF := fun S => (fa S).bind fun o S1 => (fb S1).bind fun o' S2 => match o.get S2, o'.get S2 with
  | some t, some u => match p t u with
    | some (.sh (.bl true)) => (fc S2).bind fun o'' S3 => match o'.get S3, o''.get S3 with
      | some u, some w => res (p' u w) S3
      | _, _ => .stuck
    | some (.sh (.bl false)) => .ok (.sh (.bl false)) S2
    | _ => .stuck
  | _, _ => .stuck
theorem chn_out {r r' : R2} {p p' : T → T → Option Slot} {fa fb fc : OF} (hp : Op2 c r p) (hp' : Op2 c r' p') {σ : List (Option V)} {H : Hp} {Q : VK} (h : rdE c (chn p p' fa fb fc) σ H Q) : tChain r r' (rdO c fa) (rdO c fb) (rdO c fc) σ H Q := by
  obtain ⟨τ, F, S, A, q⟩ := h
  refine ⟨τ, F, S, A, rOut.bind q fun o S1 F1 H1 s1 q1 v A1 r1 => ⟨τ, F1, S1, A1, rOut.bind q1 fun o2 S2 F2 H2 s2 q2 w A2 r2 => ?_⟩⟩
  cases e1 : o.get S2 with
  | none => simp only [e1] at q2; exact q2.elim
  | some t =>
    cases e2 : o2.get S2 with
    | none => simp only [e1, e2] at q2; exact q2.elim
    | some u =>
      simp only [e1, e2] at q2
      split at q2
      · rename_i hz
        refine hp F2 S2 σ τ H2 v w t u _ _ A2 (A2.opd (r1.mono s2) e1) (A2.opd r2 e2) hz fun v' H' F' s' A' => ?_
        have rr := A'.topSh
        cases rr
        refine ⟨true, rfl, ?_⟩
        rw [if_pos rfl]
        refine ⟨τ, F', S2, A'.pop, rOut.bind (q2.mono s') fun o3 S3 F3 H3 s3 q3 y A3 r3 => ?_⟩
        cases e3 : o2.get S3 with
        | none => simp only [e3] at q3; exact q3.elim
        | some u' =>
          cases e4 : o3.get S3 with
          | none => simp only [e3, e4] at q3; exact q3.elim
          | some w' =>
            simp only [e3, e4] at q3
            unfold res at q3
            split at q3
            · rename_i z hz
              exact hp' F3 S3 σ τ H3 w y u' w' z Q A3 (A3.opd ((r2.mono s').mono s3) e3) (A3.opd r3 e4) hz fun v' H' F' s' A' => q3 H' F' s' v' A'
            · exact q3.elim
      · rename_i hz
        refine hp F2 S2 σ τ H2 v w t u _ _ A2 (A2.opd (r1.mono s2) e1) (A2.opd r2 e2) hz fun v' H' F' s' A' => ?_
        have rr := A'.topSh
        cases rr
        exact ⟨false, rfl, by rw [if_neg Bool.false_ne_true]; exact q2 H' F' s' _ A'⟩
      · exact q2.elim
variable {b' : Expr}
theorem de_chn {op op' : CmpOp} {r r' : R2} {p p' : T → T → Option Slot} {fa fb fc : OF} {d : Expr} (ho : OpR X (compareOp op) r) (ho' : OpR X (compareOp op') r') (hp : Op2 c r p) (hp' : Op2 c r' p') (ha : PE X a (rdO c fa)) (hb : PE X b (rdO c fb)) (hc : PE X d (rdO c fc))
    (hm : lastMarks [op, op'] [b, d] = false := by with_unfolding_all rfl) : PE X (.Compare a [op, op'] [b, d] pos) (rdE c (chn p p' fa fb fc)) :=
  PE.imp (pe_chain ho ho' ha hb hc hm) fun _ _ _ q => chn_out hp hp' q
theorem dt_chn {op op' : CmpOp} {r r' : R2} {p p' : T → T → Option Slot} {fa fb fc : OF} {d : Expr} (ho : OpR X (compareOp op) r) (ho' : OpR X (compareOp op') r') (hp : Op2 c r p) (hp' : Op2 c r' p') (ha : PE X a (rdO c fa)) (hb : PE X b (rdO c fb)) (hc : PE X d (rdO c fc))
    (hm : lastMarks [op, op'] [b, d] = false := by with_unfolding_all rfl) : PT X (.Compare a [op, op'] [b, d] pos) (rdT c (tst (chn p p' fa fb fc))) :=
  PT.imp (pt_chain ho ho' ha hb hc hm) fun _ _ _ q => chn_out hp hp' (tst_out q)

/-! ### and, or, not, if -/
def andT (a b : TF) : TF := fun S => (a S).bind fun k S1 => if k = true then b S1 else .ok false S1
def orT (a b : TF) : TF := fun S => (a S).bind fun k S1 => if k = true then .ok true S1 else b S1
def notT (a : TF) : TF := fun S => (a S).bind fun k S1 => .ok (!k) S1
def bV (a : TF) : EF := fun S => (a S).bind fun k S1 => .ok (.sh (.bl k)) S1
def andE (a b : EF) : EF := fun S => (a S).bind fun x S1 => match x with
  | .sh (.bl true) => b S1
  | .sh (.bl false) => .ok (.sh (.bl false)) S1
  | _ => .stuck
def orE (a b : EF) : EF := fun S => (a S).bind fun x S1 => match x with
  | .sh (.bl false) => b S1
  | .sh (.bl true) => .ok (.sh (.bl true)) S1
  | _ => .stuck
def notE (a : EF) : EF := fun S => (a S).bind fun x S1 => match x with
  | .sh (.bl k) => .ok (.sh (.bl (!k))) S1
  | _ => .stuck
def ite3 (t : TF) (a b : EF) : EF := fun S => (t S).bind fun k S1 => if k = true then a S1 else b S1
variable {rest : List Expr}
theorem dw_and1 {fa : TF} (ha : PT X a (rdT c fa)) : PW X (.BoolOp .And [a] pos) (rdT c fa) := pw_and1 ha
theorem dw_or1 {fa : TF} (ha : PT X a (rdT c fa)) : PW X (.BoolOp .Or [a] pos) (rdT c fa) := pw_or1 ha
theorem dw_and {fa fb : TF} (ha : PT X a (rdT c fa)) (hb : PW X (.BoolOp .And (b :: rest) pos) (rdT c fb)) : PW X (.BoolOp .And (a :: b :: rest) pos) (rdT c (andT fa fb)) := by
  refine PW.imp (pw_and ha hb) fun σ H Q q => ?_
  obtain ⟨τ, F, S, A, q⟩ := q
  refine ⟨τ, F, S, A, rOut.bind q fun k S1 F1 H1 s1 q1 A1 => ?_⟩
  cases k with
  | true => exact ⟨τ, F1, S1, A1, q1⟩
  | false => exact q1 H1 F1 (Same.refl F1) A1
theorem dw_or {fa fb : TF} (ha : PT X a (rdT c fa)) (hb : PW X (.BoolOp .Or (b :: rest) pos) (rdT c fb)) : PW X (.BoolOp .Or (a :: b :: rest) pos) (rdT c (orT fa fb)) := by
  refine PW.imp (pw_or ha hb) fun σ H Q q => ?_
  obtain ⟨τ, F, S, A, q⟩ := q
  refine ⟨τ, F, S, A, rOut.bind q fun k S1 F1 H1 s1 q1 A1 => ?_⟩
  cases k with
  | false => exact ⟨τ, F1, S1, A1, q1⟩
  | true => exact q1 H1 F1 (Same.refl F1) A1
theorem dt_not {fa : TF} (ha : PT X a (rdT c fa)) : PT X (.UnaryOp .Not a pos) (rdT c (notT fa)) := by
  refine PT.imp (pt_not ha) fun σ H Q q => ?_
  obtain ⟨τ, F, S, A, q⟩ := q
  exact ⟨τ, F, S, A, rOut.bind q fun k S1 F1 H1 s1 q1 A1 => q1 H1 F1 (Same.refl F1) A1⟩
theorem de_one {op : BoolOp} {fa : EF} (ha : PE X a (rdE c fa)) : PE X (.BoolOp op [a] pos) (rdE c fa) := pe_one ha
theorem de_and {fa fb : EF} (ha : PE X a (rdE c fa)) (hb : PE X (.BoolOp .And (b :: rest) pos) (rdE c fb)) : PE X (.BoolOp .And (a :: b :: rest) pos) (rdE c (andE fa fb)) := by
  refine PE.imp (pe_and ha hb) fun σ H Q q => ?_
  obtain ⟨τ, F, S, A, q⟩ := q
  refine ⟨τ, F, S, A, rOut.bind q fun x S1 F1 H1 s1 q1 v A1 => ?_⟩
  split at q1
  · have r := A1.topSh
    cases r
    exact ⟨true, rfl, by rw [if_pos rfl]; exact ⟨τ, F1, S1, A1.pop, q1⟩⟩
  · have r := A1.topSh
    cases r
    exact ⟨false, rfl, by rw [if_neg Bool.false_ne_true]; exact q1 H1 F1 (Same.refl F1) _ A1⟩
  · exact q1.elim
theorem de_or {fa fb : EF} (ha : PE X a (rdE c fa)) (hb : PE X (.BoolOp .Or (b :: rest) pos) (rdE c fb)) : PE X (.BoolOp .Or (a :: b :: rest) pos) (rdE c (orE fa fb)) := by
  refine PE.imp (pe_or ha hb) fun σ H Q q => ?_
  obtain ⟨τ, F, S, A, q⟩ := q
  refine ⟨τ, F, S, A, rOut.bind q fun x S1 F1 H1 s1 q1 v A1 => ?_⟩
  split at q1
  · have r := A1.topSh
    cases r
    exact ⟨false, rfl, by rw [if_neg Bool.false_ne_true]; exact ⟨τ, F1, S1, A1.pop, q1⟩⟩
  · have r := A1.topSh
    cases r
    exact ⟨true, rfl, by rw [if_pos rfl]; exact q1 H1 F1 (Same.refl F1) _ A1⟩
  · exact q1.elim
theorem de_not {fa : EF} (ha : PE X a (rdE c fa)) : PE X (.UnaryOp .Not a pos) (rdE c (notE fa)) := by
  refine PE.imp (pe_not ha) fun σ H Q q => ?_
  obtain ⟨τ, F, S, A, q⟩ := q
  refine ⟨τ, F, S, A, rOut.bind q fun x S1 F1 H1 s1 q1 v A1 => ?_⟩
  split at q1
  · have r := A1.topSh
    cases r
    exact ⟨_, rfl, q1 H1 F1 (Same.refl F1) _ (A1.pop.pushSh (.bl _))⟩
  · exact q1.elim
theorem de_if {d : Expr} {ft : TF} {fa fb : EF} (hc : PT X d (rdT c ft)) (ha : PE X a (rdE c fa)) (hb : PE X b (rdE c fb)) : PE X (.IfExp d a b pos) (rdE c (ite3 ft fa fb)) := by
  refine PE.imp (pe_ifExp hc ha hb) fun σ H Q q => ?_
  obtain ⟨τ, F, S, A, q⟩ := q
  refine ⟨τ, F, S, A, rOut.bind q fun k S1 F1 H1 s1 q1 A1 => ?_⟩
  cases k with
  | true => exact ⟨τ, F1, S1, A1, q1⟩
  | false => exact ⟨τ, F1, S1, A1, q1⟩

/-! ### displays -/
def vals : List Opd → Option (List T)
  | [] => some []
  | .val t :: os => (vals os).map (t :: ·)
  | .pl _ :: _ => none
theorem OpdAll.vals {F : Hp} {σ : List (Option V)} : ∀ {os : List Opd} {vs : List V} {ts : List T}, OpdAll c.g F σ os vs → TL.vals os = some ts → RepAll c.g F vs ts
  | _, _, _, .nil, e => by cases e; exact .nil
  | .val t :: os, _, _, .cons a b, e => by
    cases q : TL.vals os with
    | none => simp [TL.vals, q] at e
    | some us =>
      simp [TL.vals, q] at e
      subst e
      exact .cons a (OpdAll.vals b q)
  | .pl _ :: _, _, _, .cons a b, e => by cases e
def lstF (a : AF) : EF := fun S => (a S).bind fun os S1 => match vals os with
  | some ts => if ts.length ≤ sz then .ok (.ow (.lst ts)) S1 else .stuck
  | none => .stuck
def tupF (a : AF) : EF := fun S => (a S).bind fun os S1 => match vals os with
  | some ts => if ts.length ≤ sz then .ok (.sh (.tup ts)) S1 else .stuck
  | none => .stuck
theorem de_lst {f : AF} (h : PA X es (rdA c f)) : PE X (.List es pos) (rdE c (lstF f)) := by
  refine PE.imp (pe_lst h) fun σ H Q q => ?_
  obtain ⟨τ, F, S, A, q⟩ := q
  refine ⟨τ, F, S, A, rOut.bind q fun os S1 F1 H1 s1 q1 vs A1 r1 => ?_⟩
  split at q1
  · rename_i ts e
    split at q1
    · rename_i hl
      have r := r1.vals e
      refine ⟨by rw [r.length, ← sz_eq]; exact hl, fun p np => q1 _ F1 (Same.refl F1) _ (A1.newOw (.lst r) np)⟩
    · exact q1.elim
  · exact q1.elim
theorem de_tup {x1 : Nat} {f : AF} (h : PA X es (rdA c f)) : PE X (.Tuple es x1 pos) (rdE c (tupF f)) := by
  refine PE.imp (pe_tupF h) fun σ H Q q => ?_
  obtain ⟨τ, F, S, A, q⟩ := q
  refine ⟨τ, F, S, A, rOut.bind q fun os S1 F1 H1 s1 q1 vs A1 r1 => ?_⟩
  split at q1
  · rename_i ts e
    split at q1
    · rename_i hl
      have r := r1.vals e
      refine ⟨by rw [r.length, ← sz_eq]; exact hl, fun p o np hd => ?_⟩
      obtain ⟨F2, s2, A2⟩ := A1.newTup r np hd
      exact q1 _ F2 s2 _ A2
    · exact q1.elim
  · exact q1.elim

/-! ### subscripts, slices -/
theorem de_ix {r : R2} {p : T → T → Option Slot} {fa fb : OF} (hr : IxR X r) (hp : Op2 c r p) (ha : PE X a (rdO c fa)) (hb : PE X b (rdO c fb)) (hs : PlainIx b) : PE X (.Subscript a b pos) (rdE c (op2 p fa fb)) :=
  PE.imp (pe_ix hr ha hb hs) fun _ _ _ q => op2_out hp q
abbrev BF := Sta → R (Option Int)
def noB : BF := fun S => .ok none S
def someB (f : OF) : BF := fun S => (f S).bind fun o S1 => match o with
  | .val (.int i) => .ok (some i) S1
  | _ => .stuck
def bP (c : Cfg) (σ τ : List (Option V)) (Q : Option Int → Hp → Prop) : Option Int → Sta → Hp → Hp → Prop := fun b S F' H' => AbsX c F' S σ τ H' → Q b H'
def rdB (c : Cfg) (f : BF) : TO := fun σ H Q => ∃ τ F S, AbsX c F S σ τ H ∧ rOut c F σ τ (bP c σ τ Q) (f S)
theorem PO.imp {X : Cx} {e : Option Expr} {t t' : TO} (h : PO X e t) (w : ∀ σ H Q, t' σ H Q → t σ H Q) : PO X e t' := ⟨fun pins s σ H Q I q => h.run pins s σ H Q I (w σ H Q q)⟩
theorem db_none : PO X none (rdB c noB) := by
  refine PO.imp po_none fun σ H Q q => ?_
  obtain ⟨τ, F, S, A, q⟩ := q
  exact q H F (Same.refl F) A
theorem db_some {f : OF} (h : PE X e (rdO c f)) : PO X (some e) (rdB c (someB f)) := by
  refine PO.imp (po_some h) fun σ H Q q => ?_
  obtain ⟨τ, F, S, A, q⟩ := q
  refine ⟨τ, F, S, A, rOut.bind q fun o S1 F1 H1 s1 q1 v A1 r1 => ?_⟩
  split at q1
  · cases r1
    exact ⟨_, rfl, q1 H1 F1 (Same.refl F1) A1⟩
  · exact q1.elim
def slF (p : T → Option Int → Option Int → Option Slot) (fa : OF) (lo hi : BF) : EF := fun S => (fa S).bind fun o S1 => (lo S1).bind fun l S2 => (hi S2).bind fun u S3 => match o.get S3 with
  | some t => res (p t l u) S3
  | none => .stuck
def OpS (c : Cfg) (r : V → Option Int → Option Int → Hp → VK → Prop) (p : T → Option Int → Option Int → Option Slot) : Prop := ∀ (F : Hp) (S : Sta) (σ τ : List (Option V)) (H : Hp) (x : V) (l u : Option Int) (t : T) (z : Slot) (Q : VK), AbsX c F S σ τ H → PRep c.g F H x t → p t l u = some z →
  (∀ v H' F', Same F F' → AbsX c F' (S.push z) σ (τ ++ [some v]) H' → Q v H') → r x l u H Q
theorem de_sl {r : V → Option Int → Option Int → Hp → VK → Prop} {p : T → Option Int → Option Int → Option Slot} {fa : OF} {fl fh : BF} {lo hi : Option Expr} {p2 : Pos} (hr : SlR X r) (hp : OpS c r p) (ha : PE X a (rdO c fa)) (hl : PO X lo (rdB c fl)) (hh : PO X hi (rdB c fh)) :
    PE X (.Subscript a (.Slice lo hi none p2) pos) (rdE c (slF p fa fl fh)) := by
  refine PE.imp (pe_slice hr ha hl hh) fun σ H Q q => ?_
  obtain ⟨τ, F, S, A, q⟩ := q
  refine ⟨τ, F, S, A, rOut.bind q fun o S1 F1 H1 s1 q1 v A1 r1 => ⟨τ, F1, S1, A1, rOut.bind q1 fun l S2 F2 H2 s2 q2 A2 => ⟨τ, F2, S2, A2, rOut.bind q2 fun u S3 F3 H3 s3 q3 A3 => ?_⟩⟩⟩
  split at q3
  · rename_i t e
    unfold res at q3
    split at q3
    · rename_i z hz
      exact hp F3 S3 σ τ H3 v l u t z Q A3 (A3.opd ((r1.mono s2).mono s3) e) hz fun v' H' F' s' A' => q3 H' F' s' v' A'
    · exact q3.elim
  · exact q3.elim
end
end TL

end
section
set_option Elab.async false
set_option linter.all false
set_option maxRecDepth 100000
set_option autoImplicit false
/-! TL4: what the operators and the built-in functions answer -/
open PySem PySem.Spec PyProof.Rows L2
namespace TL
section
variable {g : Ga} {F H : Hp} {v : V}
theorem PRep.int {i : Int} (h : PRep g F H v (.int i)) : v = .int i := by
  rcases h with h | ⟨a, u, _, _, h⟩
  · cases h; rfl
  · cases h
theorem PRep.bl {i : Bool} (h : PRep g F H v (.bl i)) : v = .bl i := by
  rcases h with h | ⟨a, u, _, _, h⟩
  · cases h; rfl
  · cases h
theorem PRep.str {i : Str} (h : PRep g F H v (.str i)) : v = .str i := by
  rcases h with h | ⟨a, u, _, _, h⟩
  · cases h; rfl
  · cases h
theorem PRep.non (h : PRep g F H v .non) : v = .non := by
  rcases h with h | ⟨a, u, _, _, h⟩
  · cases h; rfl
  · cases h
theorem PRep.lst {ts : List T} (s : Same F H) (h : PRep g F H v (.lst ts)) : ∃ a vs, v = .ref a ∧ H a = some (.lst vs) ∧ RepAll g F vs ts := by
  rcases h with h | ⟨a, u, e, hu, h⟩
  · cases h with
    | lst e r => exact ⟨_, _, rfl, s _ _ e, r⟩
  · cases h with
    | lst r => exact ⟨a, _, e, hu, r⟩
theorem PRep.tup {ts : List T} (s : Same F H) (h : PRep g F H v (.tup ts)) : ∃ a vs, v = .ref a ∧ SqT g.K H a vs ∧ RepAll g F vs ts := by
  rcases h with h | ⟨a, u, e, hu, h⟩
  · cases h with
    | tup e r => exact ⟨_, _, rfl, sameSqT s e.sq, r⟩
  · cases h
theorem PRep.dic {ts : List (T × T)} (s : Same F H) (h : PRep g F H v (.dic ts)) : ∃ a vs, v = .ref a ∧ H a = some (.dK vs) ∧ RepKV g F vs ts := by
  rcases h with h | ⟨a, u, e, hu, h⟩
  · cases h with
    | dic e r => exact ⟨_, _, rfl, s _ _ e, r⟩
  · cases h with
    | dic r => exact ⟨a, _, e, hu, r⟩
end

/-! ### arithmetic -/
def addT : T → T → Option Slot
  | .int i, .int j => some (.sh (.int (i + j)))
  | .str a, .str b => if a.length + b.length ≤ sz then some (.sh (.str (a ++ b))) else none
  | .lst a, .lst b => if a.length + b.length ≤ sz then some (.ow (.lst (a ++ b))) else none
  | .tup a, .tup b => if a.length + b.length ≤ sz then some (.sh (.tup (a ++ b))) else none
  | _, _ => none
def subT : T → T → Option Slot
  | .int i, .int j => some (.sh (.int (i - j)))
  | _, _ => none
def mulT : T → T → Option Slot
  | .int i, .int j => if i.natAbs.log2 + j.natAbs.log2 < 134000000 then some (.sh (.int (i * j))) else none
  | .lst a, .int k => if -(2 ^ 63) ≤ k ∧ k < 2 ^ 63 ∧ a.length * k.toNat ≤ sz then some (.ow (.lst (List.replicate k.toNat a).flatten)) else none
  | _, _ => none
def fdivT : T → T → Option Slot
  | .int i, .int j => if 0 < j ∧ j.natAbs.log2 < 9000 then some (.sh (.int (i / j))) else none
  | _, _ => none
def modT : T → T → Option Slot
  | .int i, .int j => if 0 < j then some (.sh (.int (i % j))) else none
  | _, _ => none
def powT : T → T → Option Slot
  | .int i, .int j => if 0 ≤ j ∧ j ≤ 1000000 ∧ i.natAbs < 2 ^ 64 then some (.sh (.int (i ^ j.toNat))) else none
  | _, _ => none
def negT : T → Option Slot
  | .int i => some (.sh (.int (-i)))
  | _ => none
section
variable {X : Cx} {c : Cfg}
theorem fin_sh {F : Hp} {S : Sta} {σ τ : List (Option V)} {H : Hp} {t : T} {v : V} {Q : VK} (A : AbsX c F S σ τ H) (k : ∀ v H' F', Same F F' → AbsX c F' (S.push (.sh t)) σ (τ ++ [some v]) H' → Q v H') (r : Rep c.g F v t) : Q v H :=
  k v H F (Same.refl F) (A.pushSh r)
theorem fin_ow {F : Hp} {S : Sta} {σ τ : List (Option V)} {H : Hp} {t : T} {Q : VK} {u : HO} {p : Addr} (A : AbsX c F S σ τ H) (k : ∀ v H' F', Same F F' → AbsX c F' (S.push (.ow t)) σ (τ ++ [some v]) H' → Q v H') (m : Mk c.g F u t) (np : H p = none) : Q (.ref p) (upd H p u) :=
  k _ _ F (Same.refl F) (A.newOw m np)
theorem fin_tup {F : Hp} {S : Sta} {σ τ : List (Option V)} {H : Hp} {ts : List T} {vs : List V} {Q : VK} {p : Addr} (A : AbsX c F S σ τ H) (k : ∀ v H' F', Same F F' → AbsX c F' (S.push (.sh (.tup ts))) σ (τ ++ [some v]) H' → Q v H') {o : Obj} (m : RepAll c.g F vs ts) (np : H p = none) (hd : o.dict = none) : Q (.ref p) (upd H p (.frz o (.tup vs))) := by
  obtain ⟨F', s, A'⟩ := A.newTup m np hd
  exact k _ _ F' s A'
/-- the same tuple, asked for anew -/
theorem fin_tupE {F : Hp} {S : Sta} {σ τ : List (Option V)} {H : Hp} {ts : List T} {v : V} {Q : VK} (A : AbsX c F S σ τ H) (k : ∀ v H' F', Same F F' → AbsX c F' (S.push (.sh (.tup ts))) σ (τ ++ [some v]) H' → Q v H') (m : PRep c.g F H v (.tup ts)) : Q v H := by
  rcases m with m | ⟨a, u, _, _, m⟩
  · exact fin_sh A k m
  · cases m

/-- () + t -/
theorem op_catT0 : OpR X (binaryOp .Add) (fun x y H Q => ∃ a b ys, x = .ref a ∧ y = .ref b ∧ SqT X.K H a [] ∧ SqT X.K H b ys ∧ Q (.ref b) H) := by
  intro pins s σ H x y v u Q I rx ry h
  obtain ⟨a, b, ys, rfl, rfl, ha, hb, q⟩ := h
  cases rx
  cases ry
  obtain ⟨its, r1, p1, _⟩ := I.tuple ha
  obtain ⟨its2, r2, p2, _⟩ := I.tuple hb
  cases r1
  obtain ⟨⟨cls, dd, data, sl⟩, ho, hc, n, hd⟩ := id p1
  obtain ⟨⟨cls2, dd2, data2, sl2⟩, ho2, hc2, n2, hd2⟩ := id p2
  simp only at hc hd hc2 hd2
  subst hc hd hc2 hd2
  exact concat_meets ⟨_, ho, rfl⟩ ⟨_, ho2, rfl⟩ noFill_tuple_add seq_tuple_add PySem.F.slot_tuple_add PySem.F.entry_tuple_add (PySem.F.args_tuple_add_2 _ _)
    (tuple_addW0 a b _ its2.toArray n n2 dd dd2 sl sl2 (by simp)) ⟨ho, ho2, .ref b, H, I, rfl, q⟩
def rAddA (K : PySem.W.Frag) : R2 := fun x y H Q => (rI0 fun i j => .int (i + j)) x y H Q ∨ (∃ i j, x = .str i ∧ y = .str j ∧ i.length + j.length ≤ sizeLine ∧ Q (.str (i ++ j)) H) ∨ rCat x y H Q ∨ rCatTF K x y H Q ∨ ∃ a b ys, x = .ref a ∧ y = .ref b ∧ SqT K H a [] ∧ SqT K H b ys ∧ Q (.ref b) H
theorem op_addA : OpR X (binaryOp .Add) (rAddA X.K) := .or op_add (.or op_add_str (.or op_cat (.or op_catTF op_catT0)))
theorem p_add (hK : c.g.K = X.K) : Op2 c (rAddA X.K) addT := by
  intro F S σ τ H x y t u z Q A hx hy hz k
  unfold addT at hz
  split at hz
  · cases hz
    rw [hx.int, hy.int]
    exact .inl ⟨_, _, rfl, rfl, fin_sh A k (.int _)⟩
  · split at hz
    · cases hz
      rename_i hl
      rw [hx.str, hy.str]
      exact .inr (.inl ⟨_, _, rfl, rfl, by rw [← sz_eq]; exact hl, fin_sh A k (.str _)⟩)
    · cases hz
  · split at hz
    · cases hz
      rename_i hl
      obtain ⟨a, vs, rfl, h1, r1⟩ := hx.lst A.a.fh
      obtain ⟨b, ws, rfl, h2, r2⟩ := hy.lst A.a.fh
      exact .inr (.inr (.inl ⟨a, b, vs, ws, rfl, rfl, h1, h2, by rw [r1.length, r2.length, ← sz_eq]; exact hl, fun p np => fin_ow A k (.lst (r1.append r2)) np⟩))
    · cases hz
  · rename_i a' b'
    split at hz
    · cases hz
      rename_i hl
      obtain ⟨a, vs, rfl, h1, r1⟩ := hx.tup A.a.fh
      have hy' := hy
      obtain ⟨b, ws, rfl, h2, r2⟩ := hy.tup A.a.fh
      rw [hK] at h1 h2
      by_cases hv : vs = []
      · subst hv
        cases r1
        exact .inr (.inr (.inr (.inr ⟨a, b, ws, rfl, rfl, h1, h2, fin_tupE A k (by simpa using hy')⟩)))
      · refine .inr (.inr (.inr (.inl ⟨a, b, vs, ws, rfl, rfl, h1, h2, hv, by rw [r1.length, r2.length, ← sz_eq]; exact hl, fun e => ?_, fun _ p o np hd => fin_tup A k (r1.append r2) np hd⟩)))
        subst e
        cases r2
        exact fin_tupE A k (by simpa using hx)
    · cases hz
  · cases hz
theorem p_sub : Op2 c (rI0 fun i j => .int (i - j)) subT := by
  intro F S σ τ H x y t u z Q A hx hy hz k
  unfold subT at hz
  split at hz
  · cases hz
    rw [hx.int, hy.int]
    exact ⟨_, _, rfl, rfl, fin_sh A k (.int _)⟩
  · cases hz
def CMulB (i j : Int) : Prop := i.natAbs.log2 + j.natAbs.log2 < 134000000
theorem CMulB.ok {i j : Int} (h : CMulB i j) : IntMulOk i j := by
  unfold CMulB at h
  refine IntMulOk.of_le (m := i.natAbs.log2 + 1) (n := j.natAbs.log2 + 1) ?_ ?_ (by omega)
  · unfold Builtin.Int.intBits; split <;> omega
  · unfold Builtin.Int.intBits; split <;> omega
theorem op_mulB : OpR X (binaryOp .Mult) (rI CMulB fun i j => .int (i * j)) := opI fun _ _ _ _ _ _ _ hc q => mul_int q hc.ok
def rMulA : R2 := fun x y H Q => (rI CMulB fun i j => .int (i * j)) x y H Q ∨ rRep x y H Q
theorem op_mulA : OpR X (binaryOp .Mult) rMulA := .or op_mulB op_rep
theorem RepAll.rep {g : Ga} {F : Hp} {vs : List V} {ts : List T} (r : RepAll g F vs ts) : ∀ n : Nat, RepAll g F (List.replicate n vs).flatten (List.replicate n ts).flatten
  | 0 => .nil
  | n + 1 => by
    rw [List.replicate_succ, List.replicate_succ, List.flatten_cons, List.flatten_cons]
    exact r.append (RepAll.rep r n)
theorem p_mul : Op2 c rMulA mulT := by
  intro F S σ τ H x y t u z Q A hx hy hz k
  unfold mulT at hz
  split at hz
  · split at hz
    · cases hz
      rename_i hl
      rw [hx.int, hy.int]
      exact .inl ⟨_, _, rfl, rfl, hl, fin_sh A k (.int _)⟩
    · cases hz
  · split at hz
    · cases hz
      rename_i hl
      obtain ⟨a, vs, rfl, h1, r1⟩ := hx.lst A.a.fh
      rw [hy.int]
      exact .inr ⟨a, _, vs, rfl, rfl, h1, hl.1, hl.2.1, by rw [r1.length, ← sz_eq]; exact hl.2.2, fun p np => fin_ow A k (.lst (r1.rep _)) np⟩
    · cases hz
  · cases hz
theorem p_fdiv : Op2 c (rI CDivW fun i j => .int (i / j)) fdivT := by
  intro F S σ τ H x y t u z Q A hx hy hz k
  unfold fdivT at hz
  split at hz
  · split at hz
    · cases hz
      rename_i hl
      rw [hx.int, hy.int]
      exact ⟨_, _, rfl, rfl, hl, fin_sh A k (.int _)⟩
    · cases hz
  · cases hz
theorem p_mod : Op2 c (rI (fun _ j => 0 < j) fun i j => .int (i % j)) modT := by
  intro F S σ τ H x y t u z Q A hx hy hz k
  unfold modT at hz
  split at hz
  · split at hz
    · cases hz
      rename_i hl
      rw [hx.int, hy.int]
      exact ⟨_, _, rfl, rfl, hl, fin_sh A k (.int _)⟩
    · cases hz
  · cases hz
theorem p_pow : Op2 c (rI CPow fun i j => .int (i ^ j.toNat)) powT := by
  intro F S σ τ H x y t u z Q A hx hy hz k
  unfold powT at hz
  split at hz
  · split at hz
    · cases hz
      rename_i hl
      rw [hx.int, hy.int]
      exact ⟨_, _, rfl, rfl, hl, fin_sh A k (.int _)⟩
    · cases hz
  · cases hz
theorem p_neg : Op1 c (rU fun i => .int (-i)) negT := by
  intro F S σ τ H x t z Q A hx hz k
  unfold negT at hz
  split at hz
  · cases hz
    rw [hx.int]
    exact ⟨_, rfl, fin_sh A k (.int _)⟩
  · cases hz

/-! ### comparisons of ints -/
def cmpT (f : Int → Int → Bool) : T → T → Option Slot
  | .int i, .int j => some (.sh (.bl (f i j)))
  | _, _ => none
abbrev ltT : T → T → Option Slot := cmpT fun i j => decide (i < j)
abbrev leT : T → T → Option Slot := cmpT fun i j => decide (i ≤ j)
abbrev gtT : T → T → Option Slot := cmpT fun i j => decide (j < i)
abbrev geT : T → T → Option Slot := cmpT fun i j => decide (j ≤ i)
theorem p_cmp (f : Int → Int → Bool) : Op2 c (rI0 fun i j => .bl (f i j)) (cmpT f) := by
  intro F S σ τ H x y t u z Q A hx hy hz k
  unfold cmpT at hz
  split at hz
  · cases hz
    rw [hx.int, hy.int]
    exact ⟨_, _, rfl, rfl, fin_sh A k (.bl _)⟩
  · cases hz

/-! ### equality of data -/
mutual
def T.d : T → PyData
  | .non => .none
  | .bl b => .bool b
  | .int i => .int i
  | .str x => .str x
  | .lst xs => .list (T.dAll xs)
  | .tup xs => .tuple (T.dAll xs)
  | .wtp _ => .none
  | .dic _ => .none
  | .obj _ _ => .none
  | .nib => .none
def T.dAll : List T → List PyData
  | [] => []
  | x :: xs => T.d x :: T.dAll xs
end
mutual
/-- plain data of at most this depth -/
def T.okT : T → Nat → Bool
  | .non, _ => true
  | .bl _, _ => true
  | .int _, _ => true
  | .str x, _ => PyData.strOk x
  | .lst xs, n => match n with
    | 0 => false
    | n + 1 => T.okTs xs n
  | .tup xs, n => match n with
    | 0 => false
    | n + 1 => T.okTs xs n
  | .wtp _, _ => false
  | .dic _, _ => false
  | .obj _ _, _ => false
  | .nib, _ => false
def T.okTs : List T → Nat → Bool
  | [], _ => true
  | x :: xs, n => T.okT x n && T.okTs xs n
end
def T.okD (n : Nat) (t : T) : Bool := T.okT t n
def T.okAll (n : Nat) (ts : List T) : Bool := T.okTs ts n
mutual
theorem okD_dp {K : PySem.W.Frag} {nb : Addr} {ca : Nat → Addr} {F : Hp} : ∀ (t : T) (n : Nat) (v : V), T.okT t n = true → Rep ⟨K, nb, ca⟩ F v t → Dp K F v t.d
  | .non, _, _, _, r => by cases r; rw [T.d]; exact .non
  | .bl b, _, _, _, r => by cases r; rw [T.d]; exact .bl b
  | .int i, _, _, _, r => by cases r; rw [T.d]; exact .int i
  | .str x, _, _, _, r => by cases r; rw [T.d]; exact .str x
  | .lst xs, 0, _, e, r => by simp [T.okT] at e
  | .lst xs, n + 1, _, e, r => by
    simp only [T.okT] at e
    cases r with
    | lst h a => rw [T.d]; exact .lst (.inl (.inl h)) (okAll_dp xs n _ e a)
  | .tup xs, 0, _, e, r => by simp [T.okT] at e
  | .tup xs, n + 1, _, e, r => by
    simp only [T.okT] at e
    cases r with
    | tup h a => rw [T.d]; exact .tup h.sq (okAll_dp xs n _ e a)
  | .dic _, _, _, e, _ => by simp [T.okT] at e
  | .obj _ _, _, _, e, _ => by simp [T.okT] at e
  | .nib, _, _, e, _ => by simp [T.okT] at e
theorem okAll_dp {K : PySem.W.Frag} {nb : Addr} {ca : Nat → Addr} {F : Hp} : ∀ (ts : List T) (n : Nat) (vs : List V), T.okTs ts n = true → RepAll ⟨K, nb, ca⟩ F vs ts → DpAll K F vs (T.dAll ts)
  | [], _, _, _, r => by cases r; rw [T.dAll]; exact .nil
  | t :: ts, n, _, e, r => by
    rw [T.okTs, Bool.and_eq_true] at e
    cases r with
    | cons a b => rw [T.dAll]; exact .cons (okD_dp t n _ e.1 a) (okAll_dp ts n _ e.2 b)
end
mutual
theorem okD_lay : ∀ (t : T) (n : Nat), T.okT t n = true → t.d.canLay0 = true ∧ t.d.depth ≤ n
  | .non, _, _ => by rw [T.d]; simp [PyData.canLay0, PyData.depth]
  | .bl b, _, _ => by rw [T.d]; simp [PyData.canLay0, PyData.depth]
  | .int i, _, _ => by rw [T.d]; simp [PyData.canLay0, PyData.depth]
  | .str x, _, e => by rw [T.okT] at e; rw [T.d]; simp [PyData.canLay0, PyData.depth, e]
  | .lst xs, 0, e => by simp [T.okT] at e
  | .lst xs, n + 1, e => by
    simp only [T.okT] at e
    obtain ⟨h1, h2⟩ := okAll_lay xs n e
    rw [T.d]; simp only [PyData.canLay0, PyData.depth]; exact ⟨h1, by omega⟩
  | .tup xs, 0, e => by simp [T.okT] at e
  | .tup xs, n + 1, e => by
    simp only [T.okT] at e
    obtain ⟨h1, h2⟩ := okAll_lay xs n e
    rw [T.d]; simp only [PyData.canLay0, PyData.depth]; exact ⟨h1, by omega⟩
  | .dic _, _, e => by simp [T.okT] at e
  | .obj _ _, _, e => by simp [T.okT] at e
  | .nib, _, e => by simp [T.okT] at e
theorem okAll_lay : ∀ (ts : List T) (n : Nat), T.okTs ts n = true → PyData.canLayAll0 (T.dAll ts) = true ∧ PyData.depthAll (T.dAll ts) ≤ n
  | [], _, _ => by rw [T.dAll]; simp [PyData.canLayAll0, PyData.depthAll]
  | t :: ts, n, e => by
    rw [T.okTs, Bool.and_eq_true] at e
    obtain ⟨h1, h2⟩ := okD_lay t n e.1
    obtain ⟨h3, h4⟩ := okAll_lay ts n e.2
    rw [T.dAll]; simp only [PyData.canLayAll0, PyData.depthAll, h1, h3]
    exact ⟨rfl, by omega⟩
end
theorem Dp.same {K : PySem.W.Frag} {F H : Hp} (s : Same F H) {v : V} {d : PyData} (h : Dp K F v d) : Dp K H v d :=
  Dp.rec (motive_1 := fun v d _ => Dp K H v d) (motive_2 := fun vs ds _ => DpAll K H vs ds) .non .bl .int .str (fun e _ r => .lst (s.seq e) r) (fun e _ r => .tup (sameSqT s e) r) .nil (fun _ _ a b => .cons a b) h
theorem DpAll.same {K : PySem.W.Frag} {F H : Hp} (s : Same F H) : ∀ {v : List V} {d : List PyData}, DpAll K F v d → DpAll K H v d
  | _, _, .nil => .nil
  | _, _, .cons a b => .cons (Dp.same s a) (DpAll.same s b)
theorem PRep.dp {g : Ga} {F H : Hp} {v : V} {t : T} {n : Nat} (s : Same F H) (h : PRep g F H v t) (e : T.okD n t = true) : Dp g.K H v t.d := by
  rcases h with h | ⟨a, u, ev, hu, m⟩
  · exact Dp.same s (okD_dp (nb := g.nb) (ca := g.ca) t n v e h)
  · subst ev
    unfold T.okD at e
    cases m with
    | lst r =>
      cases n with
      | zero => simp [T.okT] at e
      | succ n =>
        simp only [T.okT] at e
        rw [T.d]
        exact .lst (.inl (.inl hu)) (DpAll.same s (okAll_dp (nb := g.nb) (ca := g.ca) _ n _ e r))
    | dic r => simp [T.okT] at e
    | obj r => simp [T.okT] at e
theorem okD_shaped {n : Nat} {t : T} (h : T.okD n t = true) (hn : n ≤ 64) : SeqAt.shaped t.d = true := by
  obtain ⟨h1, h2⟩ := okD_lay t n h
  show (t.d.canLay0 && decide (t.d.depth ≤ 64)) = true
  rw [h1, Bool.true_and]
  exact decide_eq_true (by omega)
def eqD (t u : T) : Bool := PyData.eqv t.d u.d
def eqT (t u : T) : Option Slot := if T.okD 60 t = true ∧ T.okD 60 u = true then some (.sh (.bl (eqD t u))) else none
def neT (t u : T) : Option Slot := if T.okD 60 t = true ∧ T.okD 60 u = true then some (.sh (.bl (!eqD t u))) else none
theorem p_eq (hK : c.g.K = X.K) : Op2 c (rEqD X.K) eqT := by
  intro F S σ τ H x y t u z Q A hx hy hz k
  unfold eqT at hz
  split at hz
  · rename_i h
    cases hz
    exact ⟨t.d, u.d, hK ▸ hx.dp A.a.fh h.1, hK ▸ hy.dp A.a.fh h.2, okD_shaped h.1 (by omega), okD_shaped h.2 (by omega), fin_sh A k (.bl _)⟩
  · cases hz
theorem p_ne (hK : c.g.K = X.K) : Op2 c (rNeD X.K) neT := by
  intro F S σ τ H x y t u z Q A hx hy hz k
  unfold neT at hz
  split at hz
  · rename_i h
    cases hz
    exact ⟨t.d, u.d, hK ▸ hx.dp A.a.fh h.1, hK ▸ hy.dp A.a.fh h.2, okD_shaped h.1 (by omega), okD_shaped h.2 (by omega), fin_sh A k (.bl _)⟩
  · cases hz

/-! ### in -/
def inT (neg : Bool) (t u : T) : Option Slot := match u with
  | .lst us => if T.okD 60 t = true ∧ T.okD 60 (.lst us) = true then some (.sh (.bl (neg != us.any fun y => eqD y t))) else none
  | .tup us => if T.okD 0 t = true ∧ T.okAll 0 us = true then some (.sh (.bl (neg != us.any fun y => eqD y t))) else none
  | _ => none
theorem any_dAll (d : PyData) : ∀ us : List T, ((T.dAll us).any fun z => PyData.eqv z d) = us.any fun y => PyData.eqv y.d d
  | [] => by rw [T.dAll]; rfl
  | u :: us => by rw [T.dAll, List.any_cons, List.any_cons, any_dAll d us]
theorem flat_of {g : Ga} {F : Hp} {v : V} {t : T} (h : T.okD 0 t = true) (r : Rep g F v t) : flatV v = true := by
  cases r <;> first | rfl | (simp [T.okD, T.okT] at h)
theorem flats_of {g : Ga} {F : Hp} : ∀ {vs : List V} {ts : List T}, T.okAll 0 ts = true → RepAll g F vs ts → vs.all flatV = true
  | _, _, _, .nil => rfl
  | _, _, h, .cons a b => by
    rw [T.okAll, T.okTs, Bool.and_eq_true] at h
    rw [List.all_cons, flat_of h.1 a, flats_of h.2 b]; rfl
theorem eqV_d {g : Ga} {F : Hp} {v w : V} {t u : T} (h1 : T.okD 0 t = true) (h2 : T.okD 0 u = true) (r : Rep g F v t) (q : Rep g F w u) : eqV v w = eqD t u := by
  unfold eqD
  cases r <;> cases q <;> first
    | (exfalso; simp [T.okD, T.okT] at h1; done)
    | (exfalso; simp [T.okD, T.okT] at h2; done)
    | (simp only [T.d, PyData.eqv]; rfl)
theorem inV_d {g : Ga} {F : Hp} {w : V} {u : T} (h2 : T.okD 0 u = true) (q : Rep g F w u) : ∀ {vs : List V} {ts : List T}, T.okAll 0 ts = true → RepAll g F vs ts → inV w vs = ts.any fun y => eqD y u
  | _, _, _, .nil => rfl
  | _, _, h, .cons a b => by
    rw [T.okAll, T.okTs, Bool.and_eq_true] at h
    have ih := inV_d h2 q h.2 b
    unfold inV at ih ⊢
    rw [List.any_cons, List.any_cons, ih, eqV_d h.1 h2 a q]
theorem PRep.rep0 {g : Ga} {F H : Hp} {v : V} {t : T} (h : PRep g F H v t) (e : T.okD 0 t = true) : Rep g F v t := by
  rcases h with h | ⟨a, u, ev, hu, m⟩
  · exact h
  · cases m <;> (simp [T.okD, T.okT] at e)
def rInA (K : PySem.W.Frag) : R2 := fun x y H Q => rIn K false x y H Q ∨ rInD K x y H Q
def rNotInA (K : PySem.W.Frag) : R2 := fun x y H Q => rIn K true x y H Q ∨ rNotInD K x y H Q
theorem p_in (hK : c.g.K = X.K) : Op2 c (rInA X.K) (inT false) := by
  intro F S σ τ H x y t u z Q A hx hy hz k
  unfold inT at hz
  split at hz
  · rename_i us
    split at hz
    · rename_i h
      cases hz
      refine .inr ⟨t.d, T.dAll us, hK ▸ hx.dp A.a.fh h.1, ?_, okD_shaped h.1 (by omega), ?_, ?_⟩
      · have := hy.dp A.a.fh h.2; rw [T.d] at this; exact hK ▸ this
      · have := okD_shaped h.2 (by omega); rw [T.d] at this; exact this
      · rw [any_dAll]; exact fin_sh A (by simpa [eqD] using k) (.bl _)
    · cases hz
  · rename_i us
    split at hz
    · rename_i h
      cases hz
      obtain ⟨p, vs, rfl, h1, r1⟩ := hy.tup A.a.fh
      refine .inl ⟨p, vs, rfl, .inr (hK ▸ h1), flat_of h.1 (hx.rep0 h.1), flats_of h.2 r1, ?_⟩
      rw [if_neg Bool.false_ne_true, inV_d h.1 (hx.rep0 h.1) h.2 r1]
      exact fin_sh A (by simpa using k) (.bl _)
    · cases hz
  · cases hz
theorem p_notin (hK : c.g.K = X.K) : Op2 c (rNotInA X.K) (inT true) := by
  intro F S σ τ H x y t u z Q A hx hy hz k
  unfold inT at hz
  split at hz
  · rename_i us
    split at hz
    · rename_i h
      cases hz
      refine .inr ⟨t.d, T.dAll us, hK ▸ hx.dp A.a.fh h.1, ?_, okD_shaped h.1 (by omega), ?_, ?_⟩
      · have := hy.dp A.a.fh h.2; rw [T.d] at this; exact hK ▸ this
      · have := okD_shaped h.2 (by omega); rw [T.d] at this; exact this
      · rw [any_dAll]; exact fin_sh A (by simpa [eqD] using k) (.bl _)
    · cases hz
  · rename_i us
    split at hz
    · rename_i h
      cases hz
      obtain ⟨p, vs, rfl, h1, r1⟩ := hy.tup A.a.fh
      refine .inl ⟨p, vs, rfl, .inr (hK ▸ h1), flat_of h.1 (hx.rep0 h.1), flats_of h.2 r1, ?_⟩
      rw [if_pos rfl, inV_d h.1 (hx.rep0 h.1) h.2 r1]
      exact fin_sh A (by simpa using k) (.bl _)
    · cases hz
  · cases hz
theorem op_inA (hu : X.A.units + 65 < cLine) : OpR X (compareOp .In) (rInA X.K) := .or op_in_seq (op_inD hu)
theorem op_notinA (hu : X.A.units + 65 < cLine) : OpR X (compareOp .NotIn) (rNotInA X.K) := .or op_notIn_seq (op_notInD hu)

/-! ### is -/
def isT (neg : Bool) : T → T → Option Slot
  | .bl a, .bl b => some (.sh (.bl (neg != decide (a = b))))
  | .non, .non => some (.sh (.bl (neg != true)))
  | .bl _, .non => some (.sh (.bl (neg != false)))
  | .int _, .non => some (.sh (.bl (neg != false)))
  | .str _, .non => some (.sh (.bl (neg != false)))
  | .lst _, .non => some (.sh (.bl (neg != false)))
  | .tup _, .non => some (.sh (.bl (neg != false)))
  | .dic _, .non => some (.sh (.bl (neg != false)))
  | .obj _ _, .non => some (.sh (.bl (neg != false)))
  | _, _ => none
def rIsA : R2 := fun x y H Q => (y = .non ∧ Q (.bl (decide (x = .non))) H) ∨ rIsB x y H Q
def rNotA : R2 := fun x y H Q => (y = .non ∧ Q (.bl (!decide (x = .non))) H) ∨ rNotB x y H Q
theorem op_isA : OpR X (compareOp .Is) rIsA := .or op_isN op_isBl
theorem op_isnotA : OpR X (compareOp .IsNot) rNotA := .or op_notN op_notBl
theorem PRep.nonI {g : Ga} {F H : Hp} {v : V} {t : T} (h : PRep g F H v t) (n : t ≠ .non) : v ≠ .non := by
  rcases h with h | ⟨a, u, ev, hu, m⟩
  · cases h <;> first | exact absurd rfl n | (intro z; cases z)
  · subst ev; intro z; cases z
theorem p_is : Op2 c rIsA (isT false) := by
  intro F S σ τ H x y t u z Q A hx hy hz k
  unfold isT at hz
  split at hz
  · cases hz
    rw [hx.bl, hy.bl]
    exact .inr ⟨_, _, rfl, rfl, fin_sh A (by simpa using k) (.bl _)⟩
  · cases hz
    rw [hx.non, hy.non]
    exact .inl ⟨rfl, fin_sh A (by simpa using k) (.bl _)⟩
  all_goals first
    | (cases hz; rw [hy.non]; exact .inl ⟨rfl, by rw [decide_eq_false (hx.nonI (fun z => nomatch z))]; exact fin_sh A (by simpa using k) (.bl _)⟩)
    | cases hz
theorem p_isnot : Op2 c rNotA (isT true) := by
  intro F S σ τ H x y t u z Q A hx hy hz k
  unfold isT at hz
  split at hz
  · cases hz
    rw [hx.bl, hy.bl]
    exact .inr ⟨_, _, rfl, rfl, fin_sh A (by simpa using k) (.bl _)⟩
  · cases hz
    rw [hx.non, hy.non]
    exact .inl ⟨rfl, fin_sh A (by simpa using k) (.bl _)⟩
  all_goals first
    | (cases hz; rw [hy.non]; exact .inl ⟨rfl, by rw [decide_eq_false (hx.nonI (fun z => nomatch z))]; exact fin_sh A (by simpa using k) (.bl _)⟩)
    | cases hz

/-! ### subscripts and slices -/
def ixT (t u : T) : Option Slot := match t, u with
  | .lst ts, .int i => (atI ts i).map .sh
  | .tup ts, .int i => (atI ts i).map .sh
  | .str x, .int i => if x.length ≤ sz then (atI x.cps.toList i).map fun k => .sh (.str ⟨#[k]⟩) else none
  | _, _ => none
theorem atI_rep {g : Ga} {F : Hp} {vs : List V} {ts : List T} {i : Int} {t : T} (r : RepAll g F vs ts) (h : atI ts i = some t) : ∃ v, atI vs i = some v ∧ Rep g F v t := by
  unfold atI at h ⊢
  rw [r.length]
  cases e : ixN ts.length i with
  | none => rw [e] at h; cases h
  | some j =>
    rw [e] at h
    exact r.get h
theorem p_ix (hK : c.g.K = X.K) : Op2 c (rIx X.K) ixT := by
  intro F S σ τ H x y t u z Q A hx hy hz k
  unfold ixT at hz
  split at hz
  · obtain ⟨t', h1, h2⟩ := Option.map_eq_some_iff.mp hz
    subst h2
    obtain ⟨p, vs, rfl, h3, r⟩ := hx.lst A.a.fh
    obtain ⟨w, h4, r4⟩ := atI_rep r h1
    rw [hy.int]
    exact .inl ⟨p, vs, _, w, rfl, rfl, .inl (.inl h3), h4, fin_sh A k r4⟩
  · obtain ⟨t', h1, h2⟩ := Option.map_eq_some_iff.mp hz
    subst h2
    obtain ⟨p, vs, rfl, h3, r⟩ := hx.tup A.a.fh
    obtain ⟨w, h4, r4⟩ := atI_rep r h1
    rw [hy.int]
    exact .inr (.inl ⟨p, vs, _, w, rfl, rfl, hK ▸ h3, h4, fin_sh A k r4⟩)
  · split at hz
    · rename_i hl
      obtain ⟨t', h1, h2⟩ := Option.map_eq_some_iff.mp hz
      subst h2
      rw [hx.str, hy.int]
      exact .inr (.inr ⟨_, _, t', rfl, rfl, by rw [← sz_eq]; exact hl, h1, fin_sh A k (.str _)⟩)
    · cases hz
  · cases hz
def cutT (xs : List T) (lo hi : Option Int) : List T := (xs.drop (HT.sIx xs.length 0 lo)).take (HT.sIx xs.length xs.length hi - HT.sIx xs.length 0 lo)
theorem RepAll.cut {g : Ga} {F : Hp} {vs : List V} {ts : List T} (r : RepAll g F vs ts) (lo hi : Option Int) : RepAll g F (cutV vs lo hi) (cutT ts lo hi) := by
  unfold cutV cutT
  rw [r.length]
  exact (r.drop _).take _
def slT (t : T) (lo hi : Option Int) : Option Slot := match t with
  | .lst ts => some (.ow (.lst (cutT ts lo hi)))
  | .tup ts => some (.sh (.tup (cutT ts lo hi)))
  | _ => none
end
end TL

end
section
set_option Elab.async false
set_option linter.all false
set_option maxRecDepth 100000
set_option autoImplicit false
/-! TL5: rules that the layer lacked: enumerate of a tuple, sorted of a tuple, max of a list with default -/
open PySem PySem.Spec PyProof.Rows L2
namespace TL
set_option maxHeartbeats 1000000 in
theorem meets_enum1 {v : Value} {o : Obj} {H : Heap → Prop} (B : Begins v o H) :
    Meets (Builtin.«enumerate.__new__» ⟨[.type "enumerate", v], []⟩) (fun _ R s => H s.heap ∧
      R (.ok (.ret (.ref (s.heap.push o).objs.size))) { s with heap := (s.heap.push o).push { cls := .type "enumerate", data := .fields #[.none, .bool false, .ref s.heap.objs.size, rawInt 0, .none, .none] } }) :=
  .of_wp fun prog w A R s h => by
    obtain ⟨hp, g, d, tk, os⟩ := s; obtain ⟨h1, h⟩ := h
    have hsub := sub_enumerate
    have q1 : ∀ {A' : Around} {E : Value → Shared → Prop} {Q : Value → Shared → Prop}, Q (.ref hp.objs.size) ⟨hp.push o, g, d, tk, os⟩ → wpAny (model prog w) A' (pyIter v) Q E ⟨hp, g, d, tk, os⟩ :=
      fun q => B.iter prog w _ _ ⟨hp, g, d, tk, os⟩ _ h1 q
    wp_walk using q1
    refine wpAny_stack_any fun st => wpAny_pure ?_
    split
    · rename_i c _ _ _ _ _
      cases (c == Value.type "enumerate")
      · wp_walk using q1
        exact ⟨_, rfl, h⟩
      · wp_walk using q1
        exact ⟨_, rfl, h⟩
    · wp_walk using q1
      exact ⟨_, rfl, h⟩
section
variable {prog : Program} {w : World} {A : Around} {E : Value → Shared → Prop} {s : Shared}
theorem call_enum1 {v : Value} {o : Obj} {H : Heap → Prop} {Q : Value → Shared → Prop} (B : Begins v o H) (h1 : H s.heap)
    (h : ∀ h', IsEnum h' (s.heap.objs.size + 1) s.heap.objs.size 0 .none → h'.get? s.heap.objs.size = some o → h'.objs.size = s.heap.objs.size + 2 →
      (∀ b o, s.heap.get? b = some o → h'.get? b = some o) → Q (.ref (s.heap.objs.size + 1)) { s with heap := h' }) :
    wpAny (model prog w) A (call (.type "enumerate") [v]) Q E s := by
  refine callType_new F.called_enumerate (by decide) (F.typeCall_enumerate_1 _) (F.newCall_enumerate_1 _) (fun obj => F.args_object_init_2 obj _) F.entry_enumerate_new
    (meets_enum1 B) ⟨h1, ?_⟩
  have hz : (s.heap.push o).objs.size = s.heap.objs.size + 1 := Heap.size_push ..
  show _ ∧ _
  rw [hz]
  have he : IsEnum ((s.heap.push o).push { cls := .type "enumerate", data := .fields #[.none, .bool false, .ref s.heap.objs.size, rawInt 0, .none, .none] }) (s.heap.objs.size + 1) s.heap.objs.size 0 .none := by
    have := Heap.get?_push_size (s.heap.push o) (o := { cls := .type "enumerate", data := .fields #[.none, .bool false, .ref s.heap.objs.size, rawInt 0, .none, .none] }) rfl
    rw [hz] at this; exact this
  refine ⟨⟨_, he, rfl⟩, h _ he (Heap.get?_push_of_some _ (Heap.get?_push_size _ B.free)) (by rw [Heap.size_push, hz]) fun b o x => Heap.get?_push_of_some _ (Heap.get?_push_of_some _ x)⟩
end
/-- enumerate(tuple): the tuple at a as it stands, each item in a new pair -/
def IteT (K : PySem.W.Frag) (a : Addr) : It :=
  ⟨fun i H => ∃ (xs : List V) (x : V), SqT K H a xs ∧ xs[i]? = some x, fun i H v H' => ∃ T x, v = .ref T ∧ H T = none ∧ H' = upd H T (.tup [.int (i : Nat), x]) ∧ ∀ xs, SqT K H a xs → xs[i]? = some x, fun i H => ∃ xs : List V, SqT K H a xs ∧ xs.length = i⟩
theorem turn_enumT {P : Program} {w : World} {K : PySem.W.Frag} {elts : List Expr} {kk : Nat} {tpos : Pos} (a e it : Addr) :
    Turn P w K (.Tuple elts kk tpos) (IteT K a) [e, it] e (fun i h => (∃ old, IsEnum h e it ((i : Nat) : Int) old) ∧ h.IsTupleIter it a i ∧ e ≠ it ∧ a ≠ it ∧ a ≠ e) where
  mem := by simp
  obj := fun i h st b hb => by
    obtain ⟨⟨old, he⟩, ⟨o, ho, hc, hd⟩, _⟩ := st
    have e' : b = e ∨ b = it := by simpa using hb
    rcases e' with z | z
    · rw [z]; exact ⟨_, he, fun v q => nomatch q⟩
    · rw [z]; exact ⟨o, ho, fun v q => by rw [hd] at q; cases q⟩
  keep := fun i h h' st k => let ⟨⟨old, he⟩, hi, hne⟩ := st; ⟨⟨old, k e (by simp) _ he⟩, hi.at fun o q => k it (by simp) o q, hne⟩
  item := by
    intro X hP hw hK hc i pins s σ H E I hf st hg
    subst hP hw hK
    obtain ⟨⟨old, he⟩, hit, hne, hai, hae⟩ := st
    obtain ⟨xs, x, hq, hx⟩ := hg
    obtain ⟨its, rv, p, hz⟩ := I.tuple hq
    obtain ⟨u, hu, ru⟩ := rv.get hx
    have hel : e < s.heap.objs.size := Heap.lt_size he
    have hil : it < s.heap.objs.size := by obtain ⟨_, q, _⟩ := hit; exact Heap.lt_size q
    have hin : i < its.toArray.size := by
      have := (List.getElem?_eq_some_iff.mp hu).1
      simpa using this
    have D := Draws.tuple (prog := X.prog) (w := X.w) (A := X.A.in1) (I.ok.hd hc) it a hai its.toArray
    refine wpAny_pyNext_enum_itemD D he ⟨hit, p⟩ hin hne (by simp [hne, Ne.symm hae]) fun y h' tk hy ho hst' hT hsz hk => ?_
    have hyu : u = y := by
      rw [List.getElem?_toArray, hu] at hy
      exact Option.some.inj hy
    subst hyu
    refine ⟨_, rfl, wpAny_letOwnedTupleGo_enum (s := { s with heap := h', toks := tk + 1 }) ho fun h'' he' sb => ?_⟩
    have hT2 : h''.get? s.heap.objs.size = some { cls := .type "tuple", data := .seq #[.int i tk, u] } := (sb.2 _ (Nat.ne_of_gt hel)).trans hT
    have new : ObjOk X.prog X.w (upd H s.heap.objs.size (.tup [.int (i : Nat), x])) h'' s.heap.objs.size (.tup [.int (i : Nat), x]) :=
      ⟨by show 2 ≤ sizeLine; decide, [.int i tk, u], .cons ⟨_, rfl⟩ (.cons ru .nil), ⟨_, hT2, rfl, _, rfl⟩⟩
    have I1 : Inv X pins σ (upd H s.heap.objs.size (.tup [.int (i : Nat), x])) { s with heap := h'', toks := tk + 1 } :=
      I.turnedNew (ch := [e, it]) (fun b ob hb q => (sb.2 b (fun z => hb (by simp [z]))).trans (hk b ob (fun z => hb (by simp [z])) (fun z => hb (by simp [z])) q)) hf (Nat.le_refl _) new
    refine ⟨.ref s.heap.objs.size, _, I1, rfl, ⟨_, x, rfl, I.hok.fresh (Nat.le_refl _), rfl, fun ys hy => by rw [I.tuple_inj hy hq]; exact hx⟩, ⟨⟨u, ?_⟩, hst'.1.at fun o q => (sb.2 it (Ne.symm hne)).trans q, hne, hai, hae⟩, fun b hb => ?_⟩
    · have e1 : ((i + 1 : Nat) : Int) = (i : Int) + 1 := by omega
      rw [e1]; exact he'
    · have hb' : b < s.heap.objs.size := by
        have e' : b = e ∨ b = it := by simpa using hb
        rcases e' with z | z
        · rw [z]; exact hel
        · rw [z]; exact hil
      rw [upd_ne (Nat.ne_of_lt hb')]
      exact (hf b hb).1
  done := by
    intro X hP hw hK hc i pins s σ H E I hf st hg
    subst hP hw hK
    obtain ⟨⟨old, he⟩, hit, hne, hai, hae⟩ := st
    obtain ⟨xs, hq, hx⟩ := hg
    obtain ⟨its, rv, p, hz⟩ := I.tuple hq
    obtain ⟨f0, f1, f2, f3, f4, f5⟩ := hf it (by simp)
    have hl := rv.length
    have D := Draws.tuple (prog := X.prog) (w := X.w) (A := X.A.in1) (I.ok.hd hc) it a hai its.toArray
    have hn : its.toArray.size = i := by simp; omega
    refine wpAny_pyNext_enum_endD D he (hn ▸ ⟨hit, p⟩) fun h' eb => ⟨rfl, I.turned (t' := s.toks) (fun b o hb q => eb b o hb q) f0 f1 f3 f4 f5⟩
  self := fun A i s Q E st h => let ⟨⟨_, he⟩, _⟩ := st; wpAny_pyIter_enum he h
def iEnumT (K : PySem.W.Frag) (ta : TA) : TI := fun σ H R => ta σ H fun vs H1 => ∃ a xs, vs = [.ref a] ∧ ((SqL K H1 a xs ∧ R (Ite K a) H1) ∨ (SqT K H1 a xs ∧ R (IteT K a) H1))
theorem pi_enumA {X : Cx} {e : Expr} {ta : TA} {p pos tpos : Pos} {elts : List Expr} {kk : Nat} (hg : Gl X "enumerate") (hm : X.mg "enumerate" = none) (ha : PA X [e] ta) (hs : starEach [e] X.env = [(false, eval e X.env)] := by rfl) :
    PI X (.Tuple elts kk tpos) (.Call (.Name "enumerate" p) [e] [] pos) (iEnumT X.K ta) := by
  refine ⟨fun pins s σ H R I h => ?_⟩
  refine Call_ (ld_blt I hg hm boot_enumerate (PyProof.Rows.callWith_type1 (thn (ha.run pos pins s σ H _ I h) fun us s1 ⟨vs, H1, I1, r1, q1⟩ => ?_) hs rfl))
  obtain ⟨a, xs, ex, q⟩ := q1
  subst ex
  cases r1 with
  | cons r rr =>
    cases rr
    cases r
    have new : ∀ (h' : Heap) (hk : ∀ b o, s1.heap.get? b = some o → h'.get? b = some o), Inv X pins σ H1 { s1 with heap := h' } → ∀ b ∈ [s1.heap.objs.size + 1, s1.heap.objs.size], FpOk X pins H1 b := fun h' hk I2 b hb => by
      have e' : b = s1.heap.objs.size + 1 ∨ b = s1.heap.objs.size := by simpa using hb
      have hle : s1.heap.objs.size ≤ b := by
        rcases e' with z | z
        · rw [z]; exact Nat.le_add_right _ _
        · rw [z]; exact Nat.le_refl _
      exact I1.fpOk hle (I1.hok.fresh hle)
    rcases q with ⟨hq, q⟩ | ⟨hq, q⟩
    · obtain ⟨its, rv, p', hz⟩ := I1.list hq
      refine call_enumerate_list p'.isList fun h' he hit hsz hk => wpAny_pyIter_enum he ?_
      have I2 : Inv X pins σ H1 { s1 with heap := h' } := I1.kept (t' := s1.toks) hk
      exact ⟨s1.heap.objs.size + 1, [s1.heap.objs.size + 1, s1.heap.objs.size], _, _, H1, rfl, I2, turn_enum a (s1.heap.objs.size + 1) s1.heap.objs.size, ⟨⟨.none, he⟩, hit, Nat.succ_ne_self _⟩, new h' hk I2, q⟩
    · obtain ⟨its, rv, p', hz⟩ := I1.tuple hq
      have pT : s1.heap.IsTuple a its.toArray := p'
      have hal : a < s1.heap.objs.size := by obtain ⟨o, ho, _⟩ := pT; exact Heap.lt_size ho
      refine call_enum1 (begins_tuple a its.toArray) pT fun h' he hit hsz hk => wpAny_pyIter_enum he ?_
      have I2 : Inv X pins σ H1 { s1 with heap := h' } := I1.kept (t' := s1.toks) hk
      exact ⟨s1.heap.objs.size + 1, [s1.heap.objs.size + 1, s1.heap.objs.size], _, _, H1, rfl, I2, turn_enumT a (s1.heap.objs.size + 1) s1.heap.objs.size,
        ⟨⟨.none, he⟩, ⟨_, hit, rfl, rfl⟩, Nat.succ_ne_self _, Nat.ne_of_lt hal, Nat.ne_of_lt (Nat.lt_succ_of_lt hal)⟩, new h' hk I2, q⟩

/-! ### sorted(tuple of ints) -/
section
variable {prog : Program} {w : World} {A : Around} {E : Value → Shared → Prop} {s : Shared}
theorem collect_tup {l : Addr} {vs : List Value} {Q : List Value → Shared → Prop} (hl : IsTup s.heap l vs.toArray)
    (h : Q vs { s with heap := (s.heap.push (seqObj "list" #[] 0)).update s.heap.objs.size (Obj.mapSeq (· ++ vs.toArray)) }) (hsz : vs.length ≤ sizeLine) :
    wpAny (model prog w) A (collect (.ref l)) Q E s := by
  obtain ⟨o, ho, hc, n, hd⟩ := id hl
  unfold collect
  refine wpAny_bind (wpAny_runValue (codeAny_builtin entry_proto_collect' ?_))
  show wpAny _ _ (do again (.builtin "list.__iadd__" ⟨[← newList [], .ref l], []⟩)) _ _ s
  refine wpAny_bind (wpAny_newList (wpAny_pure ⟨Code.quiet_builtin _ (by decide +kernel), codeAny_builtin entry_list_iadd' ?_⟩))
  show wpAny _ _ (Builtin.List.listExtendWith (.ref s.heap.objs.size) (.ref l) (.ref s.heap.objs.size)) _ _ { s with heap := s.heap.push (seqObj "list" #[] 0) }
  unfold Builtin.List.listExtendWith
  have ho' : (s.heap.push (seqObj "list" #[] 0)).get? l = some o := Heap.get?_push_of_some _ ho
  refine wpAny_bind (wpAny_typeOf (T := "tuple") ⟨o, ho', hc⟩ ?_)
  have ht : (Value.type "tuple" == Value.type "tuple") = true := by rfl
  rw [if_pos (by rw [ht]; simp)]
  refine wpAny_bind (listItems_at ho' hd ?_)
  refine wpAny_bind (listItems_at (xs := #[]) (n := 0) (Heap.get?_push_size _ rfl) rfl ?_)
  rw [if_neg (by simp)]
  refine wpAny_bind (listUpdate_at (xs := #[]) (n := 0) (Heap.get?_push_size _ rfl) rfl ?_ (Nat.zero_le _) (by show (#[] ++ vs.toArray).size ≤ sizeLine + 1; simp only [Array.size_append, List.size_toArray, List.length_nil]; omega))
  refine wpAny_pure ?_
  show wpAny (model prog w) A (do
      let o ← load s.heap.objs.size
      match o.data with
      | .seq xs _ => pure xs.toList
      | _ => unsupported "internal:collect") Q E { s with heap := (s.heap.push (seqObj "list" #[] 0)).update s.heap.objs.size (Obj.mapSeq (· ++ vs.toArray)) }
  refine wpAny_bind (wpAny_load (get?_update_seq (Heap.get?_push_size _ rfl) _) ?_)
  show wpAny _ _ (pure ((#[] : Array Value) ++ vs.toArray).toList) Q E _
  rw [show ((#[] : Array Value) ++ vs.toArray).toList = vs by simp]
  exact wpAny_pure h
theorem sortedKAnyT {κ : KeyKind} (hO : κ.OneLt) {l : Addr} {vs : List Value} {Q : Value → Shared → Prop} (hl : IsTup s.heap l vs.toArray) (h0 : KeysOf κ (pairsOf vs)) (hkk : ∀ v₁ v₂ rest, vs = v₁ :: v₂ :: rest → keyKind' (v₁ :: v₂ :: rest).toArray = pure oneType') (hL : vs.length ≤ sizeLine)
    (h : ∀ st' : SortSt, (arrOf st').Perm (pairsOf vs) → SortedToK κ (arrOf st') (pairsOf vs).size → Q (.ref (s.heap.objs.size + 1)) { s with heap := sortedAll s.heap vs ((arrOf st').map (·.2)) }) :
    wpAny (model prog w) A (call (.builtin "sorted") [.ref l]) Q E s := by
  refine Calls.call_function_entry kind_sorted plain_sorted entry_sorted (args_sorted1 _) ?_
  unfold Builtin.«sorted»
  refine wpAny_bind (m := checkCount "sorted" 1 1 _) (wpAny_pure ?_)
  refine wpAny_bind (collect_tup hl ?_ hL)
  refine wpAny_bind (wpAny_newList ?_ hL)
  have hsz : ((s.heap.push (seqObj "list" #[] 0)).update s.heap.objs.size (Obj.mapSeq (· ++ vs.toArray))).objs.size = s.heap.objs.size + 1 := by
    rw [Heap.size_update, size_push']
  have hoL : (((s.heap.push (seqObj "list" #[] 0)).update s.heap.objs.size (Obj.mapSeq (· ++ vs.toArray))).push (seqObj "list" vs.toArray 0)).get? (s.heap.objs.size + 1) = some (seqObj "list" vs.toArray 0) := by
    rw [← hsz]; exact Heap.get?_push_size _ rfl
  show wpAny _ _ _ _ _ { s with heap := ((s.heap.push (seqObj "list" #[] 0)).update s.heap.objs.size (Obj.mapSeq (· ++ vs.toArray))).push (seqObj "list" vs.toArray 0) }
  rw [hsz]
  refine wpAny_bind (wpAny_holding (wpAny_call_entry slot_list_sort ⟨_, hoL, rfl⟩ entry_list_sort (list_sort_treeKAny hO hoL h0 hkk hL fun st' a1 a2 => ⟨_, rfl, ?_⟩) (args_list_sort _)))
  exact wpAny_pure ⟨_, rfl, h st' a1 a2⟩
theorem sorted_intsAnyT {l : Addr} {vs : List Value} {ns : List Int} {Q : Value → Shared → Prop} (hl : IsTup s.heap l vs.toArray) (hI : IntsAre vs ns) (hL : vs.length ≤ sizeLine)
    (h : ∀ (out : Array Value) (ns' : List Int), IntsAre out.toList ns' → ns'.Perm ns → ns'.Pairwise (· ≤ ·) → Q (.ref (s.heap.objs.size + 1)) { s with heap := sortedAll s.heap vs out }) :
    wpAny (model prog w) A (call (.builtin "sorted") [.ref l]) Q E s := by
  refine sortedKAnyT intKind_oneLt hl hI.keysOfInt (fun v₁ v₂ rest e => keyKind_ints (by rw [← e]; exact hI)) hL fun st' hp hs => ?_
  obtain ⟨ns', h1, h2, h3⟩ := sorted_out hI hp (sortedTo_of_int hs)
  exact h _ ns' h1 h2 h3
end
/-- sorted of ints, a list or a tuple of any length -/
def rSortedA (K : PySem.W.Frag) : List V → Hp → VK → Prop := fun vs H Q => ∃ (a : Addr) (ns : List Int), vs = [V.ref a] ∧ (SqL K H a (ns.map V.int) ∨ SqT K H a (ns.map V.int)) ∧ ∀ (ns' : List Int) (p : Addr), ns'.Perm ns → ns'.Pairwise (· ≤ ·) → H p = none → Q (.ref p) (upd H p (.lst (ns'.map V.int)))
theorem cr_sortedA {X : Cx} : CallR X (.builtin "sorted") (rSortedA X.K) := by
  intro pins s σ H vs us Q I r h
  obtain ⟨a, ns, rfl, hs, q⟩ := h
  rw [Vals.ref1 r]
  rcases hs with hs | hs
  · obtain ⟨its, rv, hl, hz⟩ := I.list hs
    have hi := rv.ints
    rw [List.length_map] at hz
    refine PyProof.Rows.sorted_intsAny hl.isList hi (by rw [hi.length]; exact hz) fun out ns' h1 h2 h3 => ?_
    obtain ⟨ep, he'⟩ := PyProof.Rows.sortedAll_at s.heap its out
    have hlen : (ns'.map V.int).length ≤ sizeLine := by rw [List.length_map, h2.length_eq]; exact hz
    exact ⟨.ref _, upd H (s.heap.objs.size + 1) (.lst (ns'.map V.int)), I.laid (t' := s.toks) (fun _ _ => PyProof.Rows.sortedAll_old) (Nat.le_succ _) ⟨hlen, out.toList, ep, vals_of_ints h1, he'⟩, rfl, q ns' _ h2 h3 (I.hok.fresh (Nat.le_succ _))⟩
  · obtain ⟨its, rv, hl, hz⟩ := I.tuple hs
    have hi := rv.ints
    rw [List.length_map] at hz
    refine sorted_intsAnyT hl hi (by rw [hi.length]; exact hz) fun out ns' h1 h2 h3 => ?_
    obtain ⟨ep, he'⟩ := PyProof.Rows.sortedAll_at s.heap its out
    have hlen : (ns'.map V.int).length ≤ sizeLine := by rw [List.length_map, h2.length_eq]; exact hz
    exact ⟨.ref _, upd H (s.heap.objs.size + 1) (.lst (ns'.map V.int)), I.laid (t' := s.toks) (fun _ _ => PyProof.Rows.sortedAll_old) (Nat.le_succ _) ⟨hlen, out.toList, ep, vals_of_ints h1, he'⟩, rfl, q ns' _ h2 h3 (I.hok.fresh (Nat.le_succ _))⟩
/-- max(list of ints, default=d) -/
def rMaxDf (K : PySem.W.Frag) : List V → List V → Hp → VK → Prop := fun vs ws H Q => ∃ (a : Addr) (ns : List Int) (d : V), vs = [V.ref a] ∧ ws = [d] ∧ SqL K H a (ns.map V.int) ∧ (ns = [] → Q d H) ∧ ∀ y ys, ns = y :: ys → Q (.int (PySem.W.maxOf y ys)) H
theorem run_maxDf {X : Cx} (hc : X.calm = true) (hu : X.A.units + 10 < cLine) {pins : List (Addr × Obj)} {s : Shared} {σ : L2.St} {H : Hp} {vs ws : List V} {us zs : List Value} {Q : VK} (I : Inv X pins σ H s) (r : Vals vs us) (rz : Vals ws zs) (h : rMaxDf X.K vs ws H Q) :
    wpAny (model X.prog X.w) X.A (call (.builtin "max") us [("default", zs.headD .none)]) (EP X pins σ Q) X.xe s := by
  obtain ⟨a, ns, d, rfl, rfl, hs, h0, h1⟩ := h
  obtain ⟨its, rv, hl, hz⟩ := I.list hs
  rw [Vals.ref1 r]
  cases rz with
  | cons rd rt =>
    cases rt
    rename_i dv
    have hi := rv.ints
    refine PySem.W.max_list_datum_default (α := Int) (I.ok.hd hc) hl.isList (xs := ns) ?_ ?_ (fun e h' tk k => ?_) (fun y ys i v h' tk e hv hh k => ?_)
    · rw [show its.toArray.toList = its by simp]; exact PySem.W.HoldAll.of_ints hi
    · show X.A.units + 1 + 0 < cLine; omega
    · exact ⟨d, H, I.kept (t' := tk) k, rd, h0 e⟩
    · refine ⟨_, H, I.kept (t' := tk) k, ?_, h1 y ys e⟩
      obtain ⟨as, hr⟩ := hh
      have hr : Reads h' v (.int (PySem.W.maxOf y ys)) as := hr
      cases hr
      exact ⟨_, rfl⟩
/-- max(e, default=d) -/
theorem pe_maxDf {X : Cx} {e d : Expr} {es : List Expr} {x : Str} {p pos kp : Pos} {ta td : TE} (hc : X.calm = true) (hu : X.A.units + 10 < cLine) (hg : Gl X "max") (hm : X.mg "max" = none) (ha : PE X e ta) (hd : PE X d td)
    (he : starEach [e] X.env = (false, eval e X.env) :: starEach [] X.env := by rfl) :
    PE X (.Call (.Name "max" p) [e] [⟨some "default", d, kp⟩] pos) (fun σ H Q => ta σ H fun v H1 => td σ H1 fun w H2 => rMaxDf X.K [v] [w] H2 Q) := by
  refine ⟨fun pins s σ H Q I h => ?_⟩
  refine wpAny_Call_Name_kw (ld_blt (u := .builtin "max") I hg hm (by decide +kernel) ?_ (by decide))
  have hs : starEach [e] X.env = (false, eval e X.env) :: starEach [] X.env := he
  refine callWith_kw (id := "max") (kws := [⟨some "default", d, kp⟩]) (thn ((pa_cons ha pa_nil hs).run pos pins s σ H (fun vs H1 => tCons td tNil σ H1 fun ws H2 => rMaxDf X.K vs ws H2 Q) I h) fun us s1 ⟨vs, H1, I1, r, q⟩ => ?_) (by rw [hs]; rfl) (by rw [hs]; rfl) (by rfl) (by rfl)
  refine thn ((pk_cons (nm := some "default") (kpos := kp) hd pk_nil).run pos pins s1 σ H1 (fun ws H2 => rMaxDf X.K vs ws H2 Q) I1 q) fun zs s2 ⟨ws, H2, I2, rz, q2⟩ => ?_
  have q3 := run_maxDf hc hu I2 r rz q2
  obtain ⟨_, _, _, _, e2, _⟩ := q2
  subst e2
  cases rz with
  | cons rd rt =>
    cases rt
    exact q3
end TL

end
section
set_option Elab.async false
set_option linter.all false
set_option maxRecDepth 100000
set_option autoImplicit false
/-! TL6: slices, built-in functions -/
open PySem PySem.Spec PyProof.Rows L2
namespace TL
section
variable {X : Cx} {c : Cfg} {e a b : Expr} {es : List Expr} {pos : Pos}
/-! ### slices -/
def rSlAll (K : PySem.W.Frag) : V → Option Int → Option Int → Hp → VK → Prop := fun x lo hi H Q => rSlL K x lo hi H Q ∨ rSlF K x lo hi H Q ∨ rSlS x lo hi H Q
theorem sl_all : SlR X (rSlAll X.K) := .or sl_list (.or sl_tupF sl_str)
def slT' (t : T) (lo hi : Option Int) : Option Slot := match t with
  | .lst ts => some (.ow (.lst (cutT ts lo hi)))
  | .tup ts => some (.sh (.tup (cutT ts lo hi)))
  | .str x => if x.length ≤ sz then some (.sh (.str (cutS x lo hi))) else none
  | _ => none
theorem cut_whole {ts : List T} {lo hi : Option Int} (h : HT.sIx ts.length 0 lo = 0 ∧ HT.sIx ts.length ts.length hi = ts.length) : cutT ts lo hi = ts := by
  unfold cutT
  rw [h.1, h.2]
  simp
theorem p_sl (hK : c.g.K = X.K) : OpS c (rSlAll X.K) slT' := by
  intro F S σ τ H x l u t z Q A hx hz k
  unfold slT' at hz
  split at hz
  · cases hz
    obtain ⟨p, vs, rfl, h3, r⟩ := hx.lst A.a.fh
    exact .inl ⟨p, vs, rfl, .inl (.inl h3), fun q np => fin_ow A k (.lst (r.cut l u)) np⟩
  · cases hz
    obtain ⟨p, vs, rfl, h3, r⟩ := hx.tup A.a.fh
    refine .inr (.inl ⟨p, vs, rfl, hK ▸ h3, fun w => ?_, fun _ q o np hd => fin_tup A k (r.cut l u) np hd⟩)
    rw [r.length] at w
    rw [cut_whole w] at k
    exact fin_tupE A k hx
  · split at hz
    · cases hz
      rename_i hl
      rw [hx.str]
      exact .inr (.inr ⟨_, rfl, by rw [← sz_eq]; exact hl, fin_sh A k (.str _)⟩)
    · cases hz
  · cases hz
/-- xs[::-1] of a list -/
def revT : T → Option Slot
  | .lst ts => some (.ow (.lst ts.reverse))
  | _ => none
theorem de_rev {fa : OF} {k : Nat} {p1 p2 p3 : Pos} (ha : PE X a (rdO c fa)) : PE X (.Subscript a (.Slice none none (some (.UnaryOp .USub (.Constant (.int 1) k p1) p2)) p3) pos) (rdE c (op1 revT fa)) := by
  refine PE.imp (pe_revL ha) fun σ H Q q => op1_out (r := fun x H1 Q => ∃ a xs, x = .ref a ∧ SqL X.K H1 a xs ∧ ∀ p, H1 p = none → Q (.ref p) (upd H1 p (.lst xs.reverse))) ?_ q
  intro F S σ τ H x t z Q A hx hz k
  unfold revT at hz
  split at hz
  · cases hz
    obtain ⟨p, vs, rfl, h3, r⟩ := hx.lst A.a.fh
    exact ⟨p, vs, rfl, .inl (.inl h3), fun q np => fin_ow A k (.lst r.reverse) np⟩
  · cases hz

/-! ### calls of built-in functions -/
theorem de_callB {id : String} {r : List V → Hp → VK → Prop} {p : List T → Option Slot} {fa : AF} {x : Str} {p' : Pos} (hc : CallR X (.builtin id) r) (hp : OpN c r p) (hg : Gl X x) (hm : X.mg x = none) (hv : bootBuiltins x = some (.builtin id)) (ha : PA X (e :: es) (rdA c fa)) (hn : x ≠ "__name__" := by decide) (hdb : (x == ("__debug__" : Str)) = false := by decide)
    (he : starEach (e :: es) X.env = (false, eval e X.env) :: starEach es X.env := by rfl) (hpl : (backTo pos (starEach es X.env)).any (·.1) = false := by rfl) : PE X (.Call (.Name x p') (e :: es) [] pos) (rdE c (opN p fa)) :=
  PE.imp (pe_callB hc hg hm hv ha hn hdb he hpl) fun _ _ _ q => opN_out hp q
theorem de_callTy {id : String} {r : List V → Hp → VK → Prop} {p : List T → Option Slot} {fa : AF} {x : Str} {p' : Pos} (hc : CallR X (.type id) r) (hp : OpN c r p) (hg : Gl X x) (hm : X.mg x = none) (hv : bootBuiltins x = some (.type id)) (ha : PA X (e :: es) (rdA c fa)) (hn : x ≠ "__name__" := by decide) (hdb : (x == ("__debug__" : Str)) = false := by decide)
    (he : starEach (e :: es) X.env = (false, eval e X.env) :: starEach es X.env := by rfl) (hpl : (backTo pos (starEach es X.env)).any (·.1) = false := by rfl) : PE X (.Call (.Name x p') (e :: es) [] pos) (rdE c (opN p fa)) :=
  PE.imp (pe_callTy hc hg hm hv ha hn hdb he hpl) fun _ _ _ q => opN_out hp q
theorem PRepAll.one {g : Ga} {F H : Hp} {vs : List V} {t : T} (h : PRepAll g F H vs [t]) : ∃ v, vs = [v] ∧ PRep g F H v t := by
  cases h with
  | cons a b => cases b; exact ⟨_, rfl, a⟩
theorem PRepAll.two {g : Ga} {F H : Hp} {vs : List V} {t u : T} (h : PRepAll g F H vs [t, u]) : ∃ v w, vs = [v, w] ∧ PRep g F H v t ∧ PRep g F H w u := by
  cases h with
  | cons a b =>
    obtain ⟨w, rfl, q⟩ := b.one
    exact ⟨_, w, rfl, a, q⟩
def lenN : List T → Option Slot
  | [.lst ts] => some (.sh (.int ts.length))
  | [.tup ts] => some (.sh (.int ts.length))
  | [.str x] => if x.length ≤ sz then some (.sh (.int x.length)) else none
  | _ => none
theorem p_len (hK : c.g.K = X.K) : OpN c (fun xs H Q => ∃ x n, xs = [x] ∧ LenV X.K x H n ∧ Q (.int n) H) lenN := by
  intro F S σ τ H xs ts z Q A hx hz k
  unfold lenN at hz
  split at hz
  · cases hz
    obtain ⟨v, rfl, h⟩ := hx.one
    obtain ⟨p, vs, rfl, h3, r⟩ := h.lst A.a.fh
    exact ⟨_, vs.length, rfl, .inl ⟨vs, .inl (.inl h3), rfl⟩, fin_sh A k (by rw [r.length]; exact .int _)⟩
  · cases hz
    obtain ⟨v, rfl, h⟩ := hx.one
    obtain ⟨p, vs, rfl, h3, r⟩ := h.tup A.a.fh
    exact ⟨_, vs.length, rfl, .inr ⟨vs, hK ▸ h3, rfl⟩, fin_sh A k (by rw [r.length]; exact .int _)⟩
  · split at hz
    · cases hz
      rename_i hl
      obtain ⟨v, rfl, h⟩ := hx.one
      rw [h.str]
      exact ⟨_, _, rfl, ⟨by rw [← sz_eq]; exact hl, rfl⟩, fin_sh A k (.int _)⟩
    · cases hz
  · cases hz
def absN : List T → Option Slot
  | [.int i] => some (.sh (.int (if i < 0 then -i else i)))
  | _ => none
theorem p_abs : OpN c (fun xs H Q => ∃ i, xs = [.int i] ∧ Q (.int (if i < 0 then -i else i)) H) absN := by
  intro F S σ τ H xs ts z Q A hx hz k
  unfold absN at hz
  split at hz
  · cases hz
    obtain ⟨v, rfl, h⟩ := hx.one
    rw [h.int]
    exact ⟨_, rfl, fin_sh A k (.int _)⟩
  · cases hz
def intN : List T → Option Slot
  | [.int i] => some (.sh (.int i))
  | [.bl k] => some (.sh (.int (if k then 1 else 0)))
  | _ => none
theorem p_int : OpN c (fun xs H Q => (∃ i, xs = [.int i] ∧ Q (.int i) H) ∨ ∃ k, xs = [.bl k] ∧ Q (.int (if k then 1 else 0)) H) intN := by
  intro F S σ τ H xs ts z Q A hx hz k
  unfold intN at hz
  split at hz
  · cases hz
    obtain ⟨v, rfl, h⟩ := hx.one
    rw [h.int]
    exact .inl ⟨_, rfl, fin_sh A k (.int _)⟩
  · cases hz
    obtain ⟨v, rfl, h⟩ := hx.one
    rw [h.bl]
    exact .inr ⟨_, rfl, fin_sh A k (.int _)⟩
  · cases hz
def listN : List T → Option Slot
  | [.lst ts] => some (.ow (.lst ts))
  | [.tup ts] => some (.ow (.lst ts))
  | _ => none
theorem p_list (hK : c.g.K = X.K) : OpN c (fun xs H Q => ∃ p ys, xs = [.ref p] ∧ (SqL X.K H p ys ∨ SqT X.K H p ys) ∧ ∀ l, H l = none → Q (.ref l) (upd H l (.lst ys))) listN := by
  intro F S σ τ H xs ts z Q A hx hz k
  unfold listN at hz
  split at hz
  · cases hz
    obtain ⟨v, rfl, h⟩ := hx.one
    obtain ⟨p, vs, rfl, h3, r⟩ := h.lst A.a.fh
    exact ⟨p, vs, rfl, .inl (.inl (.inl h3)), fun q np => fin_ow A k (.lst r) np⟩
  · cases hz
    obtain ⟨v, rfl, h⟩ := hx.one
    obtain ⟨p, vs, rfl, h3, r⟩ := h.tup A.a.fh
    exact ⟨p, vs, rfl, .inr (hK ▸ h3), fun q np => fin_ow A k (.lst r) np⟩
  · cases hz
def tupleN : List T → Option Slot
  | [.lst ts] => some (.sh (.tup ts))
  | [.tup ts] => some (.sh (.tup ts))
  | _ => none
theorem p_tuple (hK : c.g.K = X.K) : OpN c (fun xs H Q => ∃ p ys, xs = [.ref p] ∧ ((SqL X.K H p ys ∧ ∀ (l : Addr) (o : Obj), H l = none → o.dict = none → Q (.ref l) (upd H l (.frz o (.tup ys)))) ∨ (SqT X.K H p ys ∧ Q (.ref p) H))) tupleN := by
  intro F S σ τ H xs ts z Q A hx hz k
  unfold tupleN at hz
  split at hz
  · cases hz
    obtain ⟨v, rfl, h⟩ := hx.one
    obtain ⟨p, vs, rfl, h3, r⟩ := h.lst A.a.fh
    exact ⟨p, vs, rfl, .inl ⟨.inl (.inl h3), fun q o np hd => fin_tup A k r np hd⟩⟩
  · cases hz
    obtain ⟨v, rfl, h⟩ := hx.one
    obtain ⟨p, vs, rfl, h3, r⟩ := h.tup A.a.fh
    exact ⟨p, vs, rfl, .inr ⟨hK ▸ h3, fin_tupE A k h⟩⟩
  · cases hz
def intsT : List T → Option (List Int)
  | [] => some []
  | .int i :: ts => (intsT ts).map (i :: ·)
  | _ :: _ => none
theorem intsT_map : ∀ ns : List Int, intsT (ns.map T.int) = some ns
  | [] => rfl
  | n :: ns => by rw [List.map_cons, intsT, intsT_map ns]; rfl
theorem intsT_of : ∀ {ts : List T} {ns : List Int}, intsT ts = some ns → ts = ns.map T.int
  | [], _, h => by cases h; rfl
  | t :: ts, ns, h => by
    cases t <;> simp only [intsT] at h <;> first
      | cases h; done
      | (obtain ⟨ms, h1, h2⟩ := Option.map_eq_some_iff.mp h
         subst h2
         rw [List.map_cons, intsT_of h1])
def boolsT : List T → Option (List Bool)
  | [] => some []
  | .bl i :: ts => (boolsT ts).map (i :: ·)
  | _ :: _ => none
theorem boolsT_map : ∀ ns : List Bool, boolsT (ns.map T.bl) = some ns
  | [] => rfl
  | n :: ns => by rw [List.map_cons, boolsT, boolsT_map ns]; rfl
theorem boolsT_of : ∀ {ts : List T} {ns : List Bool}, boolsT ts = some ns → ts = ns.map T.bl
  | [], _, h => by cases h; rfl
  | t :: ts, ns, h => by
    cases t <;> simp only [boolsT] at h <;> first
      | cases h; done
      | (obtain ⟨ms, h1, h2⟩ := Option.map_eq_some_iff.mp h
         subst h2
         rw [List.map_cons, boolsT_of h1])
def onInts (f : List Int → Option Slot) : List T → Option Slot
  | [.lst ts] => (intsT ts).bind f
  | _ => none
def onBools (f : List Bool → Slot) : List T → Option Slot
  | [.lst ts] => (boolsT ts).map f
  | _ => none
abbrev sumN : List T → Option Slot := onInts fun ns => some (.sh (.int ns.sum))
abbrev allN : List T → Option Slot := onBools fun bs => .sh (.bl (bs.all id))
abbrev anyN : List T → Option Slot := onBools fun bs => .sh (.bl (bs.any id))
theorem onInts_of {F H : Hp} {S : Sta} {σ τ : List (Option V)} {xs : List V} {ts : List T} {f : List Int → Option Slot} {z : Slot} (A : AbsX c F S σ τ H) (hx : PRepAll c.g F H xs ts) (hz : onInts f ts = some z) : ∃ (a : Addr) (ns : List Int), xs = [V.ref a] ∧ H a = some (.lst (ns.map V.int)) ∧ f ns = some z := by
  unfold onInts at hz
  split at hz
  · obtain ⟨ns, h1, h2⟩ := Option.bind_eq_some_iff.mp hz
    have e := intsT_of h1
    subst e
    obtain ⟨v, rfl, h⟩ := hx.one
    obtain ⟨p, vs, rfl, h3, r⟩ := h.lst A.a.fh
    rw [r.ints] at h3
    exact ⟨p, ns, rfl, h3, h2⟩
  · cases hz
theorem onBools_of {F H : Hp} {S : Sta} {σ τ : List (Option V)} {xs : List V} {ts : List T} {f : List Bool → Slot} {z : Slot} (A : AbsX c F S σ τ H) (hx : PRepAll c.g F H xs ts) (hz : onBools f ts = some z) : ∃ (a : Addr) (ns : List Bool), xs = [V.ref a] ∧ H a = some (.lst (ns.map V.bl)) ∧ f ns = z := by
  unfold onBools at hz
  split at hz
  · obtain ⟨ns, h1, h2⟩ := Option.map_eq_some_iff.mp hz
    have e := boolsT_of h1
    subst e
    obtain ⟨v, rfl, h⟩ := hx.one
    obtain ⟨p, vs, rfl, h3, r⟩ := h.lst A.a.fh
    rw [r.bools] at h3
    exact ⟨p, ns, rfl, h3, h2⟩
  · cases hz
theorem p_sum {K : PySem.W.Frag} : OpN c (rSum K) sumN := by
  intro F S σ τ H xs ts z Q A hx hz k
  obtain ⟨a, ns, rfl, h, e⟩ := onInts_of A hx hz
  cases e
  exact ⟨a, ns, rfl, .inl (.inl h), fin_sh A k (.int _)⟩
theorem p_all {K : PySem.W.Frag} : OpN c (rAll K) allN := by
  intro F S σ τ H xs ts z Q A hx hz k
  obtain ⟨a, ns, rfl, h, e⟩ := onBools_of A hx hz
  subst e
  exact ⟨a, ns, rfl, .inl (.inl h), fin_sh A k (.bl _)⟩
theorem p_any {K : PySem.W.Frag} : OpN c (rAny K) anyN := by
  intro F S σ τ H xs ts z Q A hx hz k
  obtain ⟨a, ns, rfl, h, e⟩ := onBools_of A hx hz
  subst e
  exact ⟨a, ns, rfl, .inl (.inl h), fin_sh A k (.bl _)⟩
/-! greatest, least -/
def maxI (x : Int) (xs : List Int) : Int := xs.foldl (fun a y => if a < y then y else a) x
def minI (x : Int) (xs : List Int) : Int := xs.foldl (fun a y => if y < a then y else a) x
theorem maxI_spec : ∀ (xs : List Int) (x : Int), (maxI x xs = x ∨ maxI x xs ∈ xs) ∧ x ≤ maxI x xs ∧ ∀ y ∈ xs, y ≤ maxI x xs
  | [], x => ⟨.inl rfl, Int.le_refl _, fun _ h => nomatch h⟩
  | y :: ys, x => by
    obtain ⟨h1, h2, h3⟩ := maxI_spec ys (if x < y then y else x)
    have e : maxI x (y :: ys) = maxI (if x < y then y else x) ys := rfl
    rw [e]
    obtain ⟨w, hw⟩ : ∃ w, w = if x < y then y else x := ⟨_, rfl⟩
    rw [← hw] at h1 h2 h3 ⊢
    have hw2 : x ≤ w ∧ y ≤ w := by rw [hw]; split <;> omega
    refine ⟨?_, ?_, fun z hz => ?_⟩
    · rcases h1 with h1 | h1
      · rw [h1, hw]; split
        · exact .inr List.mem_cons_self
        · exact .inl rfl
      · exact .inr (List.mem_cons_of_mem _ h1)
    · omega
    · rcases List.mem_cons.mp hz with rfl | hz
      · omega
      · exact h3 z hz
theorem minI_spec : ∀ (xs : List Int) (x : Int), (minI x xs = x ∨ minI x xs ∈ xs) ∧ minI x xs ≤ x ∧ ∀ y ∈ xs, minI x xs ≤ y
  | [], x => ⟨.inl rfl, Int.le_refl _, fun _ h => nomatch h⟩
  | y :: ys, x => by
    obtain ⟨h1, h2, h3⟩ := minI_spec ys (if y < x then y else x)
    have e : minI x (y :: ys) = minI (if y < x then y else x) ys := rfl
    rw [e]
    obtain ⟨w, hw⟩ : ∃ w, w = if y < x then y else x := ⟨_, rfl⟩
    rw [← hw] at h1 h2 h3 ⊢
    have hw2 : w ≤ x ∧ w ≤ y := by rw [hw]; split <;> omega
    refine ⟨?_, ?_, fun z hz => ?_⟩
    · rcases h1 with h1 | h1
      · rw [h1, hw]; split
        · exact .inr List.mem_cons_self
        · exact .inl rfl
      · exact .inr (List.mem_cons_of_mem _ h1)
    · omega
    · rcases List.mem_cons.mp hz with rfl | hz
      · omega
      · exact h3 z hz
abbrev maxN : List T → Option Slot := onInts fun ns => match ns with
  | [] => none
  | x :: xs => some (.sh (.int (maxI x xs)))
abbrev minN : List T → Option Slot := onInts fun ns => match ns with
  | [] => none
  | x :: xs => some (.sh (.int (minI x xs)))
theorem p_max {K : PySem.W.Frag} : OpN c (rMax K) maxN := by
  intro F S σ τ H xs ts z Q A hx hz k
  obtain ⟨a, ns, rfl, h, e⟩ := onInts_of A hx hz
  cases ns with
  | nil => cases e
  | cons x xs =>
    cases e
    refine ⟨a, _, rfl, .inl (.inl h), by simp, fun m hm hb => ?_⟩
    obtain ⟨h1, h2, h3⟩ := maxI_spec xs x
    have hle : maxI x xs ≤ m := by
      rcases h1 with h1 | h1
      · rw [h1]; exact hb x List.mem_cons_self
      · exact hb _ (List.mem_cons_of_mem _ h1)
    have hge : m ≤ maxI x xs := by
      rcases List.mem_cons.mp hm with rfl | hm
      · exact h2
      · exact h3 m hm
    rw [show m = maxI x xs by omega]
    exact fin_sh A k (.int _)
theorem p_min {K : PySem.W.Frag} : OpN c (rMin K) minN := by
  intro F S σ τ H xs ts z Q A hx hz k
  obtain ⟨a, ns, rfl, h, e⟩ := onInts_of A hx hz
  cases ns with
  | nil => cases e
  | cons x xs =>
    cases e
    refine ⟨a, _, rfl, .inl (.inl h), by simp, fun m hm hb => ?_⟩
    obtain ⟨h1, h2, h3⟩ := minI_spec xs x
    have hle : m ≤ minI x xs := by
      rcases h1 with h1 | h1
      · rw [h1]; exact hb x List.mem_cons_self
      · exact hb _ (List.mem_cons_of_mem _ h1)
    have hge : minI x xs ≤ m := by
      rcases List.mem_cons.mp hm with rfl | hm
      · exact h2
      · exact h3 m hm
    rw [show m = minI x xs by omega]
    exact fin_sh A k (.int _)
def max2N : List T → Option Slot
  | [.int i, .int j] => some (.sh (.int (if j > i then j else i)))
  | _ => none
theorem p_max2 : OpN c (fun xs H Q => ∃ i j, xs = [.int i, .int j] ∧ Q (.int (if j > i then j else i)) H) max2N := by
  intro F S σ τ H xs ts z Q A hx hz k
  unfold max2N at hz
  split at hz
  · cases hz
    obtain ⟨v, w, rfl, h, h'⟩ := hx.two
    rw [h.int, h'.int]
    exact ⟨_, _, rfl, fin_sh A k (.int _)⟩
  · cases hz
def min2N : List T → Option Slot
  | [.int i, .int j] => some (.sh (.int (if j < i then j else i)))
  | _ => none
theorem p_min2 : OpN c (fun xs H Q => ∃ i j, xs = [.int i, .int j] ∧ Q (.int (if j < i then j else i)) H) min2N := by
  intro F S σ τ H xs ts z Q A hx hz k
  unfold min2N at hz
  split at hz
  · cases hz
    obtain ⟨v, w, rfl, h, h'⟩ := hx.two
    rw [h.int, h'.int]
    exact ⟨_, _, rfl, fin_sh A k (.int _)⟩
  · cases hz
def maxDfT (t u : T) : Option Slot := match t, u with
  | .lst ts, .int d => (intsT ts).map fun ns => match ns with
    | [] => .sh (.int d)
    | x :: xs => .sh (.int (maxI x xs))
  | _, _ => none
theorem maxOf_eq : ∀ (xs : List Int) (x : Int), PySem.W.maxOf x xs = maxI x xs
  | [], _ => rfl
  | y :: ys, x => by
    have h1 : PySem.W.maxOf x (y :: ys) = PySem.W.maxOf (if PySem.W.DatumOrd.lt x y = true then y else x) ys := rfl
    have h2 : maxI x (y :: ys) = maxI (if x < y then y else x) ys := rfl
    have h3 : (if PySem.W.DatumOrd.lt x y = true then y else x) = if x < y then y else x := by
      show (if decide (x < y) = true then y else x) = _
      simp
    rw [h1, h2, h3, maxOf_eq ys]
theorem de_maxDf {d : Expr} {p' kp : Pos} {fa fd : OF} (hc : X.calm = true) (hu : X.A.units + 10 < cLine) (hg : Gl X "max") (hm : X.mg "max" = none) (ha : PE X e (rdO c fa)) (hd : PE X d (rdO c fd))
    (he : starEach [e] X.env = (false, eval e X.env) :: starEach [] X.env := by rfl) : PE X (.Call (.Name "max" p') [e] [⟨some "default", d, kp⟩] pos) (rdE c (op2 maxDfT fa fd)) := by
  refine PE.imp (pe_maxDf (es := []) (x := "max") hc hu hg hm ha hd he) fun σ H Q q => op2_out (r := fun v w H2 Q => rMaxDf X.K [v] [w] H2 Q) ?_ q
  intro F S σ τ H x y t u z Q A hx hy hz k
  unfold maxDfT at hz
  split at hz
  · obtain ⟨ns, h1, h2⟩ := Option.map_eq_some_iff.mp hz
    have e := intsT_of h1
    subst e
    obtain ⟨p, vs, rfl, h3, r⟩ := hx.lst A.a.fh
    rw [r.ints] at h3
    rw [hy.int]
    refine ⟨p, ns, _, rfl, rfl, .inl (.inl h3), fun e => ?_, fun y ys e => ?_⟩
    · subst e; subst h2; exact fin_sh A k (.int _)
    · subst e; subst h2; rw [maxOf_eq]; exact fin_sh A k (.int _)
  · cases hz
/-! sorted -/
def insI (x : Int) : List Int → List Int
  | [] => [x]
  | y :: ys => if x ≤ y then x :: y :: ys else y :: insI x ys
def sortI : List Int → List Int
  | [] => []
  | x :: xs => insI x (sortI xs)
theorem insI_perm (x : Int) : ∀ ys, (insI x ys).Perm (x :: ys)
  | [] => List.Perm.refl _
  | y :: ys => by
    unfold insI
    split
    · exact List.Perm.refl _
    · exact ((insI_perm x ys).cons y).trans (List.Perm.swap x y ys)
theorem sortI_perm : ∀ xs, (sortI xs).Perm xs
  | [] => List.Perm.refl _
  | x :: xs => (insI_perm x (sortI xs)).trans ((sortI_perm xs).cons x)
theorem insI_pw (x : Int) : ∀ ys : List Int, ys.Pairwise (· ≤ ·) → (insI x ys).Pairwise (· ≤ ·)
  | [], _ => List.pairwise_singleton ..
  | y :: ys, h => by
    unfold insI
    split
    · rename_i hx
      refine List.Pairwise.cons (fun z hz => ?_) h
      rcases List.mem_cons.mp hz with rfl | hz
      · exact hx
      · exact Int.le_trans hx (List.rel_of_pairwise_cons h hz)
    · rename_i hx
      refine List.Pairwise.cons (fun z hz => ?_) (insI_pw x ys h.of_cons)
      rcases List.mem_cons.mp ((insI_perm x ys).subset hz) with rfl | hz
      · omega
      · exact List.rel_of_pairwise_cons h hz
theorem sortI_pw : ∀ xs : List Int, (sortI xs).Pairwise (· ≤ ·)
  | [] => List.Pairwise.nil
  | x :: xs => insI_pw x _ (sortI_pw xs)
def sortedN : List T → Option Slot
  | [.lst ts] => (intsT ts).map fun ns => .ow (.lst ((sortI ns).map T.int))
  | [.tup ts] => (intsT ts).map fun ns => .ow (.lst ((sortI ns).map T.int))
  | _ => none
theorem p_sorted (hK : c.g.K = X.K) : OpN c (rSortedA X.K) sortedN := by
  intro F S σ τ H xs ts z Q A hx hz k
  have fin : ∀ (ns ns' : List Int) (p : Addr), z = .ow (.lst ((sortI ns).map T.int)) → ns'.Perm ns → ns'.Pairwise (· ≤ ·) → H p = none → Q (.ref p) (upd H p (.lst (ns'.map V.int))) := fun ns ns' p e h1 h2 np => by
    subst e
    rw [PySem.W.os_sorted_one (h1.trans (sortI_perm ns).symm) h2 (sortI_pw ns)]
    exact fin_ow A k (.lst (RepAll.of_ints _)) np
  unfold sortedN at hz
  split at hz
  · obtain ⟨ns, h1, h2⟩ := Option.map_eq_some_iff.mp hz
    have e := intsT_of h1
    subst e
    obtain ⟨v, rfl, h⟩ := hx.one
    obtain ⟨p, vs, rfl, h3, r⟩ := h.lst A.a.fh
    rw [r.ints] at h3
    exact ⟨p, ns, rfl, .inl (.inl (.inl h3)), fun ns' p q1 q2 q3 => fin ns ns' p h2.symm q1 q2 q3⟩
  · obtain ⟨ns, h1, h2⟩ := Option.map_eq_some_iff.mp hz
    have e := intsT_of h1
    subst e
    obtain ⟨v, rfl, h⟩ := hx.one
    obtain ⟨p, vs, rfl, h3, r⟩ := h.tup A.a.fh
    rw [r.ints] at h3
    exact ⟨p, ns, rfl, .inr (hK ▸ h3), fun ns' p q1 q2 q3 => fin ns ns' p h2.symm q1 q2 q3⟩
  · cases hz
/-! isinstance -/
def tyN : T → Option String
  | .non => some "NoneType"
  | .bl _ => some "bool"
  | .int _ => some "int"
  | .str _ => some "str"
  | .lst _ => some "list"
  | .tup _ => some "tuple"
  | .dic _ => some "dict"
  | _ => none
def kitN (n : String) : List String → Option Bool
  | [] => some false
  | t :: ts => match kitB n t with
    | some true => some true
    | some false => kitN n ts
    | none => none
def isN (ts : List String) (t : T) : Option Slot := (tyN t).bind fun n => (kitN n ts).map fun b => .sh (.bl b)
theorem PRep.ty {g : Ga} {K : PySem.W.Frag} {F H : Hp} {v : V} {t : T} {n : String} (hK : g.K = K) (s : Same F H) (h : PRep g F H v t) (e : tyN t = some n) : TyX K H v (.type n) := by
  subst hK
  unfold tyN at e
  split at e <;> first
    | (cases e; rw [h.non]; exact .base .non)
    | (cases e; rw [h.bl]; exact .base (.bl _))
    | (cases e; rw [h.int]; exact .base (.int _))
    | (cases e; rw [h.str]; exact .base (.str _))
    | (cases e; obtain ⟨p, vs, rfl, h3, r⟩ := h.lst s; exact .base (.lst h3))
    | (cases e
       obtain ⟨p, vs, rfl, h3, r⟩ := h.tup s
       rcases h3 with (h3 | ⟨o, h3⟩) | ⟨o, its, n, h3, h4, _⟩
       · exact .base (.tup h3)
       · exact .fTuple h3
       · exact .kTuple h3 h4)
    | (cases e; obtain ⟨p, vs, rfl, h3, r⟩ := h.dic s; exact .base (.dK h3))
    | cases e
theorem kitN_any {K : PySem.W.Frag} {n : String} : ∀ {ts : List String} {b : Bool}, kitN n ts = some b → PySem.W.kitAny K (.type n) (ts.map Value.type) = some b
  | [], _, h => by cases h; exact kitAny_nil
  | t :: ts, b, h => by
    unfold kitN at h
    rw [List.map_cons]
    split at h
    · rename_i e
      cases h
      exact kitAny_cons (kit_ty e) (fun z => nomatch z) (fun _ => rfl)
    · rename_i e
      exact kitAny_cons (kit_ty e) (fun _ => kitN_any h) (fun z => nomatch z)
    · cases h
/-- isinstance(e, T) -/
theorem de_isi {t : Str} {n : String} {p' pt : Pos} {fa : OF} (hK : c.g.K = X.K) (hg : Gl X "isinstance") (hm : X.mg "isinstance" = none) (ha : PE X a (rdO c fa)) (gt : Gl X t) (mt : X.mg t = none) (bt : bootBuiltins t = some (.type n)) (nt : t ≠ "__name__" := by decide) (dt : (t == ("__debug__" : Str)) = false := by decide)
    (he : starEach [a, .Name t pt] X.env = (false, eval a X.env) :: starEach [.Name t pt] X.env := by rfl) (hpl : (backTo pos (starEach [.Name t pt] X.env)).any (·.1) = false := by rfl) : PE X (.Call (.Name "isinstance" p') [a, .Name t pt] [] pos) (rdE c (op1 (isN [n]) fa)) := by
  refine PE.imp (pe_callB call_isi hg hm (by decide +kernel) (pa_cons ha (pa_cons (pe_bltn (v := .ty n) gt mt bt rfl nt dt) pa_nil) he) (by decide) (by decide) he hpl) fun σ H Q q => op1_out (r := fun x H1 Q => rIsi X.K [x, .ty n] H1 Q) ?_ q
  intro F S σ τ H x t z Q A hx hz k
  obtain ⟨m, h1, h2⟩ := Option.bind_eq_some_iff.mp hz
  obtain ⟨b, h3, h4⟩ := Option.map_eq_some_iff.mp h2
  subst h4
  refine ⟨x, .ty n, .type m, .type n, b, rfl, .ty n, hx.ty hK A.a.fh h1, ?_, fin_sh A k (.bl _)⟩
  unfold kitN at h3
  split at h3
  · rename_i e; cases h3; exact kit_ty e
  · rename_i e; cases h3; exact kit_ty e
  · cases h3
/-- isinstance(e, (T, U)) -/
theorem de_isi2 {t u : Str} {n m : String} {p' pt pu pp : Pos} {kk : Nat} {fa : OF} (hK : c.g.K = X.K) (hg : Gl X "isinstance") (hm : X.mg "isinstance" = none) (ha : PE X a (rdO c fa)) (gt : Gl X t) (mt : X.mg t = none) (bt : bootBuiltins t = some (.type n)) (gu : Gl X u) (mu : X.mg u = none) (bu : bootBuiltins u = some (.type m))
    (nt : t ≠ "__name__" := by decide) (dt : (t == ("__debug__" : Str)) = false := by decide) (nu : u ≠ "__name__" := by decide) (du : (u == ("__debug__" : Str)) = false := by decide)
    (he : starEach [a, .Tuple [.Name t pt, .Name u pu] kk pp] X.env = (false, eval a X.env) :: starEach [.Tuple [.Name t pt, .Name u pu] kk pp] X.env := by rfl) (hpl : (backTo pos (starEach [.Tuple [.Name t pt, .Name u pu] kk pp] X.env)).any (·.1) = false := by rfl) :
    PE X (.Call (.Name "isinstance" p') [a, .Tuple [.Name t pt, .Name u pu] kk pp] [] pos) (rdE c (op1 (isN [n, m]) fa)) := by
  refine PE.imp (pe_callB call_isiT hg hm (by decide +kernel) (pa_cons ha (pa_cons (pe_tup (pa_cons (pe_bltn (v := .ty n) gt mt bt rfl nt dt) (pa_cons (pe_bltn (v := .ty m) gu mu bu rfl nu du) pa_nil))) pa_nil) he) (by decide) (by decide) he hpl)
    fun σ H Q q => op1_out (r := fun x H1 Q => 2 ≤ sizeLine ∧ ∀ p, H1 p = none → rIsiT X.K [x, .ref p] (upd H1 p (.tup [.ty n, .ty m])) Q) ?_ q
  intro F S σ τ H x t z Q A hx hz k
  obtain ⟨m', h1, h2⟩ := Option.bind_eq_some_iff.mp hz
  obtain ⟨b, h3, h4⟩ := Option.map_eq_some_iff.mp h2
  subst h4
  refine ⟨by rw [sizeLine_eq]; decide, fun p np => ?_⟩
  have st : Same H (upd H p (.tup [V.ty n, V.ty m])) := fun b w q => by rw [upd_ne (ne_of_none q np)]; exact q
  have A2 : AbsX c F S σ τ (upd H p (.tup [V.ty n, V.ty m])) := by
    obtain ⟨cc, n1, n2⟩ := A.a.nib
    refine ⟨⟨A.a.fh.trans st, A.a.fn, ⟨cc, st _ _ n1, n2⟩, fun a w q n => st _ _ (A.a.keep a w q n), A.a.fre, A.a.len, fun i s q h1 h2 => ?_, A.a.ds⟩, A.l⟩
    have h := A.a.sl i s q h1 h2
    cases s with
    | no => trivial
    | sh t => exact h
    | ow t1 =>
      obtain ⟨a, e, ⟨w, hw, mk⟩, r⟩ := h
      exact ⟨a, e, ⟨w, st _ _ hw, mk⟩, r⟩
  have hx2 : PRep c.g F (upd H p (.tup [V.ty n, V.ty m])) x t := by
    rcases hx with hx | ⟨a, u, e, hu, mk⟩
    · exact .inl hx
    · exact .inr ⟨a, u, e, st _ _ hu, mk⟩
  exact ⟨x, p, [.ty n, .ty m], .type m', [.type n, .type m], b, rfl, upd_same, .cons (.ty n) (.cons (.ty m) .nil), hx2.ty hK A2.a.fh h1, kitN_any h3, fin_sh A2 k (.bl _)⟩
/-! list(range(..)) -/
def rgT (a b : Int) : List T := (List.range (b - a).toNat).map fun i => T.int (a + (i : Nat))
theorem rgT_rep {g : Ga} {F : Hp} (a b : Int) : RepAll g F (rgV a b) (rgT a b) := by
  unfold rgV rgT
  generalize List.range (b - a).toNat = l
  induction l with
  | nil => exact .nil
  | cons x xs ih => exact .cons (.int _) ih
def lrg1 : T → Option Slot
  | .int n => if -(2 ^ 62) ≤ n ∧ n ≤ 16777216 then some (.ow (.lst (rgT 0 n))) else none
  | _ => none
def lrg2 : T → T → Option Slot
  | .int a, .int b => if -(2 ^ 62) ≤ a ∧ a ≤ 2 ^ 61 ∧ -(2 ^ 62) ≤ b ∧ b ≤ 2 ^ 61 ∧ (b - a).toNat ≤ 16777216 then some (.ow (.lst (rgT a b))) else none
  | _, _ => none
def trg1 : T → Option Slot
  | .int n => if -(2 ^ 62) ≤ n ∧ n ≤ 16777216 then some (.sh (.tup (rgT 0 n))) else none
  | _ => none
theorem de_lrg1 {p1 p2 pos2 : Pos} {fa : OF} (hc : X.calm = true) (hg : Gl X "list") (hm : X.mg "list" = none) (hg2 : Gl X "range") (hm2 : X.mg "range" = none) (ha : PE X a (rdO c fa)) (na : starEach [a] X.env = (false, eval a X.env) :: starEach [] X.env := by rfl) :
    PE X (.Call (.Name "list" p1) [.Call (.Name "range" p2) [a] [] pos2] [] pos) (rdE c (op1 lrg1 fa)) := by
  refine PE.imp (pe_listRg hc hg hm (prg_1 hg2 hm2 ha na) rfl) fun σ H Q q => op1_out (r := fun x H1 Q => ∃ n, x = .int n ∧ RgOk 0 n ∧ ∀ q, H1 q = none → Q (.ref q) (upd H1 q (.lst (rgV 0 n)))) ?_ q
  intro F S σ τ H x t z Q A hx hz k
  unfold lrg1 at hz
  split at hz
  · split at hz
    · cases hz
      rename_i h
      rw [hx.int]
      exact ⟨_, rfl, ⟨by omega, by omega, by omega, by omega, by omega⟩, fun q np => fin_ow A k (.lst (rgT_rep 0 _)) np⟩
    · cases hz
  · cases hz
theorem de_trg1 {p1 p2 pos2 : Pos} {fa : OF} (hc : X.calm = true) (hg : Gl X "tuple") (hm : X.mg "tuple" = none) (hg2 : Gl X "range") (hm2 : X.mg "range" = none) (ha : PE X a (rdO c fa)) (na : starEach [a] X.env = (false, eval a X.env) :: starEach [] X.env := by rfl) :
    PE X (.Call (.Name "tuple" p1) [.Call (.Name "range" p2) [a] [] pos2] [] pos) (rdE c (op1 trg1 fa)) := by
  refine PE.imp (pe_tupRgF hc hg hm (prg_1 hg2 hm2 ha na) rfl) fun σ H Q q => op1_out (r := fun x H1 Q => ∃ n, x = .int n ∧ RgOk 0 n ∧ ∀ (q : Addr) (o : Obj), H1 q = none → o.dict = none → Q (.ref q) (upd H1 q (.frz o (.tup (rgV 0 n))))) ?_ q
  intro F S σ τ H x t z Q A hx hz k
  unfold trg1 at hz
  split at hz
  · split at hz
    · cases hz
      rename_i h
      rw [hx.int]
      exact ⟨_, rfl, ⟨by omega, by omega, by omega, by omega, by omega⟩, fun q o np hd => fin_tup A k (rgT_rep 0 _) np hd⟩
    · cases hz
  · cases hz
theorem de_lrg2 {p1 p2 pos2 : Pos} {fa fb : OF} (hc : X.calm = true) (hg : Gl X "list") (hm : X.mg "list" = none) (hg2 : Gl X "range") (hm2 : X.mg "range" = none) (ha : PE X a (rdO c fa)) (hb : PE X b (rdO c fb)) (na : starEach [a, b] X.env = (false, eval a X.env) :: starEach [b] X.env := by rfl) (nb : starEach [b] X.env = (false, eval b X.env) :: starEach [] X.env := by rfl) :
    PE X (.Call (.Name "list" p1) [.Call (.Name "range" p2) [a, b] [] pos2] [] pos) (rdE c (op2 lrg2 fa fb)) := by
  refine PE.imp (pe_listRg hc hg hm (prg_2 hg2 hm2 ha hb na nb (by rw [nb]; rfl)) rfl) fun σ H Q q => op2_out (r := fun x y H1 Q => ∃ i j, x = .int i ∧ y = .int j ∧ RgOk i j ∧ ∀ q, H1 q = none → Q (.ref q) (upd H1 q (.lst (rgV i j)))) ?_ q
  intro F S σ τ H x y t u z Q A hx hy hz k
  unfold lrg2 at hz
  split at hz
  · split at hz
    · cases hz
      rename_i h
      rw [hx.int, hy.int]
      exact ⟨_, _, rfl, rfl, ⟨by omega, by omega, by omega, by omega, by omega⟩, fun q np => fin_ow A k (.lst (rgT_rep _ _)) np⟩
    · cases hz
  · cases hz
end
end TL

end
section
set_option Elab.async false
set_option linter.all false
set_option maxRecDepth 100000
set_option autoImplicit false
/-! TL7: what is walked, targets, comprehensions -/
open PySem PySem.Spec PyProof.Rows L2
namespace TL
structure IterOk (c : Cfg) (J : It) (F : Hp) (ts : List T) : Prop where
  stop : ∀ H, Same F H → J.stop ts.length H
  go : ∀ i H, i < ts.length → Same F H → J.go i H
  yld : ∀ (i : Nat) (x : V) (H H' F' : Hp) (S : Sta) (σ τ : List (Option V)), i < ts.length → Same F F' → AbsX c F' S σ τ H → J.yld i H x H' → ∃ t F'', ts[i]? = some t ∧ Same F' F'' ∧ AbsX c F'' (S.push (.sh t)) σ (τ ++ [some x]) H'
abbrev IF := Sta → R (List T)
def iP (c : Cfg) (σ τ : List (Option V)) (Q : It → Hp → Prop) : List T → Sta → Hp → Hp → Prop := fun ts S F' H' => ∀ J, AbsX c F' S σ τ H' → IterOk c J F' ts → Q J H'
def rdI (c : Cfg) (f : IF) : TI := fun σ H Q => ∃ τ F S, AbsX c F S σ τ H ∧ rOut c F σ τ (iP c σ τ Q) (f S)
theorem PI.imp {X : Cx} {tg e : Expr} {t t' : TI} (h : PI X tg e t) (w : ∀ σ H Q, t' σ H Q → t σ H Q) : PI X tg e t' := ⟨fun pins s σ H Q I q => h.run pins s σ H Q I (w σ H Q q)⟩
section
variable {X : Cx} {tg : Expr}
def iSeq (K : PySem.W.Frag) (tl : TE) : TI := fun σ H R => tl σ H fun x H1 => (∃ a, x = .ref a ∧ (∃ xs, SqL K H1 a xs) ∧ R (Itl K a) H1) ∨ (∃ a, x = .ref a ∧ (∃ xs, SqT K H1 a xs) ∧ R (Itt K a) H1)
theorem pi_seq {l : Expr} {tl : TE} (hl : PE X l tl) : PI X tg l (iSeq X.K tl) := by
  refine ⟨fun pins s σ H R I h => ?_⟩
  refine thn (hl.run pins s σ H _ I h) fun v s1 ⟨x, H1, I1, r1, q1⟩ => ?_
  rcases q1 with ⟨a, e, ⟨xs, hq⟩, q⟩ | ⟨a, e, ⟨xs, hq⟩, q⟩
  · subst e
    cases r1
    obtain ⟨its, rv, p, hz⟩ := I1.list hq
    refine wpAny_pyIter_list p.isList ?_
    refine ⟨s1.heap.objs.size, [s1.heap.objs.size], _, _, H1, rfl, I1.kept (t' := s1.toks) fun b o e => Heap.get?_push_of_some _ e, turn_list a _, ⟨_, Heap.get?_push_size _ rfl, rfl, rfl⟩, fun b hb => ?_, q⟩
    have e : b = s1.heap.objs.size := by simpa using hb
    subst e
    exact I1.fpOk (Nat.le_refl _) (I1.hok.fresh (Nat.le_refl _))
  · subst e
    cases r1
    obtain ⟨its, rv, p, hz⟩ := I1.tuple hq
    refine wpAny_pyIter_tuple (show s1.heap.IsTuple a its.toArray from p) ?_
    refine ⟨s1.heap.objs.size, [s1.heap.objs.size], _, _, H1, rfl, I1.kept (t' := s1.toks) fun b o e => Heap.get?_push_of_some _ e, turn_tuple a _, ⟨_, Heap.get?_push_size _ rfl, rfl, rfl⟩, fun b hb => ?_, q⟩
    have e : b = s1.heap.objs.size := by simpa using hb
    subst e
    exact I1.fpOk (Nat.le_refl _) (I1.hok.fresh (Nat.le_refl _))
end
def seqI (fa : OF) : IF := fun S => (fa S).bind fun o S1 => match o with
  | .val (.lst ts) => .ok ts S1
  | .val (.tup ts) => .ok ts S1
  | _ => .stuck
def enumT (i : Nat) : List T → List T
  | [] => []
  | t :: ts => .wtp [.int i, t] :: enumT (i + 1) ts
def enumI (fa : OF) : IF := fun S => (fa S).bind fun o S1 => match o with
  | .val (.lst ts) => .ok (enumT 0 ts) S1
  | .val (.tup ts) => .ok (enumT 0 ts) S1
  | _ => .stuck
def zipT : List T → List T → List T
  | t :: ts, u :: us => .wtp [t, u] :: zipT ts us
  | _, _ => []
def zipI (fa fb : OF) : IF := fun S => (fa S).bind fun o S1 => (fb S1).bind fun o' S2 => match o, o' with
  | .val (.lst ts), .val (.lst us) => .ok (zipT ts us) S2
  | .val (.tup ts), .val (.tup us) => .ok (zipT ts us) S2
  | _, _ => .stuck
def rngI1 (fa : OF) : IF := fun S => (fa S).bind fun o S1 => match o with
  | .val (.int n) => if -(2 ^ 62) ≤ n ∧ n < 2 ^ 62 then .ok (rgT 0 n) S1 else .stuck
  | _ => .stuck
def rngI2 (fa fb : OF) : IF := fun S => (fa S).bind fun o S1 => (fb S1).bind fun o' S2 => match o, o' with
  | .val (.int a), .val (.int b) => if -(2 ^ 62) ≤ a ∧ a < 2 ^ 62 ∧ -(2 ^ 62) ≤ b ∧ b < 2 ^ 62 then .ok (rgT a b) S2 else .stuck
  | _, _ => .stuck
theorem rgT_length (a b : Int) : (rgT a b).length = (b - a).toNat := by unfold rgT; rw [List.length_map, List.length_range]
theorem rgT_get {a b : Int} {i : Nat} (h : i < (b - a).toNat) : (rgT a b)[i]? = some (.int (a + (i : Nat))) := by
  unfold rgT
  rw [List.getElem?_map, List.getElem?_range h]
  rfl
theorem enumT_length : ∀ (ts : List T) (i : Nat), (enumT i ts).length = ts.length
  | [], _ => rfl
  | _ :: ts, i => by unfold enumT; rw [List.length_cons, List.length_cons, enumT_length ts]
theorem enumT_get : ∀ (ts : List T) (i j : Nat) (t : T), ts[j]? = some t → (enumT i ts)[j]? = some (.wtp [.int ((i + j : Nat) : Int), t])
  | [], _, _, _, h => by simp at h
  | _ :: ts, i, 0, t, h => by simp at h; subst h; rfl
  | _ :: ts, i, j + 1, t, h => by
    have h1 := enumT_get ts (i + 1) j t (by simpa using h)
    unfold enumT
    rw [List.getElem?_cons_succ, h1, show i + 1 + j = i + (j + 1) by omega]
theorem zipT_length : ∀ (ts us : List T), (zipT ts us).length = min ts.length us.length
  | [], us => by cases us <;> simp [zipT]
  | _ :: _, [] => by simp [zipT]
  | _ :: ts, _ :: us => by simp only [zipT, List.length_cons, zipT_length ts us]; omega
theorem zipT_get : ∀ (ts us : List T) (j : Nat) (t u : T), ts[j]? = some t → us[j]? = some u → (zipT ts us)[j]? = some (.wtp [t, u])
  | [], _, _, _, _, h, _ => by simp at h
  | _ :: _, [], _, _, _, _, h => by simp at h
  | _ :: ts, _ :: us, 0, t, u, h, h' => by simp at h h'; subst h h'; rfl
  | _ :: ts, _ :: us, j + 1, t, u, h, h' => by
    have := zipT_get ts us j t u (by simpa using h) (by simpa using h')
    unfold zipT
    rw [List.getElem?_cons_succ, this]
section
variable {X : Cx} {c : Cfg} {tg e a b : Expr} {pos : Pos} {F : Hp} {ad bd : Addr} {vs ws : List V} {ts us : List T}
theorem it_list (e : F ad = some (.lst vs)) (r : RepAll c.g F vs ts) : IterOk c (Itl X.K ad) F ts where
  stop := fun H s => ⟨vs, .inl (.inl (s _ _ e)), by rw [r.length]; exact Nat.le_refl _⟩
  go := fun i H hi s => ⟨vs, vs[i]'(by rw [r.length]; exact hi), .inl (.inl (s _ _ e)), by simp⟩
  yld := fun i x H H' F' S σ τ hi s A y => by
    obtain ⟨rfl, y⟩ := y
    obtain ⟨t, h1, h2⟩ := r.getV (y vs (.inl (.inl (A.a.fh _ _ (s _ _ e)))))
    exact ⟨t, F', h1, Same.refl _, A.pushSh (h2.mono s)⟩
theorem it_tup (e : SqT X.K F ad vs) (r : RepAll c.g F vs ts) : IterOk c (Itt X.K ad) F ts where
  stop := fun H s => ⟨vs, sameSqT s e, by rw [r.length]; exact Nat.le_refl _⟩
  go := fun i H hi s => ⟨vs, vs[i]'(by rw [r.length]; exact hi), sameSqT s e, by simp⟩
  yld := fun i x H H' F' S σ τ hi s A y => by
    obtain ⟨rfl, y⟩ := y
    obtain ⟨t, h1, h2⟩ := r.getV (y vs (sameSqT (s.trans A.a.fh) e))
    exact ⟨t, F', h1, Same.refl _, A.pushSh (h2.mono s)⟩
theorem it_rng {lo hi : Int} : IterOk c (Itr lo (hi - lo).toNat) F (rgT lo hi) where
  stop := fun H s => by rw [rgT_length]; exact Nat.le_refl _
  go := fun i H h s => by rw [rgT_length] at h; exact h
  yld := fun i x H H' F' S σ τ h s A y => by
    rw [rgT_length] at h
    obtain ⟨rfl, rfl⟩ := y
    exact ⟨_, F', rgT_get h, Same.refl _, A.pushSh (.int _)⟩
theorem pair_new {F' H : Hp} {S : Sta} {σ τ : List (Option V)} {p : Addr} {v w : V} {t u : T} (A : AbsX c F' S σ τ H) (np : H p = none) (r : Rep c.g F' v t) (q : Rep c.g F' w u) : ∃ F'', Same F' F'' ∧ AbsX c F'' (S.push (.sh (.wtp [t, u]))) σ (τ ++ [some (.ref p)]) (upd H p (.tup [v, w])) :=
  A.newWtp (.cons r (.cons q .nil)) np
theorem it_enumL (e : F ad = some (.lst vs)) (r : RepAll c.g F vs ts) : IterOk c (Ite X.K ad) F (enumT 0 ts) where
  stop := fun H s => ⟨vs, .inl (.inl (s _ _ e)), by rw [enumT_length, r.length]; exact Nat.le_refl _⟩
  go := fun i H hi s => by
    rw [enumT_length] at hi
    exact ⟨vs, vs[i]'(by rw [r.length]; exact hi), .inl (.inl (s _ _ e)), by simp⟩
  yld := fun i x H H' F' S σ τ hi s A y => by
    obtain ⟨T, v, rfl, np, rfl, y⟩ := y
    obtain ⟨t, h1, h2⟩ := r.getV (y vs (.inl (.inl (A.a.fh _ _ (s _ _ e)))))
    obtain ⟨F'', s', A'⟩ := pair_new A np (.int (i : Nat)) (h2.mono s)
    exact ⟨_, F'', by have := enumT_get ts 0 i t h1; rw [Nat.zero_add] at this; exact this, s', A'⟩
theorem it_enumT (e : SqT X.K F ad vs) (r : RepAll c.g F vs ts) : IterOk c (IteT X.K ad) F (enumT 0 ts) where
  stop := fun H s => ⟨vs, sameSqT s e, by rw [enumT_length, r.length]⟩
  go := fun i H hi s => by
    rw [enumT_length] at hi
    exact ⟨vs, vs[i]'(by rw [r.length]; exact hi), sameSqT s e, by simp⟩
  yld := fun i x H H' F' S σ τ hi s A y => by
    obtain ⟨T, v, rfl, np, rfl, y⟩ := y
    obtain ⟨t, h1, h2⟩ := r.getV (y vs (sameSqT (s.trans A.a.fh) e))
    obtain ⟨F'', s', A'⟩ := pair_new A np (.int (i : Nat)) (h2.mono s)
    exact ⟨_, F'', by have := enumT_get ts 0 i t h1; rw [Nat.zero_add] at this; exact this, s', A'⟩
theorem it_zipL (e : F ad = some (.lst vs)) (r : RepAll c.g F vs ts) (e2 : F bd = some (.lst ws)) (r2 : RepAll c.g F ws us) : IterOk c (Itz X.K ad bd) F (zipT ts us) where
  stop := fun H s => ⟨vs, ws, .inl (.inl (s _ _ e)), .inl (.inl (s _ _ e2)), by rw [zipT_length, r.length, r2.length]; omega⟩
  go := fun i H hi s => by
    rw [zipT_length] at hi
    exact ⟨vs, ws, vs[i]'(by rw [r.length]; omega), ws[i]'(by rw [r2.length]; omega), .inl (.inl (s _ _ e)), .inl (.inl (s _ _ e2)), by simp, by simp⟩
  yld := fun i x H H' F' S σ τ hi s A y => by
    obtain ⟨T, v, w, rfl, np, rfl, y, y2⟩ := y
    obtain ⟨t, h1, h2⟩ := r.getV (y vs (.inl (.inl (A.a.fh _ _ (s _ _ e)))))
    obtain ⟨u, h3, h4⟩ := r2.getV (y2 ws (.inl (.inl (A.a.fh _ _ (s _ _ e2)))))
    obtain ⟨F'', s', A'⟩ := pair_new A np (h2.mono s) (h4.mono s)
    exact ⟨_, F'', zipT_get ts us i t u h1 h3, s', A'⟩
theorem it_zipT (e : SqT X.K F ad vs) (r : RepAll c.g F vs ts) (e2 : SqT X.K F bd ws) (r2 : RepAll c.g F ws us) : IterOk c (RZ.ItzT X.K ad bd) F (zipT ts us) where
  stop := fun H s => ⟨vs, ws, sameSqT s e, sameSqT s e2, by rw [zipT_length, r.length, r2.length]; omega⟩
  go := fun i H hi s => by
    rw [zipT_length] at hi
    exact ⟨vs, ws, vs[i]'(by rw [r.length]; omega), ws[i]'(by rw [r2.length]; omega), sameSqT s e, sameSqT s e2, by simp, by simp⟩
  yld := fun i x H H' F' S σ τ hi s A y => by
    obtain ⟨T, v, w, rfl, np, rfl, y, y2⟩ := y
    obtain ⟨t, h1, h2⟩ := r.getV (y vs (sameSqT (s.trans A.a.fh) e))
    obtain ⟨u, h3, h4⟩ := r2.getV (y2 ws (sameSqT (s.trans A.a.fh) e2))
    obtain ⟨F'', s', A'⟩ := pair_new A np (h2.mono s) (h4.mono s)
    exact ⟨_, F'', zipT_get ts us i t u h1 h3, s', A'⟩
theorem di_seq {fa : OF} (hK : c.g.K = X.K) (ha : PE X a (rdO c fa)) : PI X tg a (rdI c (seqI fa)) := by
  refine PI.imp (pi_seq ha) fun σ H Q q => ?_
  obtain ⟨τ, F, S, A, q⟩ := q
  refine ⟨τ, F, S, A, rOut.bind q fun o S1 F1 H1 s1 q1 v A1 r1 => ?_⟩
  split at q1
  · cases r1 with
    | lst e r => exact .inl ⟨_, rfl, ⟨_, .inl (.inl (A1.a.fh _ _ e))⟩, q1 H1 F1 (Same.refl F1) _ A1 (it_list e r)⟩
  · cases r1 with
    | tup e r => exact .inr ⟨_, rfl, ⟨_, hK ▸ sameSqT A1.a.fh e.sq⟩, q1 H1 F1 (Same.refl F1) _ A1 (it_tup (hK ▸ e.sq) r)⟩
  · exact q1.elim
theorem di_enum {elts : List Expr} {kk : Nat} {tpos p : Pos} {fa : OF} (hK : c.g.K = X.K) (hg : Gl X "enumerate") (hm : X.mg "enumerate" = none) (ha : PE X a (rdO c fa)) (hs : starEach [a] X.env = [(false, eval a X.env)] := by rfl) :
    PI X (.Tuple elts kk tpos) (.Call (.Name "enumerate" p) [a] [] pos) (rdI c (enumI fa)) := by
  refine PI.imp (pi_enumA hg hm (pa_cons ha pa_nil hs) hs) fun σ H Q q => ?_
  obtain ⟨τ, F, S, A, q⟩ := q
  refine ⟨τ, F, S, A, rOut.bind q fun o S1 F1 H1 s1 q1 v A1 r1 => ?_⟩
  split at q1
  · cases r1 with
    | lst e r => exact ⟨_, _, rfl, .inl ⟨.inl (.inl (A1.a.fh _ _ e)), q1 H1 F1 (Same.refl F1) _ A1 (it_enumL e r)⟩⟩
  · cases r1 with
    | tup e r => exact ⟨_, _, rfl, .inr ⟨hK ▸ sameSqT A1.a.fh e.sq, q1 H1 F1 (Same.refl F1) _ A1 (it_enumT (hK ▸ e.sq) r)⟩⟩
  · exact q1.elim
theorem di_zip {elts : List Expr} {kk : Nat} {tpos p : Pos} {fa fb : OF} (hK : c.g.K = X.K) (hg : Gl X "zip") (hm : X.mg "zip" = none) (ha : PE X a (rdO c fa)) (hb : PE X b (rdO c fb)) (hs : starEach [a, b] X.env = [(false, eval a X.env), (false, eval b X.env)] := by rfl) (hs2 : starEach [b] X.env = [(false, eval b X.env)] := by rfl) :
    PI X (.Tuple elts kk tpos) (.Call (.Name "zip" p) [a, b] [] pos) (rdI c (zipI fa fb)) := by
  refine PI.imp (RZ.pi_zipA hg hm (pa_cons ha (pa_cons hb pa_nil hs2) (by rw [hs, hs2])) (by rw [hs, hs2]) (by rw [hs2]; rfl)) fun σ H Q q => ?_
  obtain ⟨τ, F, S, A, q⟩ := q
  refine ⟨τ, F, S, A, rOut.bind q fun o S1 F1 H1 s1 q1 v A1 r1 => ⟨τ, F1, S1, A1, rOut.bind q1 fun o2 S2 F2 H2 s2 q2 w A2 r2 => ?_⟩⟩
  have r1' := r1.mono s2
  split at q2
  · cases r1' with
    | lst e r =>
      cases r2 with
      | lst e2 r2 => exact ⟨_, _, _, _, rfl, .inl ⟨.inl (.inl (A2.a.fh _ _ e)), .inl (.inl (A2.a.fh _ _ e2)), q2 H2 F2 (Same.refl F2) _ A2 (it_zipL e r e2 r2)⟩⟩
  · cases r1' with
    | tup e r =>
      cases r2 with
      | tup e2 r2 => exact ⟨_, _, _, _, rfl, .inr ⟨hK ▸ sameSqT A2.a.fh e.sq, hK ▸ sameSqT A2.a.fh e2.sq, q2 H2 F2 (Same.refl F2) _ A2 (it_zipT (hK ▸ e.sq) r (hK ▸ e2.sq) r2)⟩⟩
  · exact q2.elim
theorem di_rng1 {p : Pos} {fa : OF} (hg : Gl X "range") (hm : X.mg "range" = none) (ha : PE X a (rdO c fa)) (hs : starEach [a] X.env = [(false, eval a X.env)] := by rfl) : PI X tg (.Call (.Name "range" p) [a] [] pos) (rdI c (rngI1 fa)) := by
  refine PI.imp (pi_range1 hg hm (pa_cons ha pa_nil hs) hs) fun σ H Q q => ?_
  obtain ⟨τ, F, S, A, q⟩ := q
  refine ⟨τ, F, S, A, rOut.bind q fun o S1 F1 H1 s1 q1 v A1 r1 => ?_⟩
  split at q1
  · cases r1
    split at q1
    · rename_i h
      refine ⟨_, rfl, h.1, h.2, ?_⟩
      have := q1 H1 F1 (Same.refl F1) _ A1 it_rng
      rw [Int.sub_zero] at this
      exact this
    · exact q1.elim
  · exact q1.elim
theorem di_rng2 {p : Pos} {fa fb : OF} (hg : Gl X "range") (hm : X.mg "range" = none) (ha : PE X a (rdO c fa)) (hb : PE X b (rdO c fb)) (hs : starEach [a, b] X.env = [(false, eval a X.env), (false, eval b X.env)] := by rfl) (hs2 : starEach [b] X.env = [(false, eval b X.env)] := by rfl) : PI X tg (.Call (.Name "range" p) [a, b] [] pos) (rdI c (rngI2 fa fb)) := by
  refine PI.imp (pi_range2 hg hm (pa_cons ha (pa_cons hb pa_nil hs2) (by rw [hs, hs2])) hs hs2) fun σ H Q q => ?_
  obtain ⟨τ, F, S, A, q⟩ := q
  refine ⟨τ, F, S, A, rOut.bind q fun o S1 F1 H1 s1 q1 v A1 r1 => ⟨τ, F1, S1, A1, rOut.bind q1 fun o2 S2 F2 H2 s2 q2 w A2 r2 => ?_⟩⟩
  have r1' := r1.mono s2
  split at q2
  · cases r1'
    cases r2
    split at q2
    · rename_i h
      exact ⟨_, _, rfl, h, q2 H2 F2 (Same.refl F2) _ A2 it_rng⟩
    · exact q2.elim
  · exact q2.elim
end

/-! ### targets -/
inductive Tg where
  | nm (i : Nat) | tp (l : List Nat)
def Tg.slots : Tg → List Nat
  | .nm i => [i]
  | .tp l => l
def putAll : List Nat → List T → Sta → Option Sta
  | [], [], S => some S
  | i :: l, t :: ts, S => if i < S.lo.length then putAll l ts (S.put i (.sh t)) else none
  | _, _, _ => none
def Tg.put (g : Tg) (t : T) (S : Sta) : Option Sta := match g with
  | .nm i => if i < S.lo.length then some (S.put i (.sh t)) else none
  | .tp l => match t with
    | .tup ts => putAll l ts S
    | .wtp ts => putAll l ts S
    | .lst ts => putAll l ts S
    | _ => none
def rdG (c : Cfg) (g : Tg) : TG := fun v σ H Q => ∃ τ F S t S', AbsX c F (S.push (.sh t)) σ (τ ++ [some v]) H ∧ g.put t S = some S' ∧ ∀ σ', AbsX c F S' σ' τ H → (∀ j, j ∉ g.slots → σ'[j]? = σ[j]?) → Q σ' H
section
variable {X : Cx} {c : Cfg} {pos : Pos}
theorem PG.imp {e : Expr} {t t' : TG} (h : PG X e t) (w : ∀ v σ H Q, t' v σ H Q → t v σ H Q) : PG X e t' := ⟨fun pins s σ H v u Q I r q => h.run pins s σ H v u Q I r (w v σ H Q q)⟩
theorem dg_nm {i : Nat} {x : Str} (h : PG X (.Name x pos) (gName i)) : PG X (.Name x pos) (rdG c (.nm i)) := by
  refine PG.imp h fun v σ H Q q => ?_
  obtain ⟨τ, F, S, t, S', A, e, q⟩ := q
  unfold Tg.put at e
  dsimp only at e
  split at e
  · rename_i hi
    cases e
    have hl : S.lo.length = σ.length := A.l
    exact q _ (A.assign (by rw [← hl]; exact hi)) fun j hj => by
      rw [List.getElem?_set_ne]
      intro z; subst z; exact hj (by simp [Tg.slots])
  · cases e
def gAll : List Nat → TGs
  | [] => gNil
  | i :: l => gCons (gName i) (gAll l)
theorem gAll_ok {τ : List (Option V)} {F H : Hp} : ∀ (l : List Nat) (ts : List T) (vs : List V) (S S' : Sta) (σ : List (Option V)) (Q : L2.St → Hp → Prop), AbsX c F S σ τ H → RepAll c.g F vs ts → putAll l ts S = some S' → (∀ σ', AbsX c F S' σ' τ H → (∀ j, j ∉ l → σ'[j]? = σ[j]?) → Q σ' H) → gAll l vs σ H Q
  | [], [], _, S, S', σ, Q, A, r, e, q => by
    cases r
    cases e
    exact ⟨rfl, q σ A fun _ _ => rfl⟩
  | i :: l, t :: ts, _, S, S', σ, Q, A, r, e, q => by
    cases r with
    | cons r1 r2 =>
      unfold putAll at e
      split at e
      · rename_i hi
        refine ⟨_, _, rfl, ?_⟩
        refine gAll_ok l ts _ _ S' _ Q ((A.pushSh r1).assign (by rw [← A.l]; exact hi)) r2 e fun σ' A' h => q σ' A' fun j hj => ?_
        rw [h j (fun z => hj (List.mem_cons_of_mem _ z)), List.getElem?_set_ne]
        intro z; subst z; exact hj List.mem_cons_self
      · cases e
  | [], _ :: _, _, _, _, _, _, _, _, e, _ => by cases e
  | _ :: _, [], _, _, _, _, _, _, _, e, _ => by cases e
def gSq (K : PySem.W.Frag) (n : Nat) (t : TGs) : TG := fun v σ H Q => ∃ a xs, v = .ref a ∧ (SqT K H a xs ∨ SqL K H a xs) ∧ xs.length = n ∧ t xs σ H Q
theorem pg_sq {es : List Expr} {k : Nat} {t : TGs} {n : Nat} (h1 : PG X (.Tuple es k pos) (gTup X.K n t)) (h2 : PG X (.Tuple es k pos) (gUnl X.K n t)) : PG X (.Tuple es k pos) (gSq X.K n t) := by
  refine ⟨fun pins s σ H v u Q I r q => ?_⟩
  obtain ⟨a, xs, e, hs, hl, q⟩ := q
  rcases hs with hs | hs
  · exact h1.run pins s σ H v u Q I r ⟨a, xs, e, hs, hl, q⟩
  · exact h2.run pins s σ H v u Q I r ⟨a, xs, e, hs, hl, q⟩
theorem putAll_len : ∀ {l : List Nat} {ts : List T} {S S' : Sta}, putAll l ts S = some S' → ts.length = l.length
  | [], [], _, _, _ => rfl
  | _ :: _, _ :: _, _, _, e => by
    unfold putAll at e
    split at e
    · rw [List.length_cons, List.length_cons, putAll_len e]
    · cases e
  | [], _ :: _, _, _, e => by cases e
  | _ :: _, [], _, _, e => by cases e
theorem dg_tp {es : List Expr} {k : Nat} {l : List Nat} (hK : c.g.K = X.K) (h1 : PG X (.Tuple es k pos) (gTup X.K l.length (gAll l))) (h2 : PG X (.Tuple es k pos) (gUnl X.K l.length (gAll l))) : PG X (.Tuple es k pos) (rdG c (.tp l)) := by
  refine PG.imp (pg_sq h1 h2) fun v σ H Q q => ?_
  obtain ⟨τ, F, S, t, S', A, e, q⟩ := q
  unfold Tg.put at e
  dsimp only at e
  split at e
  · have r := A.topSh
    cases r with
    | tup h a => exact ⟨_, _, rfl, .inl (hK ▸ sameSqT A.a.fh h.sq), by rw [a.length, putAll_len e], gAll_ok l _ _ S S' σ Q A.pop a e q⟩
  · have r := A.topSh
    cases r with
    | wtp h a => exact ⟨_, _, rfl, .inl (hK ▸ sameSqT A.a.fh h), by rw [a.length, putAll_len e], gAll_ok l _ _ S S' σ Q A.pop a e q⟩
  · have r := A.topSh
    cases r with
    | lst h a => exact ⟨_, _, rfl, .inr (.inl (.inl (A.a.fh _ _ h))), by rw [a.length, putAll_len e], gAll_ok l _ _ S S' σ Q A.pop a e q⟩
  · cases e
end

/-! ### comprehensions -/
def Sta.popG (S : Sta) : Option (Slot × Sta) := match S.gh.getLast? with
  | some x => some (x, { S with gh := S.gh.dropLast })
  | none => none
theorem Sta.popG_some {S S' : Sta} {x : Slot} (h : S.popG = some (x, S')) : S = S'.push x := by
  unfold Sta.popG at h
  split at h
  · rename_i y e
    cases h
    have h2 := List.dropLast_concat_getLast (l := S.gh) (by intro z; rw [z] at e; cases e)
    have e2 : S.gh.getLast (by intro z; rw [z] at e; cases e) = x := by
      rw [List.getLast?_eq_some_getLast (by intro z; rw [z] at e; cases e)] at e
      exact Option.some.inj e
    rw [e2] at h2
    cases S
    simp only [Sta.push, Sta.mk.injEq, true_and, and_true]
    exact h2.symm
  · cases h
@[simp] theorem Sta.popG_push (S : Sta) (x : Slot) : (S.push x).popG = some (x, S) := by
  unfold Sta.popG Sta.push
  simp
/-- the slots of a comprehension's own names forgotten -/
def noes (l : List Slot) : List Nat → List Slot
  | [] => l
  | i :: is => (noes l is).set i .no
def Sta.wipe (S : Sta) (own : List Nat) : Sta := { S with lo := noes S.lo own }
def Slot.free : Option Slot → Bool
  | some (.ow _) => false
  | _ => true
def backs (l l0 : List Slot) : List Nat → List Slot
  | [] => l
  | i :: is => (backs l l0 is).set i (l0.getD i .no)
def Sta.back (S S0 : Sta) (own : List Nat) : Sta := { S with lo := backs S.lo S0.lo own }
def compL (own : List Nat) (tg : Tg) (tt : TF) (te : EF) : List T → Sta → R Unit
  | [], S => .ok () S
  | t :: ts, S => match tg.put t S with
    | none => .stuck
    | some S1 => (tt S1).bind fun b S2 => if b = true then (te S2).bind fun x S3 => match x.tree with
        | none => .stuck
        | some y => match S3.popG with
          | some (.ow (.lst acc), S4) => if acc.length < sz then compL own tg tt te ts ((S4.wipe own).push (.ow (.lst (acc ++ [y])))) else .stuck
          | _ => .stuck
      else compL own tg tt te ts (S2.wipe own)
def compF (own : List Nat) (it : IF) (tg : Tg) (tt : TF) (te : EF) : EF := fun S => (it S).bind fun ts S1 =>
  if (own.all fun i => Slot.free S1.lo[i]?) && (tg.slots.all fun i => own.contains i) then
    match compL own tg tt te ts ((S1.wipe own).push (.ow (.lst []))) with
    | .ok () S2 => match S2.popG with
      | some (.ow (.lst acc), S3) => .ok (.ow (.lst acc)) (S3.back S1 own)
      | _ => .stuck
    | _ => .stuck
  else .stuck
def yesT : TF := fun S => .ok true S
theorem Abs.mix {g : Ga} {H0 : Bs} {F H : Hp} {S S' : PS0} {ρ ρ' : List (Option V)} (A : Abs g H0 F S ρ H) (nb : S'.nb = S.nb) (len : S'.sl.length = ρ'.length)
    (h : ∀ (i : Nat) (s : Slot) (o : Option V), S'.sl[i]? = some s → ρ'[i]? = some o → ((∀ t, s ≠ .ow t) ∧ SlotRel g F H H0 s o) ∨ (S.sl[i]? = some s ∧ ρ[i]? = some o)) : Abs g H0 F S' ρ' H := by
  refine ⟨A.fh, A.fn, nb ▸ A.nib, A.keep, A.fre, len, fun i s o h1 h2 => ?_, fun i j t u a h1 h2 h3 h4 => ?_⟩
  · rcases h i s o h1 h2 with q | ⟨q1, q2⟩
    · exact q.2
    · exact A.sl i s o q1 q2
  · rcases h i _ _ h1 h3 with q | ⟨q1, q2⟩
    · exact absurd rfl (q.1 t)
    · rcases h j _ _ h2 h4 with r | ⟨r1, r2⟩
      · exact absurd rfl (r.1 u)
      · exact A.ds i j t u a q1 r1 q2 r2
theorem noes_length (l : List Slot) : ∀ is : List Nat, (noes l is).length = l.length
  | [] => rfl
  | i :: is => by unfold noes; rw [List.length_set, noes_length l is]
theorem backs_length (l l0 : List Slot) : ∀ is : List Nat, (backs l l0 is).length = l.length
  | [] => rfl
  | i :: is => by unfold backs; rw [List.length_set, backs_length l l0 is]
theorem noes_get (l : List Slot) {j : Nat} {s : Slot} : ∀ {is : List Nat}, (noes l is)[j]? = some s → (j ∈ is ∧ s = .no) ∨ (j ∉ is ∧ l[j]? = some s)
  | [], h => .inr ⟨by simp, h⟩
  | i :: is, h => by
    unfold noes at h
    by_cases e : i = j
    · subst e
      have hl : i < (noes l is).length := by have := (List.getElem?_eq_some_iff.mp h).1; simpa using this
      rw [List.getElem?_set_self hl] at h
      cases h
      exact .inl ⟨List.mem_cons_self, rfl⟩
    · rw [List.getElem?_set_ne e] at h
      rcases noes_get l h with ⟨a, b⟩ | ⟨a, b⟩
      · exact .inl ⟨List.mem_cons_of_mem _ a, b⟩
      · exact .inr ⟨by simp only [List.mem_cons, not_or]; exact ⟨fun z => e z.symm, a⟩, b⟩
theorem backs_get (l l0 : List Slot) {j : Nat} {s : Slot} : ∀ {is : List Nat}, (backs l l0 is)[j]? = some s → (j ∈ is ∧ s = l0.getD j .no) ∨ (j ∉ is ∧ l[j]? = some s)
  | [], h => .inr ⟨by simp, h⟩
  | i :: is, h => by
    unfold backs at h
    by_cases e : i = j
    · subst e
      have hl : i < (backs l l0 is).length := by have := (List.getElem?_eq_some_iff.mp h).1; simpa using this
      rw [List.getElem?_set_self hl] at h
      cases h
      exact .inl ⟨List.mem_cons_self, rfl⟩
    · rw [List.getElem?_set_ne e] at h
      rcases backs_get l l0 h with ⟨a, b⟩ | ⟨a, b⟩
      · exact .inl ⟨List.mem_cons_of_mem _ a, b⟩
      · exact .inr ⟨by simp only [List.mem_cons, not_or]; exact ⟨fun z => e z.symm, a⟩, b⟩
theorem wipe_get {σ : List (Option V)} {j : Nat} : ∀ {is : List Nat}, j ∉ is → (wipe σ is)[j]? = σ[j]?
  | [], _ => rfl
  | i :: is, h => by
    simp only [List.mem_cons, not_or] at h
    unfold wipe
    rw [List.getElem?_set_ne (Ne.symm h.1), wipe_get h.2]
theorem wipe_eq {σ σ' : List (Option V)} {is : List Nat} (hl : σ.length = σ'.length) (h : ∀ j, j ∉ is → σ[j]? = σ'[j]?) : wipe σ is = wipe σ' is := by
  apply List.ext_getElem?
  intro j
  by_cases hj : j ∈ is
  · have no : ∀ τ : List (Option V), (wipe τ is)[j]? = if j < τ.length then some none else none := fun τ => by
      split
      · rename_i hl
        have hl2 : j < (wipe τ is).length := by rw [wipe_length]; exact hl
        rw [List.getElem?_eq_getElem hl2]
        cases e : (wipe τ is)[j] with
        | none => rfl
        | some x =>
          have e2 : (wipe τ is)[j]? = some (some x) := by rw [List.getElem?_eq_getElem hl2, e]
          exact absurd hj (wipe_some e2).2
      · rename_i hl
        exact List.getElem?_eq_none (by rw [wipe_length]; omega)
    rw [no σ, no σ', hl]
  · rw [wipe_get hj, wipe_get hj, h j hj]
section
variable {c : Cfg} {F F1 H H1 : Hp} {S S1 : Sta} {σ τ : List (Option V)} {own : List Nat}
theorem z_len (A : AbsX c F S σ τ H) : S.z.sl.length = (σ ++ τ).length := A.a.len
theorem AbsX.wipe (A : AbsX c F S σ τ H) : AbsX c F (S.wipe own) (L2.wipe σ own) τ H := by
  have l1 : (S.wipe own).lo.length = (L2.wipe σ own).length := by
    show (noes S.lo own).length = _
    rw [noes_length, wipe_length, A.l]
  refine ⟨A.a.mix rfl ?_ fun i s o h1 h2 => ?_, l1⟩
  · show ((S.wipe own).lo ++ S.gh).length = _
    rw [List.length_append, List.length_append, l1, A.gl]
  · have h1 : (noes S.lo own ++ S.gh)[i]? = some s := h1
    by_cases hi : i < S.lo.length
    · rw [List.getElem?_append_left (by rw [noes_length]; exact hi)] at h1
      rw [List.getElem?_append_left (by rw [wipe_length, ← A.l]; exact hi)] at h2
      rcases noes_get _ h1 with ⟨a, b⟩ | ⟨a, b⟩
      · subst b
        exact .inl ⟨(fun t z => nomatch z), trivial⟩
      · rw [wipe_get a] at h2
        refine .inr ⟨?_, ?_⟩
        · show (S.lo ++ S.gh)[i]? = _
          rw [List.getElem?_append_left hi]; exact b
        · rw [List.getElem?_append_left (by rw [← A.l]; exact hi)]; exact h2
    · rw [List.getElem?_append_right (by rw [noes_length]; omega), noes_length] at h1
      rw [List.getElem?_append_right (by rw [wipe_length, ← A.l]; omega), wipe_length] at h2
      refine .inr ⟨?_, ?_⟩
      · show (S.lo ++ S.gh)[i]? = _
        rw [List.getElem?_append_right (by omega)]; exact h1
      · rw [List.getElem?_append_right (by rw [← A.l]; omega)]; exact h2
theorem AbsX.back {H' F' : Hp} {σ' : List (Option V)} (A : AbsX c F' S σ' τ H') (A1 : AbsX c F1 S1 σ [] H1) (s : Same F1 F') (fr : (own.all fun i => Slot.free S1.lo[i]?) = true) (h : ∀ j, j ∉ own → σ'[j]? = σ[j]?) (hl : σ'.length = σ.length) : AbsX c F' (S.back S1 own) σ τ H' := by
  have l1 : (S.back S1 own).lo.length = σ.length := by
    show (backs S.lo S1.lo own).length = _
    rw [backs_length, A.l, hl]
  have lS : S.lo.length = σ.length := by rw [A.l, hl]
  refine ⟨A.a.mix rfl ?_ fun i s' o h1 h2 => ?_, l1⟩
  · show ((S.back S1 own).lo ++ S.gh).length = _
    rw [List.length_append, List.length_append, l1, A.gl]
  · have h1 : (backs S.lo S1.lo own ++ S.gh)[i]? = some s' := h1
    by_cases hi : i < S.lo.length
    · rw [List.getElem?_append_left (by rw [backs_length]; exact hi)] at h1
      rw [List.getElem?_append_left (by rw [← lS]; exact hi)] at h2
      rcases backs_get _ _ h1 with ⟨a, b⟩ | ⟨a, b⟩
      · have hi2 : i < S1.lo.length := by rw [A1.l, ← lS]; exact hi
        have e1 : S1.lo[i]? = some s' := by
          rw [b, List.getD_eq_getElem?_getD, List.getElem?_eq_getElem hi2]
          rfl
        have f1 := List.all_eq_true.mp fr i a
        rw [e1] at f1
        obtain ⟨o', ho, r⟩ := A1.slot e1
        rw [h2] at ho
        cases ho
        cases s' with
        | no => exact .inl ⟨(fun t z => nomatch z), trivial⟩
        | sh t =>
          obtain ⟨v, e, r⟩ := r
          exact .inl ⟨fun t z => (by cases z), ⟨v, e, r.mono s⟩⟩
        | ow t => cases f1
      · refine .inr ⟨?_, ?_⟩
        · show (S.lo ++ S.gh)[i]? = _
          rw [List.getElem?_append_left hi]; exact b
        · rw [List.getElem?_append_left (by rw [← A.l]; exact hi), h i a]; exact h2
    · rw [List.getElem?_append_right (by rw [backs_length]; omega), backs_length] at h1
      rw [List.getElem?_append_right (by rw [← lS]; omega)] at h2
      refine .inr ⟨?_, ?_⟩
      · show (S.lo ++ S.gh)[i]? = _
        rw [List.getElem?_append_right (by omega)]; exact h1
      · rw [List.getElem?_append_right (by rw [← A.l]; omega), ← A.l, lS]; exact h2
theorem AbsX.gpopA (A : AbsX c F S σ τ H) : AbsX c F { S with gh := [] } σ [] H := by
  refine ⟨A.a.mix rfl ?_ fun i s o h1 h2 => .inr ⟨?_, ?_⟩, A.l⟩
  · show (S.lo ++ []).length = _
    rw [List.append_nil, List.append_nil, A.l]
  · have h1 : (S.lo ++ [])[i]? = some s := h1
    rw [List.append_nil] at h1
    show (S.lo ++ S.gh)[i]? = _
    rw [List.getElem?_append_left (List.getElem?_eq_some_iff.mp h1).1]
    exact h1
  · rw [List.append_nil] at h2
    rw [List.getElem?_append_left (List.getElem?_eq_some_iff.mp h2).1]
    exact h2
theorem AbsX.topOw {t : T} {o : Option V} (A : AbsX c F (S.push (.ow t)) σ (τ ++ [o]) H) : ∃ a u, o = some (.ref a) ∧ H a = some u ∧ Mk c.g F u t := by
  obtain ⟨a, e, ⟨u, hu, m⟩, _⟩ := A.as.top
  exact ⟨a, u, e, hu, m⟩
theorem AbsX.changeTop {t t' : T} {a : Addr} {u' : HO} (A : AbsX c F (S.push (.ow t)) σ (τ ++ [some (.ref a)]) H) (m : Mk c.g F u' t') : AbsX c F (S.push (.ow t')) σ (τ ++ [some (.ref a)]) (upd H a u') := by
  have A' := A.as
  have l : S.z.sl.length = (σ ++ τ).length := A.pop.a.len
  have := A'.change (i := S.z.sl.length) (t := t) (a := a) (by show (S.z.sl ++ [_])[_]? = _; exact getE_snoc_last) (by rw [l]; exact getE_snoc_last) m
  rw [put_push_top] at this
  exact .mk' this A.l
end
def Cfg.c0 (c : Cfg) : Cfg := { c with E := fun _ _ _ => False }
theorem AbsX.c0 {c : Cfg} {F H : Hp} {S : Sta} {σ τ : List (Option V)} (A : AbsX c F S σ τ H) : AbsX c.c0 F S σ τ H := ⟨A.a, A.l⟩
theorem AbsX.of0 {c : Cfg} {F H : Hp} {S : Sta} {σ τ : List (Option V)} (A : AbsX c.c0 F S σ τ H) : AbsX c F S σ τ H := ⟨A.a, A.l⟩
theorem R.bind_ok_inv {α β : Type} {r : R α} {k : α → Sta → R β} {b : β} {S : Sta} (h : r.bind k = .ok b S) : ∃ a S1, r = .ok a S1 ∧ k a S1 = .ok b S := by
  cases r with
  | ok a S1 => exact ⟨a, S1, rfl, h⟩
  | exc e S1 => cases h
  | stuck => cases h
section
variable {X : Cx} {c : Cfg} {pos : Pos}
theorem compOut {K : PySem.W.Frag} {own : List Nat} {fi : IF} {tgt : Tg} {ft : TF} {fe : EF} {σ : List (Option V)} {H : Hp} {Q : VK} (h : rdE c (compF own fi tgt ft fe) σ H Q) : tLc (rdI c fi) (rdG c.c0 tgt) (rdT c.c0 ft) (rdE c.c0 fe) own σ H Q := by
  obtain ⟨τ, F, S, A, q⟩ := h
  refine ⟨τ, F, S, A, rOut.bind q fun ts S1 F1 H1 s1 q1 J A1 it D nD => ?_⟩
  split at q1
  · rename_i hcond
    rw [Bool.and_eq_true] at hcond
    obtain ⟨hfree, hsub⟩ := hcond
    have sub : ∀ j, j ∈ tgt.slots → j ∈ own := fun j hj => by
      have := List.all_eq_true.mp hsub j hj
      exact List.contains_iff_mem.mp this
    split at q1
    · rename_i S2 hL
      split at q1
      · rename_i acc S3 hP
        have eS2 := Sta.popG_some hP
        have fin : ∀ H' F', Same F1 F' → AbsX c F' S2 (wipe σ own) (τ ++ [some (.ref D)]) H' → Q (.ref D) H' := fun H' F' s' A' => by
          refine q1 H' F' s' _ ?_
          rw [eS2] at A'
          exact AbsX.back (S := S3.push (.ow (.lst acc))) (S1 := { S1 with gh := [] }) A' (A1.gpopA) s' hfree (fun j hj => wipe_get hj) (wipe_length σ own)
        have n := ts.length
        refine ⟨fun i m H' => m = ts.length - i ∧ i ≤ ts.length ∧ ∃ F' S', Same F1 F' ∧ AbsX c F' S' (wipe σ own) (τ ++ [some (.ref D)]) H' ∧ compL own tgt ft fe (ts.drop i) S' = .ok () S2,
          ⟨ts.length, by simp, Nat.zero_le _, F1, _, Same.refl F1, (A1.newOw (u := .lst []) (t := .lst []) (.lst .nil) nD).wipe (own := own), hL⟩, ?_⟩
        rintro i m H' ⟨rfl, hi, F', S', s', A', e'⟩
        by_cases hlt : i < ts.length
        · refine .inr ⟨it.go i H' hlt (s'.trans A'.a.fh), fun H2 => ∃ F'' S'', Same F1 F'' ∧ AbsX c F'' S'' (wipe σ own) (τ ++ [some (.ref D)]) H2 ∧ compL own tgt ft fe (ts.drop (i + 1)) S'' = .ok () S2,
            fun H2 ⟨F'', S'', a1, a2, a3⟩ => ⟨ts.length - (i + 1), by omega, rfl, hlt, F'', S'', a1, a2, a3⟩, fun x H2 hy => ?_⟩
          obtain ⟨t, F2, ht, s2, A2⟩ := it.yld i x H' H2 F' S' (wipe σ own) (τ ++ [some (.ref D)]) hlt s' A' hy
          have ed : ts.drop i = t :: ts.drop (i + 1) := by
            rw [List.drop_eq_getElem_cons hlt]
            rw [List.getElem?_eq_getElem hlt] at ht
            rw [Option.some.inj ht]
          rw [ed] at e'
          unfold compL at e'
          split at e'
          · cases e'
          · rename_i S1' hput
            refine ⟨τ ++ [some (.ref D)], F2, S', t, S1', A2.c0, hput, fun σ2 A3 hσ => ⟨?_, ?_⟩⟩
            · refine wipe_eq ?_ fun j hj => ?_
              · have h1 := A3.l
                have h2 := A'.l
                have h3 : S1'.lo.length = S'.lo.length := by
                  cases tgt with
                  | nm k =>
                    unfold Tg.put at hput
                    dsimp only at hput
                    split at hput
                    · cases hput; simp [Sta.put]
                    · cases hput
                  | tp l =>
                    have pl : ∀ (l : List Nat) (us : List T) (Z Z' : Sta), putAll l us Z = some Z' → Z'.lo.length = Z.lo.length := by
                      intro l
                      induction l with
                      | nil => intro us Z Z' h; cases us with
                        | nil => cases h; rfl
                        | cons => cases h
                      | cons k l ih => intro us Z Z' h; cases us with
                        | nil => cases h
                        | cons u us =>
                          unfold putAll at h
                          split at h
                          · rw [ih us _ _ h]; simp [Sta.put]
                          · cases h
                    unfold Tg.put at hput
                    dsimp only at hput
                    split at hput
                    · exact pl _ _ _ _ hput
                    · exact pl _ _ _ _ hput
                    · exact pl _ _ _ _ hput
                    · cases hput
                rw [← h1, h3, h2, wipe_length]
              · rw [hσ j (fun z => hj (sub j z)), wipe_get hj]
            · have eW : wipe σ2 own = wipe σ own := by
                refine wipe_eq ?_ fun j hj => ?_
                · have h1 := A3.l
                  have h2 := A'.l
                  have h3 : S1'.lo.length = S'.lo.length := by
                    cases tgt with
                    | nm k =>
                      unfold Tg.put at hput
                      dsimp only at hput
                      split at hput
                      · cases hput; simp [Sta.put]
                      · cases hput
                    | tp l =>
                      have pl : ∀ (l : List Nat) (us : List T) (Z Z' : Sta), putAll l us Z = some Z' → Z'.lo.length = Z.lo.length := by
                        intro l
                        induction l with
                        | nil => intro us Z Z' h; cases us with
                          | nil => cases h; rfl
                          | cons => cases h
                        | cons k l ih => intro us Z Z' h; cases us with
                          | nil => cases h
                          | cons u us =>
                            unfold putAll at h
                            split at h
                            · rw [ih us _ _ h]; simp [Sta.put]
                            · cases h
                      unfold Tg.put at hput
                      dsimp only at hput
                      split at hput
                      · exact pl _ _ _ _ hput
                      · exact pl _ _ _ _ hput
                      · exact pl _ _ _ _ hput
                      · cases hput
                  rw [← h1, h3, h2, wipe_length]
                · rw [hσ j (fun z => hj (sub j z)), wipe_get hj]
              obtain ⟨b, S4, e4, k4⟩ := R.bind_ok_inv e'
              refine ⟨τ ++ [some (.ref D)], F2, S1', A3, ?_⟩
              rw [e4]
              intro H3 F3 s3 A4
              cases b with
              | false =>
                rw [if_neg Bool.false_ne_true] at k4 ⊢
                have A5 := A4.of0.wipe (own := own)
                rw [eW] at A5
                exact ⟨F3, _, (s'.trans s2).trans s3, A5, k4⟩
              | true =>
                rw [if_pos rfl] at k4 ⊢
                obtain ⟨z, S5, e5, k5⟩ := R.bind_ok_inv k4
                refine ⟨τ ++ [some (.ref D)], F3, S4, A4, ?_⟩
                rw [e5]
                intro H4 F4 s4 y A5
                split at k5
                · cases k5
                · rename_i yT hy
                  obtain ⟨F5, s5, A6⟩ := A5.of0.shTop hy
                  split at k5
                  · rename_i acc' S6 hP6
                    split at k5
                    · rename_i hsz
                      have e6 := Sta.popG_some hP6
                      have A7 := A6.pop
                      rw [e6] at A7
                      obtain ⟨a, u, ea, hu, mk⟩ := A7.topOw
                      cases ea
                      cases mk with
                      | @lst vs _ r =>
                      refine ⟨vs, hu, by rw [r.length, ← sz_eq]; exact hsz, ?_⟩
                      have A8 := (A7.changeTop (u' := .lst (vs ++ [y])) (t' := .lst (acc' ++ [yT])) (.lst (r.append (.cons A6.topSh .nil)))).wipe (own := own)
                      rw [eW] at A8
                      exact ⟨F5, _, (((s'.trans s2).trans s3).trans s4).trans s5, A8, k5⟩
                    · cases k5
                  · cases k5
        · have e : i = ts.length := by omega
          subst e
          rw [List.drop_length] at e'
          cases e'
          exact .inl ⟨it.stop H' (s'.trans A'.a.fh), fin H' F' s' A'⟩
      · exact q1.elim
    · exact q1.elim
  · exact q1.elim
theorem de_comp {elt tg iter : Expr} {ifs : List Expr} {scope : Scope} {own : List (Str × Nat)} {fi : IF} {tgt : Tg} {ft : TF} {fe : EF} (hc : X.calm = true) (hN : X.N.Nodup) (hi : PI X tg iter (rdI c fi)) (ok : BlkOk X.N X.env.scope scope own)
    (hg : ∀ (s : Shared) (H : Hp) (C : Addr) (cl : List (Str × Addr)) (fp : List Addr), PG (X.blk s H scope (compEnvC scope cl C X.env) fp) tg (rdG c.c0 tgt)) (ht : ∀ (s : Shared) (H : Hp) (C : Addr) (cl : List (Str × Addr)) (fp : List Addr), PTs (X.blk s H scope (compEnvC scope cl C X.env) fp) ifs (rdT c.c0 ft))
    (he : ∀ (s : Shared) (H : Hp) (C : Addr) (cl : List (Str × Addr)) (fp : List Addr), PE (X.blk s H scope (compEnvC scope cl C X.env) fp) elt (rdE c.c0 fe)) (hs : ∀ x, foldedSetIterable iter X.env x = pure x := by intro _; rfl) :
    PE X (.ListComp elt [⟨tg, iter, ifs, 0⟩] scope pos) (rdE c (compF (own.map (·.2)) fi tgt ft fe)) :=
  PE.imp (pe_lc hc hN hi ok hg ht he hs) fun _ _ _ q => compOut (K := X.K) q
theorem dts_nil : PTs X [] (rdT c yesT) := by
  refine ⟨fun pins s σ H Q I h => pts_nil.run pins s σ H Q I ?_⟩
  obtain ⟨τ, F, S, A, q⟩ := h
  exact q H F (Same.refl F) A
theorem dts_one {e : Expr} {f : TF} (h : PT X e (rdT c f)) : PTs X [e] (rdT c f) := pts_one h
end
end TL

end
section
set_option Elab.async false
set_option linter.all false
set_option maxRecDepth 100000
set_option autoImplicit false
/-! TL8: statements, list methods -/
open PySem PySem.Spec PyProof.Rows L2
namespace TL
def sP (c : Cfg) (D : Ends) : TL.Flow → Sta → Hp → Hp → Prop
  | .nx, S, F', H' => ∀ σ, AbsX c F' S σ [] H' → D.nx σ H'
  | .rt x, S, F', H' => ∀ v σ, AbsX c F' (S.push x) σ [some v] H' → D.rt v H'
  | .bk, S, F', H' => ∀ σ, AbsX c F' S σ [] H' → D.bk σ H'
  | .ct, S, F', H' => ∀ σ, AbsX c F' S σ [] H' → D.ct σ H'
def sOut (c : Cfg) (F : Hp) (D : Ends) : R TL.Flow → Prop
  | .ok a S => ∀ H' F', Same F F' → sP c D a S F' H'
  | .exc e S => ∀ cls d σ H' F', Same F F' → AbsX c F' S σ [] H' → ExRel c.g F' H' e cls d → c.E cls d H'
  | .stuck => False
def rdS (c : Cfg) (f : SF) : TS := fun D σ H => ∃ F S, AbsX c F S σ [] H ∧ sOut c F D (f S)
theorem sOut.mono {c : Cfg} {F F1 : Hp} {D : Ends} (s : Same F F1) : ∀ {r : R TL.Flow}, sOut c F D r → sOut c F1 D r
  | .ok _ _, h => fun H' F' s' => h H' F' (s.trans s')
  | .exc _ _, h => fun cls d σ H' F' s' => h cls d σ H' F' (s.trans s')
  | .stuck, h => h
theorem sOut.bind {α : Type} {c : Cfg} {F : Hp} {D : Ends} {σ : List (Option V)} {P1 : α → Sta → Hp → Hp → Prop} {r : R α} {k : α → Sta → R TL.Flow} (h : sOut c F D (r.bind k))
    (K : ∀ a S F' H', Same F F' → sOut c F' D (k a S) → P1 a S F' H') : rOut c F σ [] P1 r := by
  cases r with
  | ok a S =>
    intro H' F' s
    exact K a S F' H' s (sOut.mono s h)
  | exc e S => exact fun cls d H' F' s A q => h cls d σ H' F' s A q
  | stuck => exact h
theorem sOut.bindS {c : Cfg} {F : Hp} {D D1 : Ends} {r : R TL.Flow} {k : TL.Flow → Sta → R TL.Flow} (h : sOut c F D (r.bind k))
    (K : ∀ a S F' H', Same F F' → sOut c F' D (k a S) → sP c D1 a S F' H') : sOut c F D1 r := by
  cases r with
  | ok a S =>
    intro H' F' s
    exact K a S F' H' s (sOut.mono s h)
  | exc e S => exact h
  | stuck => exact h
theorem pss_imp {X : Cx} {e : List Stmt} {t t' : TS} (h : PSs X e t) (w : ∀ D σ H, t' D σ H → t D σ H) : PSs X e t' := ⟨fun pins s σ H D I q => h.run pins s σ H D I (w D σ H q)⟩

def nxF : SF := fun S => .ok .nx S
def bkF : SF := fun S => .ok .bk S
def ctF : SF := fun S => .ok .ct S
def stuckF : SF := fun _ => .stuck
def seqF (f g : SF) : SF := fun S => (f S).bind fun fl S1 => match fl with
  | .nx => g S1
  | .rt x => .ok (.rt x) S1
  | .bk => .ok .bk S1
  | .ct => .ok .ct S1
def retF (f : EF) : SF := fun S => (f S).bind fun x S1 => .ok (.rt x) S1
def retNF : SF := fun S => .ok (.rt (.sh .non)) S
def dropF (f : EF) : SF := fun S => (f S).bind fun _ S1 => .ok .nx S1
def ifF (t : TF) (a b : SF) : SF := fun S => (t S).bind fun k S1 => if k = true then a S1 else b S1
def setF (i : Nat) (f : EF) : SF := fun S => (f S).bind fun x S1 => if i < S1.lo.length then .ok .nx (S1.put i x) else .stuck
def asgF (g : Tg) (f : OF) : SF := fun S => (f S).bind fun o S1 => match o with
  | .val t => match g.put t S1 with
    | some S2 => .ok .nx S2
    | none => .stuck
  | _ => .stuck
def parF (i j : Nat) (f g : EF) : SF := fun S => (f S).bind fun x S1 => match g (S1.push x) with
  | .ok y S2 => match S2.popG with
    | some (x', S3) => if i < S3.lo.length ∧ j < S3.lo.length then .ok .nx ((S3.put j y).put i x') else .stuck
    | none => .stuck
  | _ => .stuck
def forL (g : Tg) (b : SF) : List T → Sta → R TL.Flow
  | [], S => .ok .nx S
  | t :: ts, S => match g.put t S with
    | none => .stuck
    | some S1 => (b S1).bind fun fl S2 => match fl with
      | .nx => forL g b ts S2
      | .ct => forL g b ts S2
      | .bk => .ok .nx S2
      | .rt x => .ok (.rt x) S2
def forF (it : IF) (g : Tg) (b : SF) : SF := fun S => (it S).bind fun ts S1 => forL g b ts S1
def whileL (t : TF) (b : SF) : Nat → Sta → R TL.Flow
  | 0, _ => .stuck
  | n + 1, S => (t S).bind fun k S1 => if k = true then (b S1).bind fun fl S2 => match fl with
      | .nx => whileL t b n S2
      | .ct => whileL t b n S2
      | .bk => .ok .nx S2
      | .rt x => .ok (.rt x) S2
    else .ok .nx S1
def whileF (n : Nat) (t : TF) (b : SF) : SF := whileL t b n

section
variable {X : Cx} {c : Cfg} {st : Stmt} {rest : List Stmt} {e : Expr} {pos : Pos}
theorem ds_nil : PSs X [] (rdS c nxF) := by
  refine pss_imp pss_nil fun D σ H q => ?_
  obtain ⟨F, S, A, q⟩ := q
  exact q H F (Same.refl F) σ A
theorem ds_pass : PS X (.Pass pos) (rdS c nxF) := by
  refine ps_imp ps_pass fun D σ H q => ?_
  obtain ⟨F, S, A, q⟩ := q
  exact q H F (Same.refl F) σ A
theorem ds_doc {x : Str} {j : Nat} {pos' : Pos} : PS X (.Expr (.Constant (.str x) j pos) pos') (rdS c nxF) := by
  refine ps_imp ps_doc fun D σ H q => ?_
  obtain ⟨F, S, A, q⟩ := q
  exact q H F (Same.refl F) σ A
theorem ds_break : PS X (.Break pos) (rdS c bkF) := by
  refine ps_imp ps_break fun D σ H q => ?_
  obtain ⟨F, S, A, q⟩ := q
  exact q H F (Same.refl F) σ A
theorem ds_continue : PS X (.Continue pos) (rdS c ctF) := by
  refine ps_imp ps_continue fun D σ H q => ?_
  obtain ⟨F, S, A, q⟩ := q
  exact q H F (Same.refl F) σ A
theorem ds_stuck : PS X st (rdS c stuckF) := by
  refine ps_imp ps_never fun D σ H q => ?_
  obtain ⟨F, S, A, q⟩ := q
  exact q
theorem dss_stuck : PSs X rest (rdS c stuckF) := by
  refine pss_imp pss_never fun D σ H q => ?_
  obtain ⟨F, S, A, q⟩ := q
  exact q
theorem ds_one {f : SF} (h : PS X st (rdS c f)) : PSs X [st] (rdS c f) := pss_one h
theorem ds_cons {f g : SF} (h : PS X st (rdS c f)) (hr : PSs X rest (rdS c g)) : PSs X (st :: rest) (rdS c (seqF f g)) := by
  refine pss_imp (pss_cons h hr) fun D σ H q => ?_
  obtain ⟨F, S, A, q⟩ := q
  refine ⟨F, S, A, sOut.bindS q fun fl S1 F1 H1 s1 q1 => ?_⟩
  cases fl with
  | nx => exact fun σ1 A1 => ⟨F1, S1, A1, q1⟩
  | rt x => exact q1 H1 F1 (Same.refl F1)
  | bk => exact q1 H1 F1 (Same.refl F1)
  | ct => exact q1 H1 F1 (Same.refl F1)
theorem ds_ret {f : EF} (h : PE X e (rdE c f)) : PS X (.Return (some e) pos) (rdS c (retF f)) := by
  refine ps_imp (ps_ret h) fun D σ H q => ?_
  obtain ⟨F, S, A, q⟩ := q
  exact ⟨[], F, S, A, sOut.bind q fun x S1 F1 H1 s1 q1 v A1 => q1 H1 F1 (Same.refl F1) v σ A1⟩
theorem ds_retN : PS X (.Return none pos) (rdS c retNF) := by
  refine ps_imp ps_retN fun D σ H q => ?_
  obtain ⟨F, S, A, q⟩ := q
  exact q H F (Same.refl F) .non σ (A.pushSh .non)
theorem ds_expr {f : EF} (h : PE X e (rdE c f)) (hs : swapsWith e none pos.line X.env = pure false := by rfl) : PS X (.Expr e pos) (rdS c (dropF f)) := by
  refine ps_imp (ps_expr h hs) fun D σ H q => ?_
  obtain ⟨F, S, A, q⟩ := q
  exact ⟨[], F, S, A, sOut.bind q fun x S1 F1 H1 s1 q1 v A1 => q1 H1 F1 (Same.refl F1) σ A1.pop⟩
theorem ds_if {d : Expr} {a b : List Stmt} {ft : TF} {fa fb : SF} (h : PT X d (rdT c ft)) (ha : PSs X a (rdS c fa)) (hb : PSs X b (rdS c fb)) : PS X (.If d a b pos) (rdS c (ifF ft fa fb)) := by
  refine ps_imp (ps_if h ha hb) fun D σ H q => ?_
  obtain ⟨F, S, A, q⟩ := q
  refine ⟨[], F, S, A, sOut.bind q fun k S1 F1 H1 s1 q1 A1 => ?_⟩
  cases k with
  | true => exact ⟨F1, S1, A1, q1⟩
  | false => exact ⟨F1, S1, A1, q1⟩
theorem setOut {i : Nat} {f : EF} {D : Ends} {σ : L2.St} {H : Hp} (q : rdS c (setF i f) D σ H) : tAsg (rdE c f) (gName i) D σ H := by
  obtain ⟨F, S, A, q⟩ := q
  refine ⟨[], F, S, A, sOut.bind q fun x S1 F1 H1 s1 q1 v A1 => ?_⟩
  split at q1
  · rename_i hi
    exact q1 H1 F1 (Same.refl F1) _ (A1.assign (by rw [← A1.pop.l]; exact hi))
  · exact q1.elim
theorem ds_set {i : Nat} {x : Str} {f : EF} {pos' : Pos} (hN : X.N.Nodup) (hi : X.N[i]? = some x) (hx : Loc X.env.scope x) (he : PE X e (rdE c f)) (hf : X.fn x = true ∨ X.env.scope.names.lookup x = some .local) (hs : swapsWith e (some (.Name x pos')) pos.line X.env = pure false := by rfl) :
    PS X (.Assign [.Name x pos'] e pos) (rdS c (setF i f)) :=
  ps_imp (ps_set hN hi hx he hs hf) fun _ _ _ q => setOut q
theorem ds_setLc {elt tg iter : Expr} {ifs : List Expr} {scope : Scope} {own : List (Str × Nat)} {fi : IF} {tgt : Tg} {ft : TF} {fe : EF} {i : Nat} {y : Str} {py spos : Pos} (hc : X.calm = true) (hN : X.N.Nodup) (hy : X.N[i]? = some y) (hyl : X.env.scope.names.lookup y = some .local)
    (hsw : swapsWith (.ListComp elt [⟨tg, iter, ifs, 0⟩] scope pos) (some (.Name y py)) spos.line X.env = pure true) (hi : PI X tg iter (rdI c fi)) (ok : BlkOk X.N X.env.scope scope own)
    (hg : ∀ (s : Shared) (H : Hp) (C : Addr) (cl : List (Str × Addr)) (fp : List Addr), PG (X.blk s H scope (compEnvC scope cl C X.env) fp) tg (rdG c.c0 tgt)) (ht : ∀ (s : Shared) (H : Hp) (C : Addr) (cl : List (Str × Addr)) (fp : List Addr), PTs (X.blk s H scope (compEnvC scope cl C X.env) fp) ifs (rdT c.c0 ft))
    (he : ∀ (s : Shared) (H : Hp) (C : Addr) (cl : List (Str × Addr)) (fp : List Addr), PE (X.blk s H scope (compEnvC scope cl C X.env) fp) elt (rdE c.c0 fe)) (hs : ∀ x, foldedSetIterable iter X.env x = pure x := by intro _; rfl) :
    PS X (.Assign [.Name y py] (.ListComp elt [⟨tg, iter, ifs, 0⟩] scope pos) spos) (rdS c (setF i (compF (own.map (·.2)) fi tgt ft fe))) :=
  ps_imp (ps_setLc hc hN hy hyl hsw hi ok hg ht he hs) fun D σ H q => by
    have q1 := setOut q
    obtain ⟨τ, F, S, A, q2⟩ := q1
    exact compOut (K := X.K) ⟨τ, F, S, A, q2⟩
theorem ds_asg {tg : Expr} {f : OF} {g : Tg} (he : PE X e (rdO c f)) (hg : PG X tg (rdG c g)) (hs : swapsWithSole [tg] e pos.line X.env = pure false := by rfl) (hw : swappedStores [tg] e X.env = pure none := by rfl)
    (h1 : (assignEach [tg] X.env).map (·.2) = [assign tg X.env] := by rfl) : PS X (.Assign [tg] e pos) (rdS c (asgF g f)) := by
  refine ps_imp (ps_asg he hg hs hw h1) fun D σ H q => ?_
  obtain ⟨F, S, A, q⟩ := q
  refine ⟨[], F, S, A, sOut.bind q fun o S1 F1 H1 s1 q1 v A1 r1 => ?_⟩
  split at q1
  · split at q1
    · rename_i t _ S2 e2
      exact ⟨[], F1, S1, t, S2, A1.pushSh r1, e2, fun σ' A' _ => q1 H1 F1 (Same.refl F1) σ' A'⟩
    · exact q1.elim
  · exact q1.elim
theorem ds_par {i j : Nat} {x y : Str} {a b : Expr} {fa fb : EF} {px py pt : Pos} {kt k2 pt2} (hc : X.calm = true) (hN : X.N.Nodup) (hi : X.N[i]? = some x) (hj : X.N[j]? = some y) (hij : i ≠ j)
    (hx : X.env.scope.names.lookup x = some .local) (hy : X.env.scope.names.lookup y = some .local) (ha : PE X a (rdE c fa)) (hb : PE X b (rdE c fb))
    (hw : swappedStores [.Tuple [.Name x px, .Name y py] kt pt] (.Tuple [a, b] k2 pt2) X.env = pure (some [x, y]))
    (hs : swapsWithSole [.Tuple [.Name x px, .Name y py] kt pt] (.Tuple [a, b] k2 pt2) pos.line X.env = pure false := by rfl)
    (s2 : starEach [a, b] X.env = (false, eval a X.env) :: starEach [b] X.env := by rfl) (s3 : starEach [b] X.env = (false, eval b X.env) :: starEach [] X.env := by rfl) :
    PS X (.Assign [.Tuple [.Name x px, .Name y py] kt pt] (.Tuple [a, b] k2 pt2) pos) (rdS c (parF i j fa fb)) := by
  refine ps_imp (ps_par hc hN hi hj hij hx hy (pa_cons ha (pa_cons hb pa_nil s3) s2) hw hs) fun D σ H q => ?_
  obtain ⟨F, S, A, q⟩ := q
  refine ⟨[], F, S, A, sOut.bind q fun u S1 F1 H1 s1 q1 v A1 => ⟨_, F1, _, A1, ?_⟩⟩
  split at q1
  · rename_i y' S2 e2
    rw [e2]
    intro H2 F2 s2 w A2
    split at q1
    · rename_i x' S3 e3
      have eS := Sta.popG_some e3
      subst eS
      split at q1
      · rename_i hh
        refine ⟨v, w, rfl, ?_⟩
        have l3 : S3.lo.length = σ.length := A2.pop.pop.l
        have A3 := A2.assign (i := j) (by rw [← l3]; exact hh.2)
        have A4 : AbsX c F2 (((S3.put j y').push x')) (σ.set j (some w)) ([] ++ [some v]) H2 := A3
        have A5 := A4.assign (i := i) (by rw [List.length_set, ← l3]; exact hh.1)
        rw [List.set_comm _ _ (Ne.symm hij)] at A5
        exact q1 H2 F2 s2 _ A5
      · exact q1.elim
    · exact q1.elim
  · exact q1.elim
theorem ds_for {tg iter : Expr} {body : List Stmt} {fi : IF} {g : Tg} {fb : SF} (hp : PassesOwn (model X.prog X.w) X.A X.env X.xe) (hc : X.calm = true) (hi : PI X tg iter (rdI c fi)) (hg : PG X tg (rdG c g)) (hb : PSs X body (rdS c fb))
    (hs : ∀ x, foldedSetIterable iter X.env x = pure x := by intro _; rfl) : PS X (.For tg iter body [] pos) (rdS c (forF fi g fb)) := by
  refine ps_imp (ps_for hp hc hi hg hb hs) fun D σ H q => ?_
  obtain ⟨F, S, A, q⟩ := q
  refine ⟨[], F, S, A, sOut.bind q fun ts S1 F1 H1 s1 q1 J A1 it => ?_⟩
  refine ⟨fun i m σ H => m = ts.length - i ∧ i ≤ ts.length ∧ ∃ F' S', Same F1 F' ∧ AbsX c F' S' σ [] H ∧ sOut c F' D (forL g fb (ts.drop i) S'),
    ⟨ts.length, by simp, Nat.zero_le _, F1, S1, Same.refl F1, A1, q1⟩, ?_⟩
  rintro i m σ' H' ⟨rfl, hi', F', S', s', A', q'⟩
  by_cases hlt : i < ts.length
  · refine .inr ⟨it.go i H' hlt (s'.trans A'.a.fh), fun σ2 H2 => ∃ F'' S'', Same F1 F'' ∧ AbsX c F'' S'' σ2 [] H2 ∧ sOut c F'' D (forL g fb (ts.drop (i + 1)) S''),
      fun σ2 H2 ⟨F'', S'', a1, a2, a3⟩ => ⟨ts.length - (i + 1), by omega, rfl, hlt, F'', S'', a1, a2, a3⟩, fun x H2 hy => ?_⟩
    obtain ⟨t, F2, ht, s2, A2⟩ := it.yld i x H' H2 F' S' σ' [] hlt s' A' hy
    have ed : ts.drop i = t :: ts.drop (i + 1) := by
      rw [List.drop_eq_getElem_cons hlt]
      rw [List.getElem?_eq_getElem hlt] at ht
      rw [Option.some.inj ht]
    rw [ed] at q'
    unfold forL at q'
    split at q'
    · exact q'.elim
    · rename_i S3 e3
      refine ⟨[], F2, S', t, S3, A2, e3, fun σ3 A3 _ => ⟨F2, S3, A3, sOut.bindS (q'.mono s2) fun fl S4 F4 H4 s4 q4 => ?_⟩⟩
      cases fl with
      | nx => exact fun σ4 A4 => ⟨F4, S4, (s'.trans s2).trans s4, A4, q4⟩
      | ct => exact fun σ4 A4 => ⟨F4, S4, (s'.trans s2).trans s4, A4, q4⟩
      | bk => exact q4 H4 F4 (Same.refl F4)
      | rt x => exact q4 H4 F4 (Same.refl F4)
  · have e : i = ts.length := by omega
    subst e
    rw [List.drop_length] at q'
    exact .inl ⟨it.stop H' (s'.trans A'.a.fh), q' H' F' (Same.refl F') σ' A'⟩
theorem ds_while {d : Expr} {body : List Stmt} {ft : TF} {fb : SF} (n : Nat) (hp : PassesOwn (model X.prog X.w) X.A X.env X.xe) (hc : PT X d (rdT c ft)) (hb : PSs X body (rdS c fb)) : PS X (.While d body [] pos) (rdS c (whileF n ft fb)) := by
  refine ps_imp (ps_while hp hc hb) fun D σ H q => ?_
  obtain ⟨F, S, A, q⟩ := q
  refine ⟨fun m σ H => ∃ F' S', Same F F' ∧ AbsX c F' S' σ [] H ∧ sOut c F' D (whileL ft fb m S'), ⟨n, F, S, Same.refl F, A, q⟩, ?_⟩
  rintro m σ' H' ⟨F', S', s', A', q'⟩
  cases m with
  | zero => exact q'.elim
  | succ m =>
    refine ⟨[], F', S', A', sOut.bind q' fun k S1 F1 H1 s1 q1 A1 => ?_⟩
    cases k with
    | false => exact q1 H1 F1 (Same.refl F1) σ' A1
    | true =>
      rw [if_pos rfl] at q1 ⊢
      refine ⟨fun σ2 H2 => ∃ F' S', Same F F' ∧ AbsX c F' S' σ2 [] H2 ∧ sOut c F' D (whileL ft fb m S'), fun σ2 H2 q => ⟨m, Nat.lt_succ_self m, q⟩, F1, S1, A1, sOut.bindS q1 fun fl S4 F4 H4 s4 q4 => ?_⟩
      cases fl with
      | nx => exact fun σ4 A4 => ⟨F4, S4, (s'.trans s1).trans s4, A4, q4⟩
      | ct => exact fun σ4 A4 => ⟨F4, S4, (s'.trans s1).trans s4, A4, q4⟩
      | bk => exact q4 H4 F4 (Same.refl F4)
      | rt x => exact q4 H4 F4 (Same.refl F4)
end

/-! ### list methods on an own list -/
def MethR (c : Cfg) (r : V → List V → Hp → VK → Prop) (p : List T → List T → Option (List T × T)) : Prop :=
  ∀ (F H : Hp) (l : Addr) (vs us : List V) (ts as ts' : List T) (z : T) (Q : VK), Same F H → H l = some (.lst vs) → RepAll c.g F vs ts → RepAll c.g F us as → p ts as = some (ts', z) →
    (∀ v' vs', RepAll c.g F vs' ts' → Rep c.g F v' z → Q v' (upd H l (.lst vs'))) → r (.ref l) us H Q
def methF (i : Nat) (p : List T → List T → Option (List T × T)) (fa : AF) : EF := fun S => match S.lo[i]? with
  | some (.ow (.lst _)) => (fa S).bind fun os S1 => match vals os, S1.lo[i]? with
    | some us, some (.ow (.lst ts)) => match p ts us with
      | some (ts', z) => .ok (.sh z) (S1.put i (.ow (.lst ts')))
      | none => .stuck
    | _, _ => .stuck
  | _ => .stuck
section
variable {X : Cx} {c : Cfg} {e : Expr} {es : List Expr}
theorem methOut {i : Nat} {id : String} {r : V → List V → Hp → VK → Prop} {p : List T → List T → Option (List T × T)} {fa : AF} (hp : MethR c r p) {σ : L2.St} {H : Hp} {Q : VK} (q : rdE c (methF i p fa) σ H Q) : tBM X.K "list" r (tVar i) (rdA c fa) σ H Q := by
  obtain ⟨τ, F, S, A, q⟩ := q
  unfold methF at q
  split at q
  · rename_i t0 e0
    obtain ⟨o, h1, a, h2, ⟨u, hu, mk⟩, r2⟩ := A.slot e0
    subst h2
    refine ⟨_, h1, ?_, τ, F, S, A, rOut.bind q fun os S1 F1 H1 s1 q1 vs A1 r1 => ?_⟩
    · cases mk with
      | lst r => exact .inl ⟨rfl, _, .inl (.inl hu)⟩
    · split at q1
      · rename_i us ts e1 e2
        split at q1
        · rename_i ts' z e3
          obtain ⟨o, h1', a', h2', ⟨u', hu', mk'⟩, r2'⟩ := A1.slot e2
          subst h2'
          rw [h1] at h1'
          cases h1'
          cases mk' with
          | lst rl =>
            refine hp F1 H1 a _ _ _ _ _ _ _ A1.a.fh hu' rl (r1.vals e1) e3 fun v' vs' rv rz => ?_
            exact q1 _ F1 (Same.refl F1) v' ((A1.change e2 h1 (.lst rv)).pushSh rz)
        · exact q1.elim
      · exact q1.elim
  · exact q.elim
theorem de_meth {i : Nat} {x name : Str} {id : String} {r : V → List V → Hp → VK → Prop} {p : List T → List T → Option (List T × T)} {fa : AF} {p1 apos cpos : Pos} (slot : PySem.Slot "list" name id) (hty : typeOf (.builtin id) = pure (.type "method_descriptor")) (hm : MtR X id r) (hp : MethR c r p)
    (ho : PE X (.Name x p1) (tVar i)) (ha : PA X (e :: es) (rdA c fa))
    (hbase : attributeBase (.Name x p1) name X.env (eval (.Name x p1) X.env) = eval (.Name x p1) X.env := by rfl)
    (hfew : ((backTo cpos (starEach (e :: es) X.env)).all (fun x => !x.1) && (backToKw cpos (keywordEach [] X.env)).all (fun x => x.1.isSome)
      && decide ((e :: es).length + ([] : List Keyword).length + (if ([] : List Keyword).isEmpty then 0 else 1) < 30)) = true := by rfl)
    (hline : (apos.endLine == cpos.line) = true := by rfl) (hs : starEach (e :: es) X.env = (false, eval e X.env) :: starEach es X.env := by rfl) (hplain : (backTo cpos (starEach es X.env)).any (·.1) = false := by rfl) :
    PE X (.Call (.Attribute (.Name x p1) name apos) (e :: es) [] cpos) (rdE c (methF i p fa)) :=
  PE.imp (pe_bm PySem.F.plainAttrs_list slot hty hm ho ha hbase hfew hline hs hplain) fun _ _ _ q => methOut (X := X) (id := id) hp q
theorem de_meth0 {i : Nat} {x name : Str} {id : String} {r : V → List V → Hp → VK → Prop} {p : List T → List T → Option (List T × T)} {p1 apos cpos : Pos} (slot : PySem.Slot "list" name id) (hty : typeOf (.builtin id) = pure (.type "method_descriptor")) (hm : MtR X id r) (hp : MethR c r p)
    (ho : PE X (.Name x p1) (tVar i))
    (hbase : attributeBase (.Name x p1) name X.env (eval (.Name x p1) X.env) = eval (.Name x p1) X.env := by rfl) (hline : (apos.endLine == cpos.line) = true := by rfl) :
    PE X (.Call (.Attribute (.Name x p1) name apos) [] [] cpos) (rdE c (methF i p nilA)) :=
  PE.imp (pe_bm0 PySem.F.plainAttrs_list slot hty hm ho hbase hline) fun σ H Q q => by
    obtain ⟨v, h1, ty, τ, F, S, A, q2⟩ := methOut (X := X) (id := id) hp q
    exact ⟨v, h1, ty, q2 H F (Same.refl F) [] A .nil⟩
end
def apP (ts as : List T) : Option (List T × T) := match as with
  | [t] => if ts.length < sz then some (ts ++ [t], .non) else none
  | _ => none
def exP (ts as : List T) : Option (List T × T) := match as with
  | [.lst us] => if ts.length + us.length ≤ sz then some (ts ++ us, .non) else none
  | _ => none
def popP (ts as : List T) : Option (List T × T) := match as, ts[ts.length - 1]? with
  | [], some t => some (ts.dropLast, t)
  | _, _ => none
def popAtP (ts as : List T) : Option (List T × T) := match as with
  | [.int i] => match seqIndex? i ts.length with
    | some k => match ts[k]? with
      | some t => if -(2 ^ 63) ≤ i ∧ i < 2 ^ 63 then some (ts.eraseIdx k, t) else none
      | none => none
    | none => none
  | _ => none
theorem p_append {c : Cfg} : MethR c rAppend apP := by
  intro F H l vs us ts as ts' z Q s h r ra e k
  unfold apP at e
  split at e
  · split at e
    · rename_i hz
      cases e
      cases ra with
      | cons r1 r0 =>
        cases r0
        exact ⟨l, vs, _, rfl, rfl, h, by rw [r.length, ← sz_eq]; exact hz, k _ _ (r.append (.cons r1 .nil)) .non⟩
    · cases e
  · cases e
theorem p_extend {c : Cfg} : MethR c rExtend exP := by
  intro F H l vs us ts as ts' z Q s h r ra e k
  unfold exP at e
  split at e
  · split at e
    · rename_i hz
      cases e
      cases ra with
      | cons r1 r0 =>
        cases r0
        cases r1 with
        | lst e1 r1 => exact ⟨l, _, vs, _, rfl, rfl, h, s _ _ e1, by rw [r.length, r1.length, ← sz_eq]; exact hz, k _ _ (r.append r1) .non⟩
    · cases e
  · cases e
theorem RepAll.dropLast {g : Ga} {F : Hp} : ∀ {vs : List V} {ts : List T}, RepAll g F vs ts → RepAll g F vs.dropLast ts.dropLast
  | _, _, .nil => .nil
  | _, _, .cons a .nil => .nil
  | _, _, .cons a (.cons b r) => .cons a (RepAll.dropLast (.cons b r))
theorem p_pop {c : Cfg} : MethR c rPop popP := by
  intro F H l vs us ts as ts' z Q s h r ra e k
  unfold popP at e
  split at e
  · rename_i t e1
    cases e
    cases ra
    obtain ⟨v, h1, h2⟩ := r.get e1
    exact ⟨l, vs, v, rfl, rfl, h, by rw [r.length]; exact h1, k _ _ r.dropLast h2⟩
  · cases e
theorem p_popAt {c : Cfg} : MethR c rPopAt popAtP := by
  intro F H l vs us ts as ts' z Q s h r ra e k
  unfold popAtP at e
  split at e
  · rename_i i
    split at e
    · rename_i j e1
      split at e
      · rename_i t e2
        split at e
        · rename_i hh
          cases e
          cases ra with
          | cons r1 r0 =>
            cases r0
            cases r1
            obtain ⟨v, h1, h2⟩ := r.get e2
            exact ⟨l, vs, i, j, v, rfl, rfl, h, hh.1, hh.2, by rw [r.length]; exact e1, h1, k _ _ (r.erase j) h2⟩
        · cases e
      · cases e
    · cases e
  · cases e

/-! ### x[i] = v on an own list -/
def setIF (i : Nat) (fv fi : OF) : SF := fun S => (fv S).bind fun o S1 => match S1.lo[i]? with
  | some (.ow (.lst _)) => (fi S1).bind fun o' S2 => match o, o', S2.lo[i]? with
    | .val t, .val (.int k), some (.ow (.lst ts)) => match ixN ts.length k with
      | some j => .ok .nx (S2.put i (.ow (.lst (ts.set j t))))
      | none => .stuck
    | _, _, _ => .stuck
  | _ => .stuck
theorem sOut.bind2 {α : Type} {c : Cfg} {F : Hp} {D : Ends} {r : R α} {k : α → Sta → R TL.Flow} {σ τ : List (Option V)} {P1 : α → Sta → Hp → Hp → Prop} (h : sOut c F D (r.bind k)) (hτ : τ = [])
    (K : ∀ a S F' H', Same F F' → sOut c F' D (k a S) → P1 a S F' H') : rOut c F σ τ P1 r := by
  subst hτ
  exact sOut.bind h K
theorem ds_setI {X : Cx} {c : Cfg} {i : Nat} {x : Str} {a b : Expr} {fv fi : OF} {p1 pos pos' : Pos} (ho : PE X (.Name x p1) (tVar i)) (hv : PE X b (rdO c fv)) (hi : PE X a (rdO c fi))
    (ha : ∀ v, assign (.Subscript (.Name x p1) a pos) X.env v = (do
      let ov ← holding [v] (eval (.Name x p1) X.env)
      let iv ← holding [v, ov] (eval a X.env)
      standAt pos
      holding [v, ov, iv] (setItem ov iv v)
      release [v, ov, iv] []) := by intro _; rfl)
    (hs : swapsWithSole [.Subscript (.Name x p1) a pos] b pos'.line X.env = pure false := by rfl) (hw : swappedStores [.Subscript (.Name x p1) a pos] b X.env = pure none := by rfl)
    (h1 : (assignEach [.Subscript (.Name x p1) a pos] X.env).map (·.2) = [assign (.Subscript (.Name x p1) a pos) X.env] := by rfl) : PS X (.Assign [.Subscript (.Name x p1) a pos] b pos') (rdS c (setIF i fv fi)) := by
  refine ps_imp (ps_asg hv (pg_sub ho hi set_list ha) hs hw h1) fun D σ H q => ?_
  obtain ⟨F, S, A, q⟩ := q
  refine ⟨[], F, S, A, sOut.bind q fun o S1 F1 H1 s1 q1 v A1 r1 => ?_⟩
  split at q1
  · rename_i t0 e0
    obtain ⟨o2, h1, a2, h2, ⟨u, hu, mk⟩, r2⟩ := A1.slot e0
    subst h2
    refine ⟨_, h1, [], F1, S1, A1, sOut.bind q1 fun o' S2 F2 H2 s2 q2 w A2 r2 => ?_⟩
    split at q2
    · rename_i t k ts e2
      split at q2
      · rename_i j e3
        obtain ⟨o3, h3, a3, h4, ⟨u', hu', mk'⟩, r3⟩ := A2.slot e2
        subst h4
        rw [h1] at h3
        cases h3
        cases mk' with
        | lst rl =>
          cases r2
          exact ⟨_, _, k, j, rfl, rfl, hu', by rw [rl.length]; exact e3, q2 _ F2 (Same.refl F2) σ (A2.change e2 h1 (.lst (rl.set (r1.mono s2) j)))⟩
      · exact q2.elim
    · exact q2.elim
  · exact q1.elim
end TL

end
section
set_option Elab.async false
set_option linter.all false
set_option maxRecDepth 100000
set_option autoImplicit false
/-! TL9: the drawing list, defs and their calls -/
open PySem PySem.Spec PyProof.Rows L2
namespace TL
/-! ### the drawing list -/
def Nib.get (n : Nib) : Nat → Option T
  | 0 => some (.lst (n.cells.map T.int))
  | 1 => some (.int n.turn)
  | 2 => some (.int n.rest)
  | _ => none
def Nib.set (n : Nib) (k : Nat) (z : Int) : Option Nib := match k with
  | 1 => some { n with turn := z }
  | 2 => some { n with rest := z }
  | _ => none
def nibGet (i k : Nat) : EF := fun S => match S.lo[i]? with
  | some (.sh .nib) => match S.nb.get k with
    | some t => .ok (.sh t) S
    | none => .stuck
  | _ => .stuck
def nibSet (i k : Nat) (f : OF) : SF := fun S => (f S).bind fun o S1 => match o, S1.lo[i]? with
  | .val (.int z), some (.sh .nib) => match S1.nb.set k z with
    | some n => .ok .nx { S1 with nb := n }
    | none => .stuck
  | _, _ => .stuck
section
variable {X : Cx} {c : Cfg}
theorem AbsX.setNib {F H : Hp} {S : Sta} {σ τ : List (Option V)} {n : Nib} {p : Addr} (A : AbsX c F S σ τ H) (h : F p = some (.lst (n.cells.map V.int))) : AbsX c F { S with nb := n } σ τ (upd H c.g.nb (.lst [.ref p, .int n.turn, .int n.rest])) := by
  refine ⟨⟨fun b w q => ?_, A.a.fn, ⟨p, upd_same, h⟩, fun b w q ne => ?_, A.a.fre, A.a.len, fun i s o h1 h2 => ?_, A.a.ds⟩, A.l⟩
  · rw [upd_ne (show b ≠ c.g.nb from fun z => by subst z; rw [A.a.fn] at q; cases q)]; exact A.a.fh b w q
  · rw [upd_ne ne]; exact A.a.keep b w q ne
  · have hh := A.a.sl i s o h1 h2
    cases s with
    | no => trivial
    | sh t => exact hh
    | ow t =>
      obtain ⟨a, e, ⟨u, hu, mk⟩, f, h0, nn⟩ := hh
      exact ⟨a, e, ⟨u, by rw [upd_ne nn]; exact hu, mk⟩, f, h0, nn⟩
theorem AbsX.nibAt {F H : Hp} {S : Sta} {σ τ : List (Option V)} {i : Nat} (A : AbsX c F S σ τ H) (e : S.lo[i]? = some (.sh .nib)) : σ[i]? = some (some (.ref c.g.nb)) ∧ ∃ p, H c.g.nb = some (.lst [.ref p, .int S.nb.turn, .int S.nb.rest]) ∧ F p = some (.lst (S.nb.cells.map V.int)) := by
  obtain ⟨o, h1, v, h2, r⟩ := A.slot e
  subst h2
  cases r
  exact ⟨h1, A.a.nib⟩
theorem de_nib {i k : Nat} {x : Str} {j : Nat} {p1 p2 pos : Pos} (h : PE X (.Name x p1) (tVar i)) (hk : k < 3 := by decide) : PE X (.Subscript (.Name x p1) (.Constant (.int (k : Int)) j p2) pos) (rdE c (nibGet i k)) := by
  refine PE.imp (pe_ix ix_seq h pe_int (fun _ _ => rfl)) fun σ H Q q => ?_
  obtain ⟨τ, F, S, A, q⟩ := q
  unfold nibGet at q
  split at q
  · rename_i e
    obtain ⟨h1, p, h2, h3⟩ := A.nibAt e
    split at q
    · rename_i t e2
      have q' : ∀ v, AbsX c F (S.push (.sh t)) σ (τ ++ [some v]) H → Q v H := q H F (Same.refl F)
      match k, e2 with
      | 0, e2 => cases e2; exact ⟨_, h1, .inl ⟨_, _, _, .ref p, rfl, rfl, .inl (.inl h2), rfl, q' _ (A.pushSh (.lst h3 (RepAll.of_ints _)))⟩⟩
      | 1, e2 => cases e2; exact ⟨_, h1, .inl ⟨_, _, _, .int S.nb.turn, rfl, rfl, .inl (.inl h2), rfl, q' _ (A.pushSh (.int _))⟩⟩
      | 2, e2 => cases e2; exact ⟨_, h1, .inl ⟨_, _, _, .int S.nb.rest, rfl, rfl, .inl (.inl h2), rfl, q' _ (A.pushSh (.int _))⟩⟩
    · exact q.elim
  · exact q.elim
theorem ds_nib {i k : Nat} {x : Str} {j : Nat} {b : Expr} {fv : OF} {p1 p2 pos pos' : Pos} (ho : PE X (.Name x p1) (tVar i)) (hv : PE X b (rdO c fv))
    (ha : ∀ v, assign (.Subscript (.Name x p1) (.Constant (.int (k : Int)) j p2) pos) X.env v = (do
      let ov ← holding [v] (eval (.Name x p1) X.env)
      let iv ← holding [v, ov] (eval (.Constant (.int (k : Int)) j p2) X.env)
      standAt pos
      holding [v, ov, iv] (setItem ov iv v)
      release [v, ov, iv] []) := by intro _; rfl)
    (hs : swapsWithSole [.Subscript (.Name x p1) (.Constant (.int (k : Int)) j p2) pos] b pos'.line X.env = pure false := by rfl) (hw : swappedStores [.Subscript (.Name x p1) (.Constant (.int (k : Int)) j p2) pos] b X.env = pure none := by rfl)
    (h1 : (assignEach [.Subscript (.Name x p1) (.Constant (.int (k : Int)) j p2) pos] X.env).map (·.2) = [assign (.Subscript (.Name x p1) (.Constant (.int (k : Int)) j p2) pos) X.env] := by rfl) :
    PS X (.Assign [.Subscript (.Name x p1) (.Constant (.int (k : Int)) j p2) pos] b pos') (rdS c (nibSet i k fv)) := by
  refine ps_imp (ps_asg hv (pg_sub ho pe_int set_list ha) hs hw h1) fun D σ H q => ?_
  obtain ⟨F, S, A, q⟩ := q
  refine ⟨[], F, S, A, sOut.bind q fun o S1 F1 H1 s1 q1 v A1 r1 => ?_⟩
  split at q1
  · rename_i z e
    split at q1
    · rename_i n e2
      obtain ⟨g1, p, h2, h3⟩ := A1.nibAt e
      cases r1
      have fin : ∀ n : Nib, n.cells = S1.nb.cells → AbsX c F1 { S1 with nb := n } σ [] (upd H1 c.g.nb (.lst [.ref p, .int n.turn, .int n.rest])) := fun n e => A1.setNib (by rw [e]; exact h3)
      match k, e2 with
      | 1, e2 => cases e2; exact ⟨_, g1, _, _, _, 1, rfl, rfl, h2, rfl, q1 _ F1 (Same.refl F1) σ (fin { S1.nb with turn := z } rfl)⟩
      | 2, e2 => cases e2; exact ⟨_, g1, _, _, _, 2, rfl, rfl, h2, rfl, q1 _ F1 (Same.refl F1) σ (fin { S1.nb with rest := z } rfl)⟩
    · exact q1.elim
  · exact q1.elim
end

/-! ### defs -/
inductive FR where
  | ok (x : Slot) (n : Nib) | exc (e : Ex) (n : Nib) | stuck
abbrev Fn := List T → Nib → FR
structure Post (g : Ga) (F H F' H' : Hp) (n : Nib) : Prop where
  sF : Same F F'
  fh : Same F' H'
  fn : F' g.nb = none
  nib : NibRel g F' H' n
  keep : ∀ a o, H a = some o → a ≠ g.nb → H' a = some o
  fre : ∀ a o, H a = some o → F a = none → F' a = none
def spOut (g : Ga) (F H : Hp) (Q : VK) (E : XK) : FR → Prop
  | .ok x n => ∀ v F' H', Post g F H F' H' n → SlotRel g F' H' ⟨H, F⟩ x (some v) → Q v H'
  | .exc e n => ∀ cls d F' H', Post g F H F' H' n → ExRel g F' H' e cls d → E cls d H'
  | .stuck => False
def spT (g : Ga) (np : Nat) (f : Fn) : Sp := fun vs H Q E => ∃ F ts n, ts.length = np ∧ RepAll g F vs ts ∧ Same F H ∧ F g.nb = none ∧ NibRel g F H n ∧ spOut g F H Q E (f ts n)
def sta0 (n : Nat) (ts : List T) (nb : Nib) : Sta := ⟨ts.map Slot.sh ++ List.replicate (n - ts.length) .no, [], nb⟩
def fnEnd : R TL.Flow → FR
  | .ok (.rt x) S => .ok x S.nb
  | .ok .nx S => .ok (.sh .non) S.nb
  | .exc e S => .exc e S.nb
  | _ => .stuck
def fnOf (n : Nat) (b : SF) : Fn := fun ts nb => fnEnd (b (sta0 n ts nb))
def callF (np : Nat) (f : Fn) (a : AF) : EF := fun S => (a S).bind fun os S1 => match vals os with
  | some ts => if ts.length = np then match f ts S1.nb with
    | .ok x n => .ok x { S1 with nb := n }
    | .exc e n => .exc e { S1 with nb := n }
    | .stuck => .stuck
    else .stuck
  | none => .stuck
theorem sta0_abs {g : Ga} {F H : Hp} {E : XK} {N : List Str} {vs : List V} {ts : List T} {n : Nib} (r : RepAll g F vs ts) (s : Same F H) (fn : F g.nb = none) (nb : NibRel g F H n) : AbsX ⟨g, ⟨H, F⟩, E⟩ F (sta0 N.length ts n) (start N vs) [] H := by
  have l := r.length
  have le : (sta0 N.length ts n).lo.length = (start N vs).length := by
    show (ts.map Slot.sh ++ _).length = (vs.map some ++ _).length
    simp [l]
  refine ⟨⟨s, fn, nb, fun _ _ h _ => h, fun _ _ _ h => h, by show (_ ++ []).length = (_ ++ []).length; simpa using le, fun i x o h1 h2 => ?_, fun i j t u a h1 _ _ _ => ?_⟩, le⟩
  · have h1 : ((ts.map Slot.sh ++ List.replicate (N.length - ts.length) .no) ++ [])[i]? = some x := h1
    have h2 : ((vs.map some ++ List.replicate (N.length - vs.length) none) ++ [])[i]? = some o := h2
    rw [List.append_nil] at h1 h2
    by_cases hi : i < ts.length
    · rw [List.getElem?_append_left (by simpa using hi), List.getElem?_map] at h1
      rw [List.getElem?_append_left (by simpa [l] using hi), List.getElem?_map] at h2
      rw [List.getElem?_eq_getElem hi] at h1
      cases h1
      obtain ⟨v, e1, e2⟩ := r.get (List.getElem?_eq_getElem hi)
      rw [e1] at h2
      cases h2
      exact ⟨v, rfl, e2⟩
    · rw [List.getElem?_append_right (by simp; omega)] at h1
      have := List.mem_of_getElem? h1
      rw [List.mem_replicate] at this
      rw [this.2]
      trivial
  · have h1 : ((ts.map Slot.sh ++ List.replicate (N.length - ts.length) .no) ++ [])[i]? = some (.ow t) := h1
    rw [List.append_nil] at h1
    by_cases hi : i < ts.length
    · rw [List.getElem?_append_left (by simpa using hi), List.getElem?_map, List.getElem?_eq_getElem hi] at h1
      cases h1
    · rw [List.getElem?_append_right (by simp; omega)] at h1
      have := List.mem_of_getElem? h1
      rw [List.mem_replicate] at this
      cases this.2
theorem AbsX.post {g : Ga} {F F' H H' : Hp} {E : XK} {S : Sta} {σ τ : List (Option V)} (A : AbsX ⟨g, ⟨H, F⟩, E⟩ F' S σ τ H') (s : Same F F') : Post g F H F' H' S.nb :=
  ⟨s, A.a.fh, A.a.fn, A.a.nib, A.a.keep, A.a.fre⟩
section
variable {P : Program} {w : World} {K : PySem.W.Frag} {mg : Str → Option Value} {base : Heap}
/-- a def by its body's reading -/
theorem fn_ok {g : Ga} {x qual : Str} {st : Stmt} {f : Addr} {fd : FuncData} {N ps : List Str} {k : Nat} {b : SF} (Fu : Fun K x qual st f fd) (S : FnScope N ps (defScope st))
    (hb : ∀ (cdv : Value) (A : Around) (outer : List Env) (s : Shared) (H F0 : Hp) (E : XK), Room k (A.deeper (envOfC qual (defScope st) s.heap.objs.size f cdv)) →
      PSs (cxOf (L2.CX P w) P w K mg base N qual (defScope st) f cdv A outer s H E) (defBody st) (rdS ⟨g, ⟨H, F0⟩, E⟩ b)) : FnOk P w K mg base (L2.CX P w) (k + 1) f fd ps (spT g ps.length (fnOf N.length b)) := by
  refine Fu.okX S (fun vs H Q E h => ?_) (fun cdv A outer s H vs Q E hr h => ?_)
  · obtain ⟨F, ts, n, hl, r, _⟩ := h
    rw [r.length, hl]
  · obtain ⟨F, ts, n, hl, r, s1, fn, nb, q⟩ := h
    refine ⟨_, hb cdv A outer s H F E hr, F, sta0 N.length ts n, sta0_abs r s1 fn nb, ?_⟩
    unfold fnOf at q
    cases e : b (sta0 N.length ts n) with
    | ok fl S1 =>
      rw [e] at q
      intro H' F' s2
      cases fl with
      | nx => exact fun σ' A' => q .non F' H' (A'.post s2) ⟨.non, rfl, .non⟩
      | rt x =>
        refine fun v σ' A' => ?_
        have A2 : AbsX ⟨g, ⟨H, F⟩, E⟩ F' (S1.push x) σ' ([] ++ [some v]) H' := A'
        exact q v F' H' (A2.pop.post s2) A2.as.top
      | bk => exact q.elim
      | ct => exact q.elim
    | exc ex S1 =>
      rw [e] at q
      exact fun cls d σ' H' F' s2 A' er => q cls d F' H' (A'.post s2) er
    | stuck => rw [e] at q; exact q.elim
end
section
variable {X : Cx} {c : Cfg}
theorem Post.abs {F H F' H' : Hp} {n : Nib} {S : Sta} {σ τ : List (Option V)} (A : AbsX c F S σ τ H) (p : Post c.g F H F' H' n) : AbsX c F' { S with nb := n } σ τ H' := by
  refine ⟨⟨p.fh, p.fn, p.nib, fun a o h ne => p.keep a o (A.a.keep a o h ne) ne, fun a o h h2 => ?_, A.a.len, fun i s o h1 h2 => ?_, A.a.ds⟩, A.l⟩
  · by_cases ne : a = c.g.nb
    · subst ne; exact p.fn
    · exact p.fre a o (A.a.keep a o h ne) (A.a.fre a o h h2)
  · have hh := A.a.sl i s o h1 h2
    cases s with
    | no => trivial
    | sh t => obtain ⟨v, e, r⟩ := hh; exact ⟨v, e, r.mono p.sF⟩
    | ow t =>
      obtain ⟨a, e, ⟨u, hu, mk⟩, f, h0, nn⟩ := hh
      exact ⟨a, e, ⟨u, p.keep a u hu nn, mk.mono p.sF⟩, p.fre a u hu f, h0, nn⟩
theorem Post.res {F H F' H' : Hp} {n : Nib} {S : Sta} {σ τ : List (Option V)} {x : Slot} {v : V} (A : AbsX c F S σ τ H) (p : Post c.g F H F' H' n) (r : SlotRel c.g F' H' ⟨H, F⟩ x (some v)) : AbsX c F' (Sta.push { S with nb := n } x) σ (τ ++ [some v]) H' := by
  have A1 := p.abs A
  cases x with
  | no => exact .mk' (A1.a.pushNo _) A1.l
  | sh t => obtain ⟨w, e, r⟩ := r; cases e; exact A1.pushSh r
  | ow t =>
    obtain ⟨a, e, ⟨u, hu, mk⟩, f, h0, nn⟩ := r
    cases e
    have hz : ∀ (i : Nat) (t' : T), S.z.sl[i]? = some (.ow t') → (σ ++ τ)[i]? = some (some (.ref a)) → False := fun i t' h1 h2 => by
      obtain ⟨a', e', ⟨u', hu', _⟩, _⟩ := A.a.sl i _ _ h1 h2
      cases e'
      have h0 : H a = none := h0
      rw [h0] at hu'
      cases hu'
    refine .mk' ⟨A1.a.fh, A1.a.fn, A1.a.nib, A1.a.keep, A1.a.fre, by have := A1.a.len; simp only [PS0.push, List.length_append, this, List.length_singleton], fun i s o h1 h2 => ?_, fun i j t1 t2 b h1 h2 h3 h4 => ?_⟩ A1.l
    · rcases getE_snoc h1 with ⟨l1, e1⟩ | ⟨l1, e1⟩
      · rw [getE_snoc_lt (A1.a.len ▸ l1)] at h2
        exact A1.a.sl i s o e1 h2
      · subst e1
        subst l1
        rw [A1.a.len, getE_snoc_last] at h2
        cases h2
        refine ⟨a, rfl, ⟨u, hu, mk⟩, f, ?_, nn⟩
        cases q : c.B.H a with
        | none => rfl
        | some o => have := A.a.keep a o q nn; have h0 : H a = none := h0; rw [h0] at this; cases this
    · rcases getE_snoc h1 with ⟨l1, e1⟩ | ⟨l1, e1⟩
      · rcases getE_snoc h2 with ⟨l2, e2⟩ | ⟨l2, e2⟩
        · rw [getE_snoc_lt (A1.a.len ▸ l1)] at h3
          rw [getE_snoc_lt (A1.a.len ▸ l2)] at h4
          exact A1.a.ds i j t1 t2 b e1 e2 h3 h4
        · subst l2
          rw [A1.a.len, getE_snoc_last] at h4
          cases h4
          rw [getE_snoc_lt (A1.a.len ▸ l1)] at h3
          exact (hz i _ e1 h3).elim
      · subst l1
        rw [A1.a.len, getE_snoc_last] at h3
        cases h3
        rcases getE_snoc h2 with ⟨l2, e2⟩ | ⟨l2, e2⟩
        · rw [getE_snoc_lt (A1.a.len ▸ l2)] at h4
          exact (hz j _ e2 h4).elim
        · exact l2.symm
theorem callOut {np : Nat} {fn : Fn} {fa : AF} {σ : L2.St} {H : Hp} {Q : VK} (q : rdE c (callF np fn fa) σ H Q) : tCall (spT c.g np fn) [] c.E (rdA c fa) σ H Q := by
  obtain ⟨τ, F, S, A, q⟩ := q
  refine ⟨τ, F, S, A, rOut.bind q fun os S1 F1 H1 s1 q1 vs A1 r1 => ?_⟩
  split at q1
  · rename_i ts e1
    split at q1
    · rename_i hl
      rw [List.append_nil]
      refine ⟨F1, ts, S1.nb, hl, r1.vals e1, A1.a.fh, A1.a.fn, A1.a.nib, ?_⟩
      cases e2 : fn ts S1.nb with
      | ok x n =>
        rw [e2] at q1
        exact fun v F' H' p r => q1 H' F' p.sF v (p.res A1 r)
      | exc e n =>
        rw [e2] at q1
        exact fun cls d F' H' p r => q1 cls d H' F' p.sF (p.abs A1) r
      | stuck => rw [e2] at q1; exact q1.elim
    · exact q1.elim
  · exact q1.elim
variable {k : Nat} {f : Addr} {fd : FuncData} {ps : List Str} {fn : Fn} {x : Str} {p pos : Pos} {e : Expr} {es : List Expr}
theorem de_call {fa : AF} (F : FnOk X.prog X.w X.K X.mg X.base (L2.CX X.prog X.w) k f fd ps (spT c.g ps.length fn)) (hr : Room k X.A) (hg : Gl X x) (hm : X.mg x = some (.ref f)) (hk : PySem.W.keepIn X.K (.ref f) = true) (hb : Binds X.K fd ps []) (hx : Passes (L2.CX X.prog X.w) X c.E)
    (ha : PA X (e :: es) (rdA c fa)) (hdb : (x == ("__debug__" : Str)) = false := by decide) (he : starEach (e :: es) X.env = (false, eval e X.env) :: starEach es X.env := by rfl) (hpl : (backTo pos (starEach es X.env)).any (·.1) = false := by rfl) :
    PE X (.Call (.Name x p) (e :: es) [] pos) (rdE c (callF ps.length fn fa)) :=
  PE.imp (pe_call F hr hg hm hk hb .nil hx ha hdb he hpl) fun _ _ _ q => callOut q
theorem de_call0 (F : FnOk X.prog X.w X.K X.mg X.base (L2.CX X.prog X.w) k f fd ps (spT c.g ps.length fn)) (hr : Room k X.A) (hg : Gl X x) (hm : X.mg x = some (.ref f)) (hk : PySem.W.keepIn X.K (.ref f) = true) (hb : Binds X.K fd ps []) (hx : Passes (L2.CX X.prog X.w) X c.E)
    (hdb : (x == ("__debug__" : Str)) = false := by decide) : PE X (.Call (.Name x p) [] [] pos) (rdE c (callF ps.length fn nilA)) :=
  PE.imp (pe_call0 F hr hg hm hk hb .nil hx hdb) fun σ H Q q => by
    have q1 := callOut q
    obtain ⟨τ, F, S, A, q2⟩ := q1
    exact q2 H F (Same.refl F) [] A .nil
end
/-- callees' exceptions in a def's own body, in a block within it -/
theorem pass_own {X : Cx} {E : XK} (hs : X.stack = X.env :: X.outer) (hf : X.env.frame = some X.env.locals) (hex : X.ex = []) {E₁ : Value → Shared → Prop}
    (hx : X.xe = fun e s' => wpAny (model X.prog X.w) X.A (leaving X.env e) (fun _ s'' => L2.CX X.prog X.w X.outer X.H_0 X.s_0 E e s'') E₁ s') : Passes (L2.CX X.prog X.w) X E := passes_call (takes_of hs hf hex hx) fun _ _ _ _ h => h
end TL

end
section
set_option Elab.async false
set_option linter.all false
set_option maxRecDepth 100000
set_option autoImplicit false
/-! TL10: calls with keywords; the law's head -/
open PySem PySem.Spec PyProof.Rows L2
namespace TL
def BindsK (fd : FuncData) (ps ks : List Str) : Prop := ∀ (s : Shared) (us ws : List Value), us.length + ws.length = ps.length → ws.length = ks.length → BindsTo s fd ⟨us, ks.zip ws⟩ (ps.zip (us ++ ws))
theorem bindsK {K : PySem.W.Frag} {x qual : Str} {st : Stmt} {f : Addr} {fd : FuncData} {ps ks : List Str} (F : Fun K x qual st f fd)
    (h : ∀ (kV doc pm : Value) (an : Option Addr) (cdv ct : Value) (us ws : List Value), us.length + ws.length = ps.length → ws.length = ks.length → bindArgs (PySem.W.fnOf x qual (defArgs st) (defBody st) (defScope st) .none kV doc pm an cdv ct) ⟨us, ks.zip ws⟩ = pure (ps.zip (us ++ ws))) : BindsK fd ps ks := by
  obtain ⟨oc, od, kV, doc, pm, an, cdv, ct, osl, rfl, lk, hcd⟩ := F.ex
  exact fun s us ws h1 h2 => .of_eq (h kV doc pm an cdv ct us ws h1 h2)
def appA (a b : AF) : AF := fun S => (a S).bind fun os S1 => (b S1).bind fun os' S2 => .ok (os ++ os') S2
section
variable {X : Cx} {c : Cfg} {k : Nat} {f : Addr} {fd : FuncData} {ps ks : List Str} {fn : Fn} {x : Str} {p pos kpos : Pos} {e : Expr} {es : List Expr} {kws : List Keyword} {nm : Option Str}
theorem PK.imp {e : List Keyword} {t t' : TA} (h : PK X e t) (w : ∀ σ H Q, t' σ H Q → t σ H Q) : PK X e t' := ⟨fun p pins s σ H Q I q => h.run p pins s σ H Q I (w σ H Q q)⟩
theorem dk_nil : PK X [] (rdA c nilA) := by
  refine PK.imp pk_nil fun σ H Q q => ?_
  obtain ⟨τ, F, S, A, q⟩ := q
  exact q H F (Same.refl F) [] A .nil
theorem dk_cons {fe : OF} {r : AF} (h : PE X e (rdO c fe)) (hr : PK X kws (rdA c r)) : PK X (⟨nm, e, kpos⟩ :: kws) (rdA c (consA fe r)) := by
  refine PK.imp (pk_cons h hr) fun σ H Q q => ?_
  obtain ⟨τ, F, S, A, q⟩ := q
  refine ⟨τ, F, S, A, rOut.bind q fun o S1 F1 H1 s1 q1 v A1 r1 => ⟨τ, F1, S1, A1, rOut.bind q1 fun os S2 F2 H2 s2 q2 vs A2 r2 => ?_⟩⟩
  exact q2 H2 F2 (Same.refl F2) (v :: vs) A2 (.cons (r1.mono s2) r2)
theorem run_fnk' {pins : List (Addr × Obj)} {σ : L2.St} {H : Hp} {s : Shared} {sp : Sp} {Q : VK} {us ws : List Value} {vs zs : List V} (F : FnOk X.prog X.w X.K X.mg X.base (L2.CX X.prog X.w) k f fd ps sp) (hr : Room k X.A) (hb : BindsK fd ps ks) (hx : Passes (L2.CX X.prog X.w) X c.E) (hl : zs.length = ks.length)
    (I : Inv X pins σ H s) (r : Vals vs us) (rz : Vals zs ws) (h : sp (vs ++ zs) H Q c.E) : wpAny (model X.prog X.w) X.A (call (.ref f) us (ks.zip ws)) (EP X pins σ Q) X.xe s := by
  have r2 := r.append rz
  have hl2 : (vs ++ zs).length = ps.length := F.len _ _ _ _ h
  have l1 := r.length
  have l2 := rz.length
  rw [List.length_append] at hl2
  refine wpAny_call (codeAny_mono (F.run X.A X.stack s H ⟨us, ks.zip ws⟩ (us ++ ws) (vs ++ zs) Q c.E hr I.env0 (hb s us ws (by omega) (by omega)) r2 h) fun r s' hq => ?_)
  cases r with
  | error e => exact hx pins σ H s e s' I hq
  | ok fl =>
    cases fl with
    | ret u => exact I.after hq
    | next => exact False.elim hq
    | brk => exact False.elim hq
    | cont => exact False.elim hq
def tCallKW (sp : Sp) (n : Nat) (E : XK) (t tk : TA) : TE := fun σ H Q => t σ H fun vs H1 => tk σ H1 fun zs H2 => zs.length = n ∧ sp (vs ++ zs) H2 Q E
theorem pe_callKW0 {sp : Sp} {tk : TA} (F : FnOk X.prog X.w X.K X.mg X.base (L2.CX X.prog X.w) k f fd ps sp) (hr : Room k X.A) (hg : Gl X x) (hm : X.mg x = some (.ref f)) (hk : PySem.W.keepIn X.K (.ref f) = true) (hb : BindsK fd ps ks) (hx : Passes (L2.CX X.prog X.w) X c.E)
    (hkw : PK X kws tk) (hall : (backToKw pos (keywordEach kws X.env)).all (·.1.isSome) = true := by rfl) (hks : (backToKw pos (keywordEach kws X.env)).filterMap (·.1) = ks := by rfl)
    (hdb : (x == ("__debug__" : Str)) = false := by decide) (hpl : ((backTo pos (starEach [] X.env)).any (·.1) || (backToKw pos (keywordEach kws X.env)).any (·.1.isNone)) = false := by rfl) :
    PE X (.Call (.Name x p) [] kws pos) (tCallKW sp ks.length c.E tNil tk) := by
  refine ⟨fun pins s σ H Q I h => ?_⟩
  refine wpAny_Call_Name_kw (ld_glob I hg hm ?_ hdb)
  refine PySem.W.callWith_KW0 (h₀ := X.base) I.ok.mod.kin hk hall (thn (hkw.run pos pins s σ H _ I h) fun ws s2 ⟨zs, H2, I2, rz, q2⟩ => ⟨I2.kIn, ?_⟩) hpl
  rw [hks]
  exact run_fnk' F hr hb hx q2.1 I2 .nil rz q2.2
theorem pe_callKW {sp : Sp} {t tk : TA} (F : FnOk X.prog X.w X.K X.mg X.base (L2.CX X.prog X.w) k f fd ps sp) (hr : Room k X.A) (hg : Gl X x) (hm : X.mg x = some (.ref f)) (hk : PySem.W.keepIn X.K (.ref f) = true) (hb : BindsK fd ps ks) (hx : Passes (L2.CX X.prog X.w) X c.E)
    (ha : PA X (e :: es) t) (hkw : PK X kws tk) (hall : (backToKw pos (keywordEach kws X.env)).all (·.1.isSome) = true := by rfl) (hks : (backToKw pos (keywordEach kws X.env)).filterMap (·.1) = ks := by rfl)
    (hdb : (x == ("__debug__" : Str)) = false := by decide) (he : starEach (e :: es) X.env = (false, eval e X.env) :: starEach es X.env := by rfl)
    (hpl : ((backTo pos (starEach (e :: es) X.env)).any (·.1) || (backToKw pos (keywordEach kws X.env)).any (·.1.isNone)) = false := by rfl) :
    PE X (.Call (.Name x p) (e :: es) kws pos) (tCallKW sp ks.length c.E t tk) := by
  refine ⟨fun pins s σ H Q I h => ?_⟩
  refine wpAny_Call_Name_kw (ld_glob I hg hm ?_ hdb)
  refine PySem.W.callWith_KW (h₀ := X.base) I.ok.mod.kin hk hall (thn (ha.run pos pins s σ H _ I h) fun us s1 ⟨vs, H1, I1, r, q⟩ => ?_) hpl he
  refine thn (hkw.run pos pins s1 σ H1 _ I1 q) fun ws s2 ⟨zs, H2, I2, rz, q2⟩ => ⟨I2.kIn, ?_⟩
  rw [hks]
  exact run_fnk' F hr hb hx q2.1 I2 r rz q2.2
theorem OpdAll.append {g : Ga} {F : Hp} {σ : List (Option V)} : ∀ {os us : List Opd} {vs ws : List V}, OpdAll g F σ os vs → OpdAll g F σ us ws → OpdAll g F σ (os ++ us) (vs ++ ws)
  | _, _, _, _, .nil, q => q
  | _, _, _, _, .cons a b, q => .cons a (OpdAll.append b q)
theorem vals_app : ∀ (os us : List Opd), vals (os ++ us) = (vals os).bind fun a => (vals us).map (a ++ ·)
  | [], us => by cases h : vals us <;> simp [vals, h]
  | .val t :: os, us => by
    show (vals (os ++ us)).map _ = _
    rw [vals_app os us]
    cases h : vals os <;> cases h2 : vals us <;> simp [vals, h, h2]
  | .pl _ :: _, _ => rfl
def callKF (np nk : Nat) (f : Fn) (a b : AF) : EF := fun S => (a S).bind fun os S1 => (b S1).bind fun us S2 => match vals os, vals us with
  | some ts, some zs => if ts.length + zs.length = np ∧ zs.length = nk then match f (ts ++ zs) S2.nb with
    | .ok x n => .ok x { S2 with nb := n }
    | .exc e n => .exc e { S2 with nb := n }
    | .stuck => .stuck
    else .stuck
  | _, _ => .stuck
theorem callKOut {np nk : Nat} {fn : Fn} {fa fb : AF} {σ : L2.St} {H : Hp} {Q : VK} (q : rdE c (callKF np nk fn fa fb) σ H Q) : tCallKW (spT c.g np fn) nk c.E (rdA c fa) (rdA c fb) σ H Q := by
  obtain ⟨τ, F, S, A, q⟩ := q
  refine ⟨τ, F, S, A, rOut.bind q fun os S0 F0 H0 s0 q0 vs A0 r0 => ⟨τ, F0, S0, A0, rOut.bind q0 fun us S1 F1 H1 s1 q1 zs A1 r1 => ?_⟩⟩
  split at q1
  · rename_i ts us' e1 e2
    split at q1
    · rename_i hl
      have rz := r1.vals e2
      refine ⟨by rw [rz.length]; exact hl.2, F1, ts ++ us', S1.nb, by rw [List.length_append]; exact hl.1, ((r0.vals e1).mono s1).append rz, A1.a.fh, A1.a.fn, A1.a.nib, ?_⟩
      cases e3 : fn (ts ++ us') S1.nb with
      | ok x n =>
        rw [e3] at q1
        exact fun v F' H' p r => q1 H' F' p.sF v (p.res A1 r)
      | exc e n =>
        rw [e3] at q1
        exact fun cls d F' H' p r => q1 cls d H' F' p.sF (p.abs A1) r
      | stuck => rw [e3] at q1; exact q1.elim
    · exact q1.elim
  · exact q1.elim
theorem de_callKW0 {fb : AF} (F : FnOk X.prog X.w X.K X.mg X.base (L2.CX X.prog X.w) k f fd ps (spT c.g ps.length fn)) (hr : Room k X.A) (hg : Gl X x) (hm : X.mg x = some (.ref f)) (hk : PySem.W.keepIn X.K (.ref f) = true) (hb : BindsK fd ps ks) (hx : Passes (L2.CX X.prog X.w) X c.E)
    (hkw : PK X kws (rdA c fb)) (hall : (backToKw pos (keywordEach kws X.env)).all (·.1.isSome) = true := by rfl) (hks : (backToKw pos (keywordEach kws X.env)).filterMap (·.1) = ks := by rfl)
    (hdb : (x == ("__debug__" : Str)) = false := by decide) (hpl : ((backTo pos (starEach [] X.env)).any (·.1) || (backToKw pos (keywordEach kws X.env)).any (·.1.isNone)) = false := by rfl) :
    PE X (.Call (.Name x p) [] kws pos) (rdE c (callKF ps.length ks.length fn nilA fb)) :=
  PE.imp (pe_callKW0 F hr hg hm hk hb hx hkw hall hks hdb hpl) fun σ H Q q => by
    have q1 := callKOut q
    obtain ⟨τ, F, S, A, q2⟩ := q1
    exact q2 H F (Same.refl F) [] A .nil
theorem de_callKW {fa fb : AF} (F : FnOk X.prog X.w X.K X.mg X.base (L2.CX X.prog X.w) k f fd ps (spT c.g ps.length fn)) (hr : Room k X.A) (hg : Gl X x) (hm : X.mg x = some (.ref f)) (hk : PySem.W.keepIn X.K (.ref f) = true) (hb : BindsK fd ps ks) (hx : Passes (L2.CX X.prog X.w) X c.E)
    (ha : PA X (e :: es) (rdA c fa)) (hkw : PK X kws (rdA c fb)) (hall : (backToKw pos (keywordEach kws X.env)).all (·.1.isSome) = true := by rfl) (hks : (backToKw pos (keywordEach kws X.env)).filterMap (·.1) = ks := by rfl)
    (hdb : (x == ("__debug__" : Str)) = false := by decide) (he : starEach (e :: es) X.env = (false, eval e X.env) :: starEach es X.env := by rfl)
    (hpl : ((backTo pos (starEach (e :: es) X.env)).any (·.1) || (backToKw pos (keywordEach kws X.env)).any (·.1.isNone)) = false := by rfl) :
    PE X (.Call (.Name x p) (e :: es) kws pos) (rdE c (callKF ps.length ks.length fn fa fb)) :=
  PE.imp (pe_callKW F hr hg hm hk hb hx ha hkw hall hks hdb he hpl) fun _ _ _ q => callKOut q
end

/-! ### the drawing list is made: [[int(c) for c in script[:n]], 0, 0] -/
def spCan (K : PySem.W.Frag) : Sp := fun vs H Q _ => ∃ (a : Addr) (ns : List Int), vs = [.ref a] ∧ SqL K H a (ns.map V.int) ∧ ns.length ≤ 63 ∧
  ∀ H' p q, Same H H' → H p = none → H q = none → p ≠ q → H' p = some (.lst [.ref q, .int 0, .int 0]) → H' q = some (.lst (ns.map V.int)) → Q (.ref p) H'
/-- from there on, whatever the list's place -/
def tNb (c : Addr → Cfg) (f : SF) : TS := fun D σ H => ∃ nb, rdS (c nb) f D σ H
theorem pss_nb {X : Cx} {c : Addr → Cfg} {f : SF} {sts : List Stmt} (h : ∀ nb, PSs X sts (rdS (c nb) f)) : PSs X sts (tNb c f) :=
  ⟨fun pins s σ H D I q => (let ⟨nb, q⟩ := q; (h nb).run pins s σ H D I q)⟩
end TL
namespace TL
theorem bt_len : bootBuiltins "len" = some (.builtin "len") := by decide +kernel
theorem bt_abs : bootBuiltins "abs" = some (.builtin "abs") := by decide +kernel
theorem bt_sum : bootBuiltins "sum" = some (.builtin "sum") := by decide +kernel
theorem bt_all : bootBuiltins "all" = some (.builtin "all") := by decide +kernel
theorem bt_any : bootBuiltins "any" = some (.builtin "any") := by decide +kernel
theorem bt_max : bootBuiltins "max" = some (.builtin "max") := by decide +kernel
theorem bt_min : bootBuiltins "min" = some (.builtin "min") := by decide +kernel
theorem bt_sorted : bootBuiltins "sorted" = some (.builtin "sorted") := by decide +kernel
theorem bt_int : bootBuiltins "int" = some (.type "int") := by decide +kernel
theorem bt_bool : bootBuiltins "bool" = some (.type "bool") := by decide +kernel
theorem bt_str : bootBuiltins "str" = some (.type "str") := by decide +kernel
theorem bt_list : bootBuiltins "list" = some (.type "list") := by decide +kernel
theorem bt_tuple : bootBuiltins "tuple" = some (.type "tuple") := by decide +kernel
theorem bt_dict : bootBuiltins "dict" = some (.type "dict") := by decide +kernel
theorem bt_set : bootBuiltins "set" = some (.type "set") := by decide +kernel
theorem hu65 {k : Nat} {A : Around} (hr : Room k A) : A.units + 65 < cLine := by have := hr.un; omega
theorem hu10 {k : Nat} {A : Around} (hr : Room k A) : A.units + 10 < cLine := by have := hr.un; omega
end TL
namespace TL
theorem cut_take (xs : List V) (m : Nat) : cutV xs none (some (m : Int)) = xs.take m := by
  unfold cutV
  rw [HT.sIx_none, HT.sIx_nat, List.drop_zero, Nat.sub_zero]
  by_cases h : m ≤ xs.length
  · rw [Nat.min_eq_left h]
  · rw [Nat.min_eq_right (by omega), List.take_of_length_le (Nat.le_refl _), List.take_of_length_le (by omega)]
def spCanN (m : Nat) (K : PySem.W.Frag) : Sp := fun vs H Q _ => ∃ (a : Addr) (ns : List Int), vs = [.ref a] ∧ SqL K H a (ns.map V.int) ∧ ns.length ≤ 1000 ∧
  ∀ H' p q, Same H H' → p ≠ q → H' p = some (.lst [.ref q, .int 0, .int 0]) → H' q = some (.lst ((ns.take m).map V.int)) → Q (.ref p) H'
theorem lst_new {H : Hp} {p : Addr} {o : HO} (h : H p = none) : Same H (upd H p o) := fun b x e => by
  rw [upd_ne (ne_of_none e h)]
  exact e
theorem can_lc {K : PySem.W.Frag} {te : TE} {H1 : Hp} {c D : Addr} {Q : Hp → Prop} {ns : List Int} (hl : ns.length ≤ 1000) (hc : H1 c = some (.lst (ns.map V.int))) (hD : H1 D = none) {σ : L2.St}
    (ht : ∀ (σ2 : L2.St) (i : Int) (H : Hp) (Q : VK), σ2[1]? = some (some (.int i)) → Q (.int i) H → te σ2 H Q) (h1 : 1 < σ.length) (q : ∀ H', Same H1 H' → H' D = some (.lst (ns.map V.int)) → Q H') :
    ∃ W : Nat → Nat → Hp → Prop, (∃ m, W 0 m (upd H1 D (.lst []))) ∧ ∀ i m H, W i m H →
  ((Itl K c).stop i H ∧ Q H) ∨ ((Itl K c).go i H ∧ ∃ Nx : Hp → Prop, (∀ H', Nx H' → ∃ m', m' < m ∧ W (i + 1) m' H') ∧ ∀ x H', (Itl K c).yld i H x H' → gName 1 x (wipe σ [1]) H' fun σ2 H2 => wipe σ2 [1] = wipe σ [1] ∧ tYes σ2 H2 fun b H3 =>
    if b = true then te σ2 H3 fun y H4 => ∃ acc, H4 D = some (.lst acc) ∧ acc.length < sizeLine ∧ Nx (upd H4 D (.lst (acc ++ [y]))) else Nx H3) := by
  have ncD : c ≠ D := fun z => by subst z; rw [hc] at hD; cases hD
  refine lc_list (K := K) (a := c) (xs := ns.map V.int) (fun i H => Same H1 H ∧ H D = some (.lst ((ns.take i).map V.int))) ⟨lst_new hD, by rw [upd_same]; rfl⟩ (fun i H _ p => .inl (.inl (p.1 _ _ hc))) (fun i x H hx p => ?_) (fun H p => ?_)
  · have hi : i < ns.length := by have := (List.getElem?_eq_some_iff.mp hx).1; simpa using this
    rw [List.getElem?_map, List.getElem?_eq_getElem hi] at hx
    cases hx
    refine ⟨?_, ?_⟩
    · show ((σ.set 1 none).set 1 _).set 1 none = σ.set 1 none
      rw [List.set_set, List.set_set]
    · show te (List.set (wipe σ [1]) 1 (some (.int ns[i]))) H _
      refine ht _ ns[i] _ _ ?_ ⟨_, p.2, ?_, ?_, ?_⟩
      · show ((σ.set 1 none).set 1 _)[1]? = _
        rw [List.getElem?_set_self (by rw [List.length_set]; exact h1)]
      · rw [List.length_map, List.length_take]
        exact small1000 (by omega)
      · exact fun b x e => by rw [upd_ne (ne_of_none e hD)]; exact p.1 b x e
      · rw [upd_same, List.take_add_one, List.getElem?_eq_getElem hi, List.map_append]; rfl
  · rw [List.length_map, List.take_of_length_le (Nat.le_refl _)] at p
    exact q H p.1 p.2
end TL

namespace TL
def spLaw (K : PySem.W.Frag) : Sp := fun vs H Q _ => ∃ (a : Addr) (ns : List Int), vs = [.ref a] ∧ SqL K H a (ns.map V.int) ∧ ns.length ≤ 63 ∧ (∀ z ∈ ns, Builtin.Int.intBits z ≤ 1048576) ∧ ∀ H', Q (.bl true) H'
def cLaw (K : PySem.W.Frag) (ca : Nat → Addr) (E : XK) (nb : Addr) : Cfg := ⟨⟨K, nb, ca⟩, ⟨fun _ => none, fun _ => none⟩, E⟩
theorem law_read {K : PySem.W.Frag} {ca : Nat → Addr} {E : XK} {m n : Nat} {f : SF} {D : Ends} {a : Addr} {H : Hp} {ns : List Int} (hn : n = n - 2 + 2) (hS : SqL K H a (ns.map V.int)) (hl : ns.length ≤ 63) (q : ∀ H', D.rt (.bl true) H')
    (hf : ∃ S', f ⟨.no :: .sh .nib :: List.replicate (n - 2) .no, [], ⟨ns.take m, 0, 0⟩⟩ = .ok (.rt (.sh (.bl true))) S') {σ : L2.St} (hσ : σ = some (.ref a) :: List.replicate (n - 1) none) :
    tSeq (tAsg (tCall (spCanN m K) [] E (tCons (tVar 0) tNil)) (gName 1)) (tNb (cLaw K ca E) f) D σ H := by
  subst hσ
  obtain ⟨S', hf⟩ := hf
  refine ⟨_, rfl, a, ns, rfl, hS, Nat.le_trans hl (by decide), fun H' p q' s npq h1 h2 => ?_⟩
  refine ⟨p, fun b => if b = q' then some (.lst ((ns.take m).map V.int)) else none, ⟨.no :: .sh .nib :: List.replicate (n - 2) .no, [], ⟨ns.take m, 0, 0⟩⟩, ?_, ?_⟩
  · have el : (n - 1) = (n - 2) + 1 := by omega
    rw [el, List.replicate_succ]
    show AbsX _ _ _ (some (.ref a) :: some (.ref p) :: List.replicate (n - 2) none) [] _
    refine ⟨⟨fun b x e => ?_, ?_, ⟨q', h1, ?_⟩, (fun _ _ e => nomatch e), (fun _ _ e => nomatch e), ?_, fun i x o e1 e2 => ?_, fun i j t u b e1 _ _ _ => ?_⟩, ?_⟩
    · have e : (if b = q' then some (HO.lst ((ns.take m).map V.int)) else none) = some x := e
      by_cases hb : b = q'
      · rw [if_pos hb] at e
        rw [hb, h2]
        exact e
      · rw [if_neg hb] at e
        cases e
    · show (if p = q' then _ else none) = none
      rw [if_neg npq]
    · show (if q' = q' then _ else none) = _
      rw [if_pos rfl]
      rfl
    · show ((Slot.no :: Slot.sh .nib :: List.replicate (n - 2) Slot.no) ++ []).length = _
      simp
    · have e1 : ((Slot.no :: Slot.sh .nib :: List.replicate (n - 2) Slot.no) ++ [])[i]? = some x := e1
      rw [List.append_nil] at e1 e2
      match i, e1, e2 with
      | 0, e1, e2 => cases e1; trivial
      | 1, e1, e2 => cases e1; cases e2; exact ⟨_, rfl, .nib⟩
      | i + 2, e1, e2 =>
        have e1 : (List.replicate (n - 2) Slot.no)[i]? = some x := e1
        have := List.mem_of_getElem? e1
        rw [List.mem_replicate] at this
        rw [this.2]
        trivial
    · have e1 : ((Slot.no :: Slot.sh .nib :: List.replicate (n - 2) Slot.no) ++ [])[i]? = some (.ow t) := e1
      rw [List.append_nil] at e1
      match i, e1 with
      | 0, e1 => cases e1
      | 1, e1 => cases e1
      | i + 2, e1 =>
        have e1 : (List.replicate (n - 2) Slot.no)[i]? = some (.ow t) := e1
        have := List.mem_of_getElem? e1
        rw [List.mem_replicate] at this
        cases this.2
    · simp
  · rw [hf]
    intro H2 F2 s2 v σ2 A2
    have A3 : AbsX (cLaw K ca E p) F2 (S'.push (.sh (.bl true))) σ2 ([] ++ [some v]) H2 := A2
    have r := A3.topSh
    cases r
    exact q H2
end TL

end
section
set_option Elab.async false
set_option linter.all false
set_option maxRecDepth 100000
set_option autoImplicit false
/-! TL14: index, tuples in order, repr of a truth value -/
open PySem PySem.Spec PyProof.Rows L2
namespace TL
def rIdxT (K : PySem.W.Frag) : V → List V → Hp → VK → Prop := fun x xs H Q => ∃ (a : Addr) (ys : List V) (y : V) (j : Nat) (z : V), x = V.ref a ∧ xs = [y] ∧ SqT K H a ys ∧ flatV y = true ∧ ys.all flatV = true ∧ ys[j]? = some z ∧ eqV z y = true ∧
  (∀ (m : Nat) (z' : V), m < j → ys[m]? = some z' → eqV z' y = false) ∧ Q (.int (j : Nat)) H
section
variable {X : Cx}
theorem mt_idxT : MtR X "tuple.index" (rIdxT X.K) := by
  intro pins s σ H x xs v us Q I rx rxs h
  obtain ⟨a, ys, y, j, z, rfl, rfl, hs, fy, fys, hz, hzj, hno, q⟩ := h
  cases rx
  cases rxs with
  | cons ry rt =>
    rename_i uy ut
    cases rt
    obtain ⟨its, rv, pl, hlen⟩ := I.tuple hs
    obtain ⟨⟨cls, dd, data, sl⟩, ho, hc, n, hd⟩ := pl
    simp only at hc hd
    subst hc hd
    obtain ⟨u, hu, ru⟩ := rv.get hz
    obtain ⟨hjl, hje⟩ := List.getElem?_eq_some_iff.mp hu
    have hvl := rv.length
    have hj : j < its.toArray.size := by simpa using hjl
    refine call_meets PySem.F.slot_tuple_index ⟨_, ho, rfl⟩ PySem.F.entry_tuple_index (PySem.F.args_tuple_index_2 _ _)
      (TI.tuple_indexAt a its.toArray n dd sl uy (eqU y) j hj ?_ ?_) ⟨ho, fun u' hu' => mem_eqAt ry fy rv fys u' (by simpa using hu'), ?_⟩
    · have e1 : its.toArray[j] = u := by simpa using hje
      rw [e1, eqU_of ru (flat_at fys hz)]
      exact hzj
    · intro m hm hmj
      have hml : m < its.length := by simpa using hm
      have hmy : m < ys.length := by omega
      have hy' : ys[m]? = some ys[m] := List.getElem?_eq_getElem hmy
      obtain ⟨u2, hu2, ru2⟩ := rv.get hy'
      obtain ⟨_, hme⟩ := List.getElem?_eq_some_iff.mp hu2
      have e1 : its.toArray[m] = u2 := by simpa using hme
      rw [e1, eqU_of ru2 (flat_at fys hy')]
      exact hno m _ hmj hy'
    · exact ⟨.int (j : Nat), H, I.tok _, ⟨_, rfl⟩, q⟩
end
def idxP (ts : List T) (u : T) : Option Slot := if T.okAll 0 ts = true ∧ T.okD 0 u = true then (ts.findIdx? fun y => eqD y u).map fun j => .sh (.int (j : Nat)) else none
def idxF (fa fb : OF) : EF := fun S => (fa S).bind fun o S1 => match o.get S1 with
  | some (.lst _) => (fb S1).bind fun o' S2 => match o.get S2, o'.get S2 with
    | some (.lst ts), some u => res (idxP ts u) S2
    | _, _ => .stuck
  | some (.tup _) => (fb S1).bind fun o' S2 => match o.get S2, o'.get S2 with
    | some (.tup ts), some u => res (idxP ts u) S2
    | _, _ => .stuck
  | _ => .stuck
theorem idxP_at {g : Ga} {F : Hp} {vs : List V} {ts : List T} {w : V} {u : T} {z : Slot} (r : RepAll g F vs ts) (q : Rep g F w u) (h : idxP ts u = some z) : ∃ (j : Nat) (x : V), z = .sh (.int (j : Nat)) ∧ flatV w = true ∧ vs.all flatV = true ∧ vs[j]? = some x ∧ eqV x w = true ∧ ∀ (m : Nat) (z' : V), m < j → vs[m]? = some z' → eqV z' w = false := by
  unfold idxP at h
  split at h
  · rename_i hh
    obtain ⟨j, h1, h2⟩ := Option.map_eq_some_iff.mp h
    obtain ⟨h3, h4, h5⟩ := List.findIdx?_eq_some_iff_getElem.mp h1
    have hv : j < vs.length := by rw [r.length]; exact h3
    have okA : ∀ (ts : List T), T.okTs ts 0 = true → ∀ t ∈ ts, T.okT t 0 = true := by
      intro ts
      induction ts with
      | nil => intro _ t h; cases h
      | cons a l ih =>
        intro h t ht
        rw [T.okTs, Bool.and_eq_true] at h
        rcases List.mem_cons.mp ht with rfl | ht
        · exact h.1
        · exact ih h.2 t ht
    obtain ⟨t', e1, e2⟩ := r.getV (List.getElem?_eq_getElem hv)
    have e3 : t' = ts[j] := by rw [List.getElem?_eq_getElem h3] at e1; exact (Option.some.inj e1).symm
    subst e3
    refine ⟨j, vs[j], h2.symm, flat_of hh.2 q, flats_of hh.1 r, List.getElem?_eq_getElem hv, ?_, fun m z' hm hz' => ?_⟩
    · rw [eqV_d (okA ts hh.1 _ (List.getElem_mem h3)) hh.2 e2 q]; exact h4
    · obtain ⟨t2, f1, f2⟩ := r.getV hz'
      have hm2 : m < ts.length := by omega
      have f3 : t2 = ts[m] := by rw [List.getElem?_eq_getElem hm2] at f1; exact (Option.some.inj f1).symm
      subst f3
      rw [eqV_d (okA ts hh.1 _ (List.getElem_mem hm2)) hh.2 f2 q]
      have := h5 m hm
      simpa using this
  · cases h
theorem PRep.tupD {g : Ga} {F H : Hp} {v : V} {ts : List T} (s : Same F H) (h : PRep g F H v (.tup ts)) : ∃ a vs, v = .ref a ∧ SqD g.K H a vs ∧ RepAll g F vs ts := by
  rcases h with h | ⟨a, u, e, hu, h⟩
  · cases h with
    | tup e r => exact ⟨_, _, rfl, sameSqD s e, r⟩
  · cases h
theorem PE.either {X : Cx} {e : Expr} {t1 t2 t : TE} (h1 : PE X e t1) (h2 : PE X e t2) (w : ∀ σ H Q, t σ H Q → t1 σ H Q ∨ t2 σ H Q) : PE X e t :=
  ⟨fun pins s σ H Q I q => (w σ H Q q).elim (fun q => h1.run pins s σ H Q I q) fun q => h2.run pins s σ H Q I q⟩
theorem de_index {X : Cx} {c : Cfg} {o b : Expr} {fa fb : OF} {apos cpos : Pos} (hK : c.g.K = X.K) (ho : PE X o (rdO c fa)) (hb : PE X b (rdO c fb))
    (hbase : attributeBase o "index" X.env (eval o X.env) = eval o X.env := by rfl)
    (hfew : ((backTo cpos (starEach [b] X.env)).all (fun x => !x.1) && (backToKw cpos (keywordEach [] X.env)).all (fun x => x.1.isSome)
      && decide (([b] : List Expr).length + ([] : List Keyword).length + (if ([] : List Keyword).isEmpty then 0 else 1) < 30)) = true := by rfl)
    (hline : (apos.endLine == cpos.line) = true := by rfl) (hs : starEach [b] X.env = (false, eval b X.env) :: starEach [] X.env := by rfl) (hplain : (backTo cpos (starEach [] X.env)).any (·.1) = false := by rfl) :
    PE X (.Call (.Attribute o "index" apos) [b] [] cpos) (rdE c (idxF fa fb)) := by
  refine PE.either (pe_bm PySem.F.plainAttrs_list PySem.F.slot_list_index PySem.F.type_list_index mt_index ho (pa_cons hb pa_nil hs) hbase hfew hline hs hplain)
    (pe_bmT PySem.F.slot_tuple_index PySem.F.type_tuple_index mt_idxT ho (pa_cons hb pa_nil hs) hbase hfew hline hs hplain) fun σ H Q q => ?_
  obtain ⟨τ, F, S, A, q⟩ := q
  unfold idxF at q
  cases e : fa S with
  | stuck => rw [e] at q; exact q.elim
  | exc ex S1 => rw [e] at q; exact .inl ⟨τ, F, S, A, by rw [e]; exact q⟩
  | ok o S1 =>
    rw [e, R.bind_ok] at q
    split at q
    · rename_i t0 e0
      refine .inl ⟨τ, F, S, A, ?_⟩
      rw [e]
      intro H1 F1 s1 v A1 r1
      obtain ⟨a, vs, rfl, h1, _⟩ := (A1.opd r1 e0).lst A1.a.fh
      refine ⟨.inl ⟨rfl, vs, .inl (.inl h1)⟩, τ, F1, S1, A1, rOut.bind (q.mono s1) fun o' S2 F2 H2 s2 q2 w A2 r2 => ?_⟩
      split at q2
      · rename_i ts u g1 g2
        unfold res at q2
        split at q2
        · rename_i z hz
          obtain ⟨a', vs', e', h3, r3⟩ := (A2.opd (r1.mono s2) g1).lst A2.a.fh
          cases e'
          have ru : Rep c.g F2 w u := (A2.opd r2 g2).rep0 (by
            unfold idxP at hz
            split at hz
            · rename_i hh; exact hh.2
            · cases hz)
          obtain ⟨j, x, rfl, f1, f2, f3, f4, f5⟩ := idxP_at r3 ru hz
          exact ⟨a, vs', w, j, x, rfl, rfl, .inl (.inl h3), f1, f2, f3, f4, f5, q2 H2 F2 (Same.refl F2) _ (A2.pushSh (.int _))⟩
        · exact q2.elim
      · exact q2.elim
    · rename_i t0 e0
      refine .inr ⟨τ, F, S, A, ?_⟩
      rw [e]
      intro H1 F1 s1 v A1 r1
      obtain ⟨a, vs, rfl, h1, _⟩ := (A1.opd r1 e0).tupD A1.a.fh
      refine ⟨⟨a, vs, rfl, hK ▸ h1⟩, τ, F1, S1, A1, rOut.bind (q.mono s1) fun o' S2 F2 H2 s2 q2 w A2 r2 => ?_⟩
      split at q2
      · rename_i ts u g1 g2
        unfold res at q2
        split at q2
        · rename_i z hz
          obtain ⟨a', vs', e', h3, r3⟩ := (A2.opd (r1.mono s2) g1).tup A2.a.fh
          cases e'
          have ru : Rep c.g F2 w u := (A2.opd r2 g2).rep0 (by
            unfold idxP at hz
            split at hz
            · rename_i hh; exact hh.2
            · cases hz)
          obtain ⟨j, x, rfl, f1, f2, f3, f4, f5⟩ := idxP_at r3 ru hz
          exact ⟨a, vs', w, j, x, rfl, rfl, hK ▸ h3, f1, f2, f3, f4, f5, q2 H2 F2 (Same.refl F2) _ (A2.pushSh (.int _))⟩
        · exact q2.elim
      · exact q2.elim
    · exact q.elim
end TL

namespace TL
theorem lexAt_shift (e r : Nat → Bool) (z : Bool) : ∀ (k i : Nat), Ob.lexAt e r z (i + 1) k = Ob.lexAt (fun j => e (j + 1)) (fun j => r (j + 1)) z i k
  | 0, _ => rfl
  | k + 1, i => by rw [Ob.lexAt_succ, Ob.lexAt_succ, lexAt_shift e r z k (i + 1)]
theorem lexAt_gt : ∀ ns ms : List Int, Ob.lexAt (fun j => decide (ns.getD j 0 = ms.getD j 0)) (fun j => decide (ms.getD j 0 < ns.getD j 0)) (decide (ns.length > ms.length)) 0 (min ns.length ms.length) = HT.lexLt ms ns
  | [], [] => rfl
  | [], _ :: _ => by simp [Ob.lexAt_zero, HT.lexLt]
  | _ :: _, [] => by simp [Ob.lexAt_zero, HT.lexLt]
  | n :: ns, m :: ms => by
    have ih := lexAt_gt ns ms
    rw [HT.lexLt_cons, List.length_cons, List.length_cons, show min (ns.length + 1) (ms.length + 1) = min ns.length ms.length + 1 by omega, Ob.lexAt_succ, lexAt_shift]
    have e1 : decide (ns.length + 1 > ms.length + 1) = decide (ns.length > ms.length) := by simp
    rw [e1]
    show (if decide (n = m) = true then Ob.lexAt (fun j => decide (ns.getD j 0 = ms.getD j 0)) (fun j => decide (ms.getD j 0 < ns.getD j 0)) (decide (ns.length > ms.length)) 0 (min ns.length ms.length) else decide (m < n)) = _
    rw [ih]
    by_cases h : n = m
    · subst h; simp
    · have h2 : ¬ m = n := fun z => h z.symm
      simp [h, h2]
def rGtT (K : PySem.W.Frag) : R2 := fun x y H Q => ∃ a b ns ms, x = .ref a ∧ y = .ref b ∧ SqT K H a (ns.map V.int) ∧ SqT K H b (ms.map V.int) ∧ Q (.bl (HT.lexLt ms ns)) H
theorem op_gtT {X : Cx} (hu : X.A.units < cLine) : OpR X (compareOp .Gt) (rGtT X.K) := by
  intro pins s σ H x y v u Q I rx ry h
  obtain ⟨a, b, ns, ms, rfl, rfl, ha, hb, q⟩ := h
  cases rx
  cases ry
  obtain ⟨its, r1, p1, _⟩ := I.tuple ha
  obtain ⟨its2, r2, p2, _⟩ := I.tuple hb
  have i1 : IntsAre its ns := Vals.ints r1
  have i2 : IntsAre its2 ms := Vals.ints r2
  have e1 : its.toArray.size = ns.length := by rw [List.size_toArray]; exact i1.length
  have e2 : its2.toArray.size = ms.length := by rw [List.size_toArray]; exact i2.length
  have at1 : ∀ j (h1 : j < its.toArray.size), ∃ t, its.toArray[j] = .int (ns.getD j 0) t := fun j h1 => PyProof.Rows.IntsAre.int_at i1 _ _ (by simp at h1; simp [h1])
  have at2 : ∀ j (h1 : j < its2.toArray.size), ∃ t, its2.toArray[j] = .int (ms.getD j 0) t := fun j h1 => PyProof.Rows.IntsAre.int_at i2 _ _ (by simp at h1; simp [h1])
  have R := Ob.RcOp.tuples_gt (A := X.A) (s := s) (e := fun j => decide (ns.getD j 0 = ms.getD j 0)) (r := fun j => decide (ms.getD j 0 < ns.getD j 0)) p1 p2 hu (fun j h1 h2 => by
    obtain ⟨t, et⟩ := at1 j h1
    obtain ⟨t', et'⟩ := at2 j h2
    rw [et, et']
    have z : (ns.getD j 0 == ms.getD j 0) = decide (ns.getD j 0 = ms.getD j 0) := by
      by_cases q : ns.getD j 0 = ms.getD j 0
      · rw [decide_eq_true q]; exact beq_iff_eq.mpr q
      · rw [decide_eq_false q]; exact beq_eq_false_iff_ne.mpr q
    rw [← z]
    exact SeqAt.EqAt.int_int _ _ _ _) (fun j h1 h2 _ => by
    obtain ⟨t, et⟩ := at1 j h1
    obtain ⟨t', et'⟩ := at2 j h2
    rw [et, et']
    exact Ob.RcOp.gt_int _ _ _ _)
  rw [e1, e2, lexAt_gt] at R
  exact R X.prog X.w X.xe (EP X pins σ Q) ⟨.bl _, H, I, rfl, q⟩
/-- <, > of integers or of tuples of integers -/
def ordT (f : Int → Int → Bool) (g : List Int → List Int → Bool) : T → T → Option Slot
  | .int i, .int j => some (.sh (.bl (f i j)))
  | .tup ts, .tup us => (intsT ts).bind fun ns => (intsT us).map fun ms => .sh (.bl (g ns ms))
  | _, _ => none
abbrev ltA : T → T → Option Slot := ordT (fun i j => decide (i < j)) HT.lexLt
abbrev gtA : T → T → Option Slot := ordT (fun i j => decide (j < i)) fun ns ms => HT.lexLt ms ns
def rOrd (K : PySem.W.Frag) (f : Int → Int → Bool) (g : List Int → List Int → Bool) : R2 := fun x y H Q => rI0 (fun i j => .bl (f i j)) x y H Q ∨ ∃ a b ns ms, x = .ref a ∧ y = .ref b ∧ SqT K H a (ns.map V.int) ∧ SqT K H b (ms.map V.int) ∧ Q (.bl (g ns ms)) H
theorem op_ltA {X : Cx} (hu : X.A.units < cLine) : OpR X (compareOp .Lt) (rOrd X.K (fun i j => decide (i < j)) HT.lexLt) := .or op_lt (op_ltT hu)
theorem op_gtA {X : Cx} (hu : X.A.units < cLine) : OpR X (compareOp .Gt) (rOrd X.K (fun i j => decide (j < i)) fun ns ms => HT.lexLt ms ns) := .or op_gt (op_gtT hu)
theorem p_ord {X : Cx} {c : Cfg} (hK : c.g.K = X.K) (f : Int → Int → Bool) (g : List Int → List Int → Bool) : Op2 c (rOrd X.K f g) (ordT f g) := by
  intro F S σ τ H x y t u z Q A hx hy hz k
  unfold ordT at hz
  split at hz
  · cases hz
    rw [hx.int, hy.int]
    exact .inl ⟨_, _, rfl, rfl, fin_sh A k (.bl _)⟩
  · obtain ⟨ns, h1, h2⟩ := Option.bind_eq_some_iff.mp hz
    obtain ⟨ms, h3, h4⟩ := Option.map_eq_some_iff.mp h2
    subst h4
    obtain ⟨a, vs, rfl, h5, r5⟩ := hx.tup A.a.fh
    obtain ⟨b, ws, rfl, h6, r6⟩ := hy.tup A.a.fh
    rw [hK] at h5 h6
    rw [intsT_of h1] at r5
    rw [intsT_of h3] at r6
    rw [r5.ints] at h5
    rw [r6.ints] at h6
    exact .inr ⟨a, b, ns, ms, rfl, rfl, h5, h6, fin_sh A k (.bl _)⟩
  · cases hz
/-- repr of a truth value -/
def reprN : List T → Option Slot
  | [.bl b] => some (.sh (.str (if b then "True" else "False")))
  | _ => none
theorem call_reprB {X : Cx} : CallR X (.builtin "repr") (fun xs H Q => ∃ b, xs = [.bl b] ∧ Q (.str (if b then "True" else "False")) H) := by
  intro pins s σ H xs us Q I r h
  obtain ⟨b, rfl, q⟩ := h
  obtain ⟨u, rfl, rfl⟩ := vals1 r
  exact PySem.P.repr_of_bool ⟨.str _, H, I.tok _, ⟨_, rfl⟩, q⟩
theorem p_repr {c : Cfg} : OpN c (fun xs H Q => ∃ b, xs = [.bl b] ∧ Q (.str (if b then "True" else "False")) H) reprN := by
  intro F S σ τ H xs ts z Q A hx hz k
  unfold reprN at hz
  split at hz
  · cases hz
    obtain ⟨v, rfl, h⟩ := hx.one
    rw [h.bl]
    exact ⟨_, rfl, fin_sh A k (.str _)⟩
  · cases hz
theorem bt_repr : bootBuiltins "repr" = some (.builtin "repr") := by decide +kernel
theorem hu0 {k : Nat} {A : Around} (hr : Room k A) : A.units < cLine := hr.units0
end TL
namespace TL
/-- max of a list or tuple of integers -/
def rMaxA (K : PySem.W.Frag) : List V → Hp → VK → Prop := fun vs H Q => ∃ (a : Addr) (n : Int) (ns : List Int), vs = [V.ref a] ∧ (SqL K H a ((n :: ns).map V.int) ∨ SqT K H a ((n :: ns).map V.int)) ∧ Q (.int (PySem.W.maxOf n ns)) H
theorem cr_maxA {X : Cx} (hc : X.calm = true) (hu : X.A.units + 10 < cLine) : CallR X (.builtin "max") (rMaxA X.K) := by
  intro pins s σ H vs us Q I r h
  obtain ⟨a, n, ns, rfl, hs, q⟩ := h
  rw [Vals.ref1 r]
  have fin : ∀ {v : Value} {h' : Heap} {tk : Nat}, PySem.W.Holds h' v (PySem.W.maxOf n ns) → (∀ b o, s.heap.get? b = some o → h'.get? b = some o) → EP X pins σ Q v { s with heap := h', toks := tk } := fun {v h' tk} hh k => by
    refine ⟨_, H, I.kept (t' := tk) k, ?_, q⟩
    obtain ⟨as, hr⟩ := hh
    have hr : Reads h' v (.int (PySem.W.maxOf n ns)) as := hr
    cases hr
    exact ⟨_, rfl⟩
  rcases hs with hs | hs
  · obtain ⟨its, rv, hl, hz⟩ := I.list hs
    have hi := rv.ints
    exact PySem.W.max_list_datum (α := Int) (I.ok.hd hc) hl.isList (by rw [show its.toArray.toList = its by simp]; exact PySem.W.HoldAll.of_ints hi) (by show X.A.units + 1 + 0 < cLine; omega) fun i v h' tk _ hh k => fin hh k
  · obtain ⟨its, rv, hl, hz⟩ := I.tuple hs
    have hi := rv.ints
    exact PySem.W.max_tuple_datum (α := Int) (I.ok.hd hc) hl (by rw [show its.toArray.toList = its by simp]; exact PySem.W.HoldAll.of_ints hi) (by show X.A.units + 1 + 0 < cLine; omega) fun i v h' tk _ hh k => fin hh k
def maxAN : List T → Option Slot
  | [.lst ts] => (intsT ts).bind fun ns => match ns with
    | [] => none
    | x :: xs => some (.sh (.int (maxI x xs)))
  | [.tup ts] => (intsT ts).bind fun ns => match ns with
    | [] => none
    | x :: xs => some (.sh (.int (maxI x xs)))
  | _ => none
theorem p_maxA {X : Cx} {c : Cfg} (hK : c.g.K = X.K) : OpN c (rMaxA X.K) maxAN := by
  intro F S σ τ H xs ts z Q A hx hz k
  unfold maxAN at hz
  split at hz
  · obtain ⟨ns, h1, h2⟩ := Option.bind_eq_some_iff.mp hz
    cases ns with
    | nil => cases h2
    | cons n ns =>
      cases h2
      obtain ⟨v, rfl, h⟩ := hx.one
      obtain ⟨p, vs, rfl, h3, r⟩ := h.lst A.a.fh
      rw [intsT_of h1] at r
      rw [r.ints] at h3
      exact ⟨p, n, ns, rfl, .inl (.inl (.inl h3)), by rw [maxOf_eq]; exact fin_sh A k (.int _)⟩
  · obtain ⟨ns, h1, h2⟩ := Option.bind_eq_some_iff.mp hz
    cases ns with
    | nil => cases h2
    | cons n ns =>
      cases h2
      obtain ⟨v, rfl, h⟩ := hx.one
      obtain ⟨p, vs, rfl, h3, r⟩ := h.tup A.a.fh
      rw [intsT_of h1] at r
      rw [r.ints, hK] at h3
      exact ⟨p, n, ns, rfl, .inr h3, by rw [maxOf_eq]; exact fin_sh A k (.int _)⟩
  · cases hz
end TL

end
section
set_option Elab.async false
set_option linter.all false
set_option maxRecDepth 100000
set_option autoImplicit false
/-! TL11: running the semantic functions -/
open PySem PySem.Spec PyProof.Rows L2
namespace TL
@[simp] theorem R.bind_exc {α β : Type} (e : Ex) (S : Sta) (k : α → Sta → R β) : (R.exc e S).bind k = R.exc e S := rfl
section
variable (S : Sta) (i j k n np nk : Nat) (a b d : OF) (e e' e'' : EF) (t u : TF) (f g : SF) (r r' : AF) (it : IF) (tg : Tg) (p p' : T → T → Option Slot) (q : T → Option Slot) (ql : List T → Option Slot) (fn : Fn) (x y : T) (ts : List T)
@[simp] theorem con_ap : con x S = .ok (.sh x) S := rfl
@[simp] theorem opE_ap : opE e S = (e S).bind fun x S1 => match x.tree with
  | some t => .ok (.val t) S1
  | none => .stuck := rfl
@[simp] theorem nilA_ap : nilA S = .ok [] S := rfl
@[simp] theorem consA_ap : consA a r S = (a S).bind fun o S1 => (r S1).bind fun os S2 => .ok (o :: os) S2 := rfl
@[simp] theorem op2_ap : op2 p a b S = (a S).bind fun o S1 => (b S1).bind fun o' S2 => match o.get S2, o'.get S2 with
  | some t, some u => res (p t u) S2
  | _, _ => .stuck := rfl
@[simp] theorem op1_ap : op1 q a S = (a S).bind fun o S1 => match o.get S1 with
  | some t => res (q t) S1
  | _ => .stuck := rfl
@[simp] theorem opN_ap : opN ql r S = (r S).bind fun os S1 => match gets S1 os with
  | some ts => res (ql ts) S1
  | _ => .stuck := rfl
@[simp] theorem res_some (z : Slot) : res (some z) S = .ok z S := rfl
@[simp] theorem tst_ap : tst e S = (e S).bind fun x S1 => match x with
  | .sh (.bl b) => .ok b S1
  | _ => .stuck := rfl
@[simp] theorem chn_ap : chn p p' a b d S = (a S).bind fun o S1 => (b S1).bind fun o' S2 => match o.get S2, o'.get S2 with
  | some t, some u => match p t u with
    | some (.sh (.bl true)) => (d S2).bind fun o'' S3 => match o'.get S3, o''.get S3 with
      | some u, some w => res (p' u w) S3
      | _, _ => .stuck
    | some (.sh (.bl false)) => .ok (.sh (.bl false)) S2
    | _ => .stuck
  | _, _ => .stuck := rfl
@[simp] theorem andT_ap : andT t u S = (t S).bind fun k S1 => if k = true then u S1 else .ok false S1 := rfl
@[simp] theorem orT_ap : orT t u S = (t S).bind fun k S1 => if k = true then .ok true S1 else u S1 := rfl
@[simp] theorem notT_ap : notT t S = (t S).bind fun k S1 => .ok (!k) S1 := rfl
@[simp] theorem andE_ap : andE e e' S = (e S).bind fun x S1 => match x with
  | .sh (.bl true) => e' S1
  | .sh (.bl false) => .ok (.sh (.bl false)) S1
  | _ => .stuck := rfl
@[simp] theorem orE_ap : orE e e' S = (e S).bind fun x S1 => match x with
  | .sh (.bl false) => e' S1
  | .sh (.bl true) => .ok (.sh (.bl true)) S1
  | _ => .stuck := rfl
@[simp] theorem notE_ap : notE e S = (e S).bind fun x S1 => match x with
  | .sh (.bl k) => .ok (.sh (.bl (!k))) S1
  | _ => .stuck := rfl
@[simp] theorem ite3_ap : ite3 t e e' S = (t S).bind fun k S1 => if k = true then e S1 else e' S1 := rfl
@[simp] theorem lstF_ap : lstF r S = (r S).bind fun os S1 => match vals os with
  | some ts => if ts.length ≤ sz then .ok (.ow (.lst ts)) S1 else .stuck
  | none => .stuck := rfl
@[simp] theorem tupF_ap : tupF r S = (r S).bind fun os S1 => match vals os with
  | some ts => if ts.length ≤ sz then .ok (.sh (.tup ts)) S1 else .stuck
  | none => .stuck := rfl
@[simp] theorem seqF_ap : seqF f g S = (f S).bind fun fl S1 => match fl with
  | .nx => g S1
  | .rt x => .ok (.rt x) S1
  | .bk => .ok .bk S1
  | .ct => .ok .ct S1 := rfl
@[simp] theorem nxF_ap : nxF S = .ok .nx S := rfl
@[simp] theorem retF_ap : retF e S = (e S).bind fun x S1 => .ok (.rt x) S1 := rfl
@[simp] theorem retNF_ap : retNF S = .ok (.rt (.sh .non)) S := rfl
@[simp] theorem dropF_ap : dropF e S = (e S).bind fun _ S1 => .ok .nx S1 := rfl
@[simp] theorem ifF_ap : ifF t f g S = (t S).bind fun k S1 => if k = true then f S1 else g S1 := rfl
@[simp] theorem setF_ap : setF i e S = (e S).bind fun x S1 => if i < S1.lo.length then .ok .nx (S1.put i x) else .stuck := rfl
@[simp] theorem asgF_ap : asgF tg a S = (a S).bind fun o S1 => match o with
  | .val t => match tg.put t S1 with
    | some S2 => .ok .nx S2
    | none => .stuck
  | _ => .stuck := rfl
@[simp] theorem forF_ap : forF it tg f S = (it S).bind fun ts S1 => forL tg f ts S1 := rfl
@[simp] theorem forL_nil : forL tg f [] S = .ok .nx S := rfl
theorem forL_cons : forL tg f (x :: ts) S = match tg.put x S with
    | none => .stuck
    | some S1 => (f S1).bind fun fl S2 => match fl with
      | .nx => forL tg f ts S2
      | .ct => forL tg f ts S2
      | .bk => .ok .nx S2
      | .rt x => .ok (.rt x) S2 := rfl
@[simp] theorem callF_ap : callF np fn r S = (r S).bind fun os S1 => match vals os with
  | some ts => if ts.length = np then match fn ts S1.nb with
    | .ok x n => .ok x { S1 with nb := n }
    | .exc e n => .exc e { S1 with nb := n }
    | .stuck => .stuck
    else .stuck
  | none => .stuck := rfl
@[simp] theorem callKF_ap : callKF np nk fn r r' S = (r S).bind fun os S1 => (r' S1).bind fun us S2 => match vals os, vals us with
  | some ts, some zs => if ts.length + zs.length = np ∧ zs.length = nk then match fn (ts ++ zs) S2.nb with
    | .ok x n => .ok x { S2 with nb := n }
    | .exc e n => .exc e { S2 with nb := n }
    | .stuck => .stuck
    else .stuck
  | _, _ => .stuck := rfl
@[simp] theorem seqI_ap : seqI a S = (a S).bind fun o S1 => match o with
  | .val (.lst ts) => .ok ts S1
  | .val (.tup ts) => .ok ts S1
  | _ => .stuck := rfl
@[simp] theorem enumI_ap : enumI a S = (a S).bind fun o S1 => match o with
  | .val (.lst ts) => .ok (enumT 0 ts) S1
  | .val (.tup ts) => .ok (enumT 0 ts) S1
  | _ => .stuck := rfl
@[simp] theorem rngI1_ap : rngI1 a S = (a S).bind fun o S1 => match o with
  | .val (.int n) => if -(2 ^ 62) ≤ n ∧ n < 2 ^ 62 then .ok (rgT 0 n) S1 else .stuck
  | _ => .stuck := rfl
@[simp] theorem yesT_ap : yesT S = .ok true S := rfl
@[simp] theorem slot_tree_sh : (Slot.sh x).tree = some x := rfl
@[simp] theorem slot_tree_ow : (Slot.ow x).tree = some x := rfl
@[simp] theorem opd_val : (Opd.val x).get S = some x := rfl
@[simp] theorem vals_nil : vals [] = some [] := rfl
@[simp] theorem vals_cons (os : List Opd) : vals (.val x :: os) = (vals os).map (x :: ·) := rfl
@[simp] theorem gets_nil : gets S [] = some [] := rfl
@[simp] theorem gets_cons (o : Opd) (os : List Opd) : gets S (o :: os) = (o.get S).bind fun t => (gets S os).map (t :: ·) := rfl
end
/-! the state as a literal -/
section
variable (l : List Slot) (gh : List Slot) (nb : Nib) (i : Nat) (t : T)
theorem var_sh (h : l[i]? = some (.sh t)) : var i ⟨l, gh, nb⟩ = .ok (.val t) ⟨l, gh, nb⟩ := by unfold var; simp [h]
theorem var_ow (h : l[i]? = some (.ow t)) : var i ⟨l, gh, nb⟩ = .ok (.pl i) ⟨l, gh, nb⟩ := by unfold var; simp [h]
theorem get_ow (h : l[i]? = some (.ow t)) : (Opd.pl i).get ⟨l, gh, nb⟩ = some t := by show (l[i]?).bind Slot.tree = _; rw [h]; rfl
theorem varE_sh (h : l[i]? = some (.sh t)) : varE i ⟨l, gh, nb⟩ = .ok (.sh t) ⟨l, gh, nb⟩ := by unfold varE; simp [h]
theorem varE_ow (h : l[i]? = some (.ow t)) : varE i ⟨l, gh, nb⟩ = .ok (.sh t) ⟨l.set i (.sh t), gh, nb⟩ := by unfold varE; simp [h, Sta.put]
theorem varR_sh (h : l[i]? = some (.sh t)) : varR i ⟨l, gh, nb⟩ = .ok (.sh t) ⟨l, gh, nb⟩ := by unfold varR; simp [h]
theorem varR_ow (h : l[i]? = some (.ow t)) : varR i ⟨l, gh, nb⟩ = .ok (.ow t) ⟨l.set i .no, gh, nb⟩ := by unfold varR; simp [h, Sta.put]
@[simp] theorem put_lit (x : Slot) : (Sta.mk l gh nb).put i x = ⟨l.set i x, gh, nb⟩ := rfl
@[simp] theorem push_lit (x : Slot) : (Sta.mk l gh nb).push x = ⟨l, gh ++ [x], nb⟩ := rfl
@[simp] theorem wipe_lit (own : List Nat) : (Sta.mk l gh nb).wipe own = ⟨noes l own, gh, nb⟩ := rfl
@[simp] theorem noes_nil : noes l [] = l := rfl
@[simp] theorem noes_cons (is : List Nat) : noes l (i :: is) = (noes l is).set i .no := rfl
@[simp] theorem put_nm : (Tg.nm i).put t ⟨l, gh, nb⟩ = if i < l.length then some ⟨l.set i (.sh t), gh, nb⟩ else none := rfl
@[simp] theorem put_tp (is : List Nat) (ts : List T) (S : Sta) : (Tg.tp is).put (.tup ts) S = putAll is ts S := rfl
@[simp] theorem put_tpw (is : List Nat) (ts : List T) (S : Sta) : (Tg.tp is).put (.wtp ts) S = putAll is ts S := rfl
@[simp] theorem put_tpl (is : List Nat) (ts : List T) (S : Sta) : (Tg.tp is).put (.lst ts) S = putAll is ts S := rfl
@[simp] theorem putAll_nil (S : Sta) : putAll [] [] S = some S := rfl
@[simp] theorem putAll_cons (is : List Nat) (ts : List T) : putAll (i :: is) (t :: ts) ⟨l, gh, nb⟩ = if i < l.length then putAll is ts ⟨l.set i (.sh t), gh, nb⟩ else none := rfl
end
/-! comprehensions -/
def compStep (own : List Nat) (tg : Tg) (tt : TF) (te : EF) (t : T) (S : Sta) : R (Option T) := match tg.put t S with
  | none => .stuck
  | some S1 => (tt S1).bind fun b S2 => if b = true then (te S2).bind fun x S3 => match x.tree with
      | none => .stuck
      | some y => .ok (some y) (S3.wipe own)
    else .ok none (S2.wipe own)
theorem compL_step {own : List Nat} {tg : Tg} {tt : TF} {te : EF} {t : T} {ts : List T} {S S' : Sta} {acc : List T} {v : Option T}
    (h : compStep own tg tt te t (S.push (.ow (.lst acc))) = .ok v (S'.push (.ow (.lst acc)))) (hw : S'.wipe own = S') (hl : acc.length < sz) :
    compL own tg tt te (t :: ts) (S.push (.ow (.lst acc))) = compL own tg tt te ts (S'.push (.ow (.lst (acc ++ v.toList)))) := by
  unfold compStep at h
  rw [compL]
  cases e : tg.put t (S.push (.ow (.lst acc))) with
  | none => rw [e] at h; cases h
  | some S1 =>
    rw [e] at h
    dsimp only at h ⊢
    cases e2 : tt S1 with
    | ok b S2 =>
      rw [e2] at h
      rw [R.bind_ok] at h ⊢
      cases b with
      | false =>
        rw [if_neg Bool.false_ne_true] at h ⊢
        injection h with h1 h2
        subst h1
        rw [h2]
        simp
      | true =>
        rw [if_pos rfl] at h ⊢
        cases e3 : te S2 with
        | ok x S3 =>
          rw [e3] at h
          rw [R.bind_ok] at h ⊢
          cases e4 : x.tree with
          | none => rw [e4] at h; cases h
          | some y =>
            rw [e4] at h
            dsimp only at h ⊢
            injection h with h1 h2
            subst h1
            have h3 : S3.gh = S'.gh ++ [.ow (.lst acc)] := congrArg Sta.gh h2
            have h4 : S3.popG = some (.ow (.lst acc), ⟨S3.lo, S'.gh, S3.nb⟩) := by
              unfold Sta.popG
              rw [h3]
              simp
            rw [h4]
            dsimp only
            rw [if_pos hl]
            have h5 : noes S3.lo own = S'.lo := congrArg Sta.lo h2
            have h6 : S3.nb = S'.nb := by have := congrArg Sta.nb h2; exact this
            show compL own tg tt te ts ⟨noes S3.lo own, S'.gh ++ _, S3.nb⟩ = _
            rw [h5, h6]
            rfl
        | exc => rw [e3] at h; cases h
        | stuck => rw [e3] at h; cases h
    | exc => rw [e2] at h; cases h
    | stuck => rw [e2] at h; cases h
theorem compL_run {own : List Nat} {tg : Tg} {tt : TF} {te : EF} {S : Sta} {v : T → Option T} (hw : S.wipe own = S) : ∀ (ts acc : List T), acc.length + ts.length ≤ sz →
    (∀ t ∈ ts, ∀ acc, compStep own tg tt te t (S.push (.ow (.lst acc))) = .ok (v t) (S.push (.ow (.lst acc)))) →
    compL own tg tt te ts (S.push (.ow (.lst acc))) = .ok () (S.push (.ow (.lst (acc ++ ts.filterMap v))))
  | [], acc, _, _ => by rw [List.filterMap_nil, List.append_nil]; rfl
  | t :: ts, acc, hl, h => by
    rw [List.length_cons] at hl
    rw [compL_step (h t List.mem_cons_self acc) hw (by omega), compL_run hw ts _ (by rw [List.length_append]; cases v t <;> simp <;> omega) fun t ht => h t (List.mem_cons_of_mem _ ht)]
    rw [List.filterMap_cons]
    cases v t <;> simp
theorem noes_noes (l : List Slot) (own : List Nat) : noes (noes l own) own = noes l own := by
  apply List.ext_getElem?
  intro j
  by_cases hj : j ∈ own
  · by_cases hl : j < l.length
    · have h1 : ∀ l : List Slot, j < l.length → (noes l own)[j]? = some .no := fun l hl => by
        have hl2 : j < (noes l own).length := by rw [noes_length]; exact hl
        rcases noes_get l (List.getElem?_eq_getElem hl2) with ⟨_, b⟩ | ⟨a, _⟩
        · rw [List.getElem?_eq_getElem hl2, b]
        · exact absurd hj a
      rw [h1 _ (by rw [noes_length]; exact hl), h1 _ hl]
    · rw [List.getElem?_eq_none (by rw [noes_length, noes_length]; omega), List.getElem?_eq_none (by rw [noes_length]; omega)]
  · by_cases hl : j < l.length
    · have h1 : ∀ l : List Slot, j < l.length → (noes l own)[j]? = l[j]? := fun l hl => by
        have hl2 : j < (noes l own).length := by rw [noes_length]; exact hl
        rcases noes_get l (List.getElem?_eq_getElem hl2) with ⟨a, _⟩ | ⟨_, b⟩
        · exact absurd a hj
        · rw [List.getElem?_eq_getElem hl2, b]
      rw [h1 _ (by rw [noes_length]; exact hl)]
    · rw [List.getElem?_eq_none (by rw [noes_length, noes_length]; omega), List.getElem?_eq_none (by rw [noes_length]; omega)]
theorem backs_noes (l : List Slot) (own : List Nat) : backs (noes l own) l own = l := by
  apply List.ext_getElem?
  intro j
  by_cases hl : j < l.length
  · have hl2 : j < (backs (noes l own) l own).length := by rw [backs_length, noes_length]; exact hl
    rcases backs_get (noes l own) l (List.getElem?_eq_getElem hl2) with ⟨a, b⟩ | ⟨a, b⟩
    · rw [List.getElem?_eq_getElem hl2, b, List.getD_eq_getElem?_getD, List.getElem?_eq_getElem hl]; rfl
    · rw [List.getElem?_eq_getElem hl2, ← b]
      have hl3 : j < (noes l own).length := by rw [noes_length]; exact hl
      rcases noes_get l (List.getElem?_eq_getElem hl3) with ⟨c, _⟩ | ⟨_, d⟩
      · exact absurd c a
      · rw [List.getElem?_eq_getElem hl3, d]
  · rw [List.getElem?_eq_none (by rw [backs_length, noes_length]; omega), List.getElem?_eq_none (by omega)]
theorem wipe_wipe (S : Sta) (own : List Nat) : (S.wipe own).wipe own = S.wipe own := by unfold Sta.wipe; rw [noes_noes]
theorem wipe_back (S : Sta) (own : List Nat) : (S.wipe own).back S own = S := by unfold Sta.wipe Sta.back; rw [backs_noes]
theorem compF_run {own : List Nat} {it : IF} {tg : Tg} {tt : TF} {te : EF} {S S1 : Sta} {ts : List T} (v : T → Option T) (hi : it S = .ok ts S1) (hf : (own.all fun i => Slot.free S1.lo[i]?) = true) (hs : (tg.slots.all fun i => own.contains i) = true) (hl : ts.length ≤ sz)
    (h : ∀ t ∈ ts, ∀ acc, compStep own tg tt te t ((S1.wipe own).push (.ow (.lst acc))) = .ok (v t) ((S1.wipe own).push (.ow (.lst acc)))) :
    compF own it tg tt te S = .ok (.ow (.lst (ts.filterMap v))) S1 := by
  unfold compF
  rw [hi, R.bind_ok, hf, hs, compL_run (wipe_wipe S1 own) ts [] (by simpa using hl) h]
  simp [wipe_back]
end TL
namespace TL
/-! rows of naturals -/
def tn (p : List Nat) : List T := p.map fun (n : Nat) => T.int (n : Int)
@[simp] theorem tn_length (p : List Nat) : (tn p).length = p.length := List.length_map _
@[simp] theorem tn_nil : tn [] = [] := rfl
@[simp] theorem tn_cons (a : Nat) (p : List Nat) : tn (a :: p) = .int (a : Int) :: tn p := rfl
theorem tn_append (p q : List Nat) : tn (p ++ q) = tn p ++ tn q := List.map_append
theorem atI_n {α : Type} {xs : List α} {i : Nat} {x : α} (h : xs[i]? = some x) : atI xs (i : Int) = some x := by
  have hi : i < xs.length := (List.getElem?_eq_some_iff.mp h).1
  unfold atI ixN
  rw [if_pos (by omega), if_pos (by omega)]
  simpa using h
theorem tn_get {p : List Nat} {i n : Nat} (h : p[i]? = some n) : (tn p)[i]? = some (.int (n : Int)) := by
  unfold tn
  rw [List.getElem?_map, h]
  rfl
theorem ix_tup {ts : List T} {i : Nat} {t : T} (h : ts[i]? = some t) : ixT (.tup ts) (.int (i : Int)) = some (.sh t) := by
  show (atI ts (i : Int)).map Slot.sh = _
  rw [atI_n h]; rfl
theorem ix_lst {ts : List T} {i : Nat} {t : T} (h : ts[i]? = some t) : ixT (.lst ts) (.int (i : Int)) = some (.sh t) := by
  show (atI ts (i : Int)).map Slot.sh = _
  rw [atI_n h]; rfl
theorem eqv_int (a b : Int) : PyData.eqv (.int a) (.int b) = decide (a = b) := by
  show (a == b) = _
  rw [Bool.eq_iff_iff]; simp
theorem okTs_tn (p : List Nat) (n : Nat) : T.okTs (tn p) n = true := by
  induction p with
  | nil => rfl
  | cons a p ih => rw [tn_cons, T.okTs, T.okT, ih]; rfl
theorem eqvAll_tn : ∀ p q : List Nat, PyData.eqvAll (T.dAll (tn p)) (T.dAll (tn q)) = decide (p = q)
  | [], [] => by simp [T.dAll, PyData.eqvAll]
  | [], _ :: _ => by simp [T.dAll, PyData.eqvAll]
  | _ :: _, [] => by simp [T.dAll, PyData.eqvAll]
  | a :: p, b :: q => by
    simp only [tn_cons, T.dAll, T.d, PyData.eqvAll, eqvAll_tn p q, eqv_int]
    rw [Bool.eq_iff_iff]
    simp only [Bool.and_eq_true, decide_eq_true_eq, List.cons.injEq]
    constructor
    · rintro ⟨h1, h2⟩; exact ⟨by omega, h2⟩
    · rintro ⟨h1, h2⟩; exact ⟨by omega, h2⟩
theorem eq_int (a b : Int) : eqT (.int a) (.int b) = some (.sh (.bl (decide (a = b)))) := by
  unfold eqT
  rw [if_pos ⟨rfl, rfl⟩]
  show some (Slot.sh (T.bl (PyData.eqv (.int a) (.int b)))) = _
  rw [eqv_int]
theorem ne_int (a b : Int) : neT (.int a) (.int b) = some (.sh (.bl (!decide (a = b)))) := by
  unfold neT
  rw [if_pos ⟨rfl, rfl⟩]
  show some (Slot.sh (T.bl (!PyData.eqv (.int a) (.int b)))) = _
  rw [eqv_int]
theorem eqD_tup (p q : List Nat) : eqD (.tup (tn p)) (.tup (tn q)) = decide (p = q) := by
  show PyData.eqvAll _ _ = _
  exact eqvAll_tn p q
theorem eqD_lst (p q : List Nat) : eqD (.lst (tn p)) (.lst (tn q)) = decide (p = q) := by
  show PyData.eqvAll _ _ = _
  exact eqvAll_tn p q
theorem okD_tup (p : List Nat) (n : Nat) : T.okD (n + 1) (.tup (tn p)) = true := by show T.okTs (tn p) n = true; exact okTs_tn p n
theorem okD_lst (p : List Nat) (n : Nat) : T.okD (n + 1) (.lst (tn p)) = true := by show T.okTs (tn p) n = true; exact okTs_tn p n
theorem eq_tup (p q : List Nat) : eqT (.tup (tn p)) (.tup (tn q)) = some (.sh (.bl (decide (p = q)))) := by
  unfold eqT
  rw [if_pos ⟨okD_tup p 59, okD_tup q 59⟩, eqD_tup]
theorem eq_lst (p q : List Nat) : eqT (.lst (tn p)) (.lst (tn q)) = some (.sh (.bl (decide (p = q)))) := by
  unfold eqT
  rw [if_pos ⟨okD_lst p 59, okD_lst q 59⟩, eqD_lst]
theorem ne_tup (p q : List Nat) : neT (.tup (tn p)) (.tup (tn q)) = some (.sh (.bl (!decide (p = q)))) := by
  unfold neT
  rw [if_pos ⟨okD_tup p 59, okD_tup q 59⟩, eqD_tup]
/-- lists of rows -/
def tr (ps : List (List Nat)) : List T := ps.map fun p => T.tup (tn p)
@[simp] theorem tr_length (p : List (List Nat)) : (tr p).length = p.length := List.length_map _
theorem okTs_tr (ps : List (List Nat)) (n : Nat) : T.okTs (tr ps) (n + 1) = true := by
  induction ps with
  | nil => rfl
  | cons a p ih =>
    show (T.okT (.tup (tn a)) (n + 1) && T.okTs (tr p) (n + 1)) = true
    rw [ih]
    exact (Bool.and_true _).trans (okD_tup a n)
theorem any_tr (q : List Nat) (ps : List (List Nat)) : ((tr ps).any fun y => eqD y (.tup (tn q))) = decide (q ∈ ps) := by
  induction ps with
  | nil => simp [tr]
  | cons a p ih =>
    show (eqD (.tup (tn a)) (.tup (tn q)) || (tr p).any fun y => eqD y (.tup (tn q))) = _
    rw [ih, eqD_tup, Bool.eq_iff_iff]
    simp only [Bool.or_eq_true, decide_eq_true_eq, List.mem_cons]
    exact ⟨fun h => h.elim (fun h => .inl h.symm) .inr, fun h => h.elim (fun h => .inl h.symm) .inr⟩
theorem any_tn (b : Nat) (p : List Nat) : ((tn p).any fun y => eqD y (.int (b : Int))) = decide (b ∈ p) := by
  induction p with
  | nil => simp
  | cons a p ih =>
    show (PyData.eqv (.int (a : Int)) (.int (b : Int)) || (tn p).any fun y => eqD y (.int (b : Int))) = _
    rw [ih, eqv_int, Bool.eq_iff_iff]
    simp only [Bool.or_eq_true, decide_eq_true_eq, List.mem_cons]
    exact ⟨fun h => h.elim (fun h => .inl (by omega)) .inr, fun h => h.elim (fun h => .inl (by omega)) .inr⟩
theorem rg_tn (n : Nat) : rgT 0 (n : Int) = tn (List.range n) := by
  unfold rgT tn
  simp
theorem isN_int_int (z : Int) : isN ["int"] (.int z) = some (.sh (.bl true)) := by
  simp only [isN, tyN, Option.bind_some, show kitN "int" ["int"] = some true by decide +kernel]; rfl
theorem isN_int_bool (z : Int) : isN ["bool"] (.int z) = some (.sh (.bl false)) := by
  simp only [isN, tyN, Option.bind_some, show kitN "int" ["bool"] = some false by decide +kernel]; rfl
theorem isN_lst (z : List T) : isN ["list", "tuple"] (.lst z) = some (.sh (.bl true)) := by
  simp only [isN, tyN, Option.bind_some, show kitN "list" ["list", "tuple"] = some true by decide +kernel]; rfl
theorem isN_tup (z : List T) : isN ["list", "tuple"] (.tup z) = some (.sh (.bl true)) := by
  simp only [isN, tyN, Option.bind_some, show kitN "tuple" ["list", "tuple"] = some true by decide +kernel]; rfl
theorem filterMap_const {α β : Type} (b : β) : ∀ l : List α, (l.filterMap fun _ => some b) = List.replicate l.length b
  | [] => rfl
  | _ :: l => by rw [List.filterMap_cons]; simp [filterMap_const b l, List.replicate_succ]
theorem boolsT_rep (n : Nat) : boolsT (List.replicate n (T.bl true)) = some (List.replicate n true) := by
  have := boolsT_map (List.replicate n true)
  rwa [List.map_replicate] at this
theorem allN_rep (n : Nat) : allN [.lst (List.replicate n (T.bl true))] = some (.sh (.bl true)) := by
  show (boolsT _).map _ = _
  rw [boolsT_rep]
  simp
end TL
namespace TL
@[simp] theorem setIF_ap (i : Nat) (fv fi : OF) (S : Sta) : setIF i fv fi S = (fv S).bind fun o S1 => match S1.lo[i]? with
  | some (.ow (.lst _)) => (fi S1).bind fun o' S2 => match o, o', S2.lo[i]? with
    | .val t, .val (.int k), some (.ow (.lst ts)) => match ixN ts.length k with
      | some j => .ok .nx (S2.put i (.ow (.lst (ts.set j t))))
      | none => .stuck
    | _, _, _ => .stuck
  | _ => .stuck := rfl
@[simp] theorem methF_ap (i : Nat) (p : List T → List T → Option (List T × T)) (fa : AF) (S : Sta) : methF i p fa S = match S.lo[i]? with
  | some (.ow (.lst _)) => (fa S).bind fun os S1 => match vals os, S1.lo[i]? with
    | some us, some (.ow (.lst ts)) => match p ts us with
      | some (ts', z) => .ok (.sh z) (S1.put i (.ow (.lst ts')))
      | none => .stuck
    | _, _ => .stuck
  | _ => .stuck := rfl
@[simp] theorem parF_ap (i j : Nat) (f g : EF) (S : Sta) : parF i j f g S = (f S).bind fun x S1 => match g (S1.push x) with
  | .ok y S2 => match S2.popG with
    | some (x', S3) => if i < S3.lo.length ∧ j < S3.lo.length then .ok .nx ((S3.put j y).put i x') else .stuck
    | none => .stuck
  | _ => .stuck := rfl
theorem ixN_n {n i : Nat} (h : i < n) : ixN n (i : Int) = some i := by
  unfold ixN
  rw [if_pos (by omega), if_pos (by omega)]
  simp
theorem tn_set (p : List Nat) (i n : Nat) : (tn p).set i (.int (n : Int)) = tn (p.set i n) := by
  unfold tn
  rw [List.map_set]
@[simp] theorem popG_snoc (l gh : List Slot) (nb : Nib) (x : Slot) : Sta.popG ⟨l, gh ++ [x], nb⟩ = some (x, ⟨l, gh, nb⟩) := Sta.popG_push ⟨l, gh, nb⟩ x
@[simp] theorem popG_one (l : List Slot) (nb : Nib) (x : Slot) : Sta.popG ⟨l, [x], nb⟩ = some (x, ⟨l, [], nb⟩) := Sta.popG_push ⟨l, [], nb⟩ x
theorem ap_ok {ts : List T} {t : T} (h : ts.length < sz) : apP ts [t] = some (ts ++ [t], .non) := by
  show (if ts.length < sz then some (ts ++ [t], T.non) else none) = _
  rw [if_pos h]
theorem ex_ok {ts us : List T} (h : ts.length + us.length ≤ sz) : exP ts [.lst us] = some (ts ++ us, .non) := by
  show (if ts.length + us.length ≤ sz then some (ts ++ us, T.non) else none) = _
  rw [if_pos h]
theorem gt_nat (a b : Nat) : gtA (.int (a : Int)) (.int (b : Int)) = some (.sh (.bl (decide (b < a)))) := by
  show some (Slot.sh (T.bl (decide ((b : Int) < a)))) = _
  simp
end TL
namespace TL
theorem rngI1_n {a : OF} {S S1 : Sta} {n : Nat} (h : a S = .ok (.val (.int (n : Int))) S1) (hn : n ≤ 1000000) : rngI1 a S = .ok (tn (List.range n)) S1 := by
  unfold rngI1
  rw [h, R.bind_ok]
  show (if -(2 ^ 62) ≤ (n : Int) ∧ (n : Int) < 2 ^ 62 then R.ok (rgT 0 (n : Int)) S1 else R.stuck) = _
  rw [if_pos ⟨by omega, by omega⟩, rg_tn]
theorem len_sz {n : Nat} (h : n ≤ 100000) : n ≤ sz := Nat.le_trans h (by decide)
theorem lt_sz {n : Nat} (h : n ≤ 100000) : n < sz := Nat.lt_of_le_of_lt h (by decide)
end TL

end
section
set_option Elab.async false
set_option linter.all false
set_option maxRecDepth 100000
set_option autoImplicit false
/-! TL12: a number is drawn -/
open PySem PySem.Spec PyProof.Rows L2
namespace TL
@[simp] theorem nibGet_ap (i k : Nat) (S : Sta) : nibGet i k S = match S.lo[i]? with
  | some (.sh .nib) => match S.nb.get k with
    | some t => .ok (.sh t) S
    | none => .stuck
  | _ => .stuck := rfl
@[simp] theorem nibSet_ap (i k : Nat) (f : OF) (S : Sta) : nibSet i k f S = (f S).bind fun o S1 => match o, S1.lo[i]? with
  | .val (.int z), some (.sh .nib) => match S1.nb.set k z with
    | some n => .ok .nx { S1 with nb := n }
    | none => .stuck
  | _, _ => .stuck := rfl
theorem lg {x : Int} {k : Nat} (h : x.natAbs < 2 ^ k) : x.natAbs.log2 ≤ k := by
  by_cases h0 : x.natAbs = 0
  · rw [h0]; exact Nat.zero_le _
  · exact Nat.le_of_lt ((Nat.log2_lt h0).mpr h)
theorem mul_ok {i j : Int} (h : i.natAbs.log2 + j.natAbs.log2 < 134000000) : mulT (.int i) (.int j) = some (.sh (.int (i * j))) := by
  show (if i.natAbs.log2 + j.natAbs.log2 < 134000000 then some (Slot.sh (T.int (i * j))) else none) = _
  rw [if_pos h]
theorem mul_sm {i j : Int} {a b : Nat} (ha : i.natAbs < 2 ^ a) (hb : j.natAbs < 2 ^ b) (h : a + b < 134000000) : mulT (.int i) (.int j) = some (.sh (.int (i * j))) :=
  mul_ok (by have := lg ha; have := lg hb; omega)
theorem mod_ok {i j : Int} (h : 0 < j) : modT (.int i) (.int j) = some (.sh (.int (i % j))) := by
  show (if 0 < j then some (Slot.sh (T.int (i % j))) else none) = _
  rw [if_pos h]
theorem fdiv_ok {i j : Int} (h : 0 < j) (h2 : j.natAbs < 2 ^ 8000) : fdivT (.int i) (.int j) = some (.sh (.int (i / j))) := by
  show (if 0 < j ∧ j.natAbs.log2 < 9000 then some (Slot.sh (T.int (i / j))) else none) = _
  rw [if_pos ⟨h, by have := lg h2; omega⟩]
theorem pow_ok {i : Int} {j : Nat} (h : i.natAbs < 2 ^ 64) (h2 : j ≤ 100) : powT (.int i) (.int (j : Int)) = some (.sh (.int (i ^ j))) := by
  show (if 0 ≤ (j : Int) ∧ (j : Int) ≤ 1000000 ∧ i.natAbs < 2 ^ 64 then some (Slot.sh (T.int (i ^ (j : Int).toNat))) else none) = _
  rw [if_pos ⟨by omega, by omega, h⟩]
  simp
def drawMix (b1 c1 p1 p2 e a2 c2 p3 : Int) : SF := (seqF (setF 5 (op2 modT (opE (opN intN (consA (opE (op2 powT (opE (op2 addT (opE (op2 addT (opE (op2 modT (opE (opN intN (consA (var 4) (nilA)))) (opE (con (.int p1))))) (opE (op2 mulT (opE (con (.int c1))) (var 3))))) (opE (con (.int b1))))) (opE (con (.int 5))))) (nilA)))) (opE (con (.int p2))))) (seqF (setF 5 (op2 modT (opE (opN intN (consA (opE (op2 powT (opE (op2 addT (opE (op2 addT (opE (op2 mulT (var 5) (opE (op2 addT (opE (op2 mulT (opE (con (.int 2))) (var 3))) (opE (con (.int e))))))) (opE (op2 mulT (opE (op2 mulT (opE (con (.int a2))) (var 3))) (var 3))))) (opE (con (.int c2))))) (opE (con (.int 3))))) (nilA)))) (opE (con (.int p3))))) (retF (op2 modT (opE (opN intN (consA (opE (op2 fdivT (var 5) (opE (con (.int 64))))) (nilA)))) (var 1)))))
def drawHeld : SF := (seqF (setF 2 (op2 addT (opE (op2 mulT (opE (con (.int 2))) (opE (op2 subT (opE (opN absN (consA (var 4) (nilA)))) (opE (op2 powT (opE (con (.int 10))) (opE (con (.int 18))))))))) (opE (opN intN (consA (opE (op2 ltA (var 4) (opE (con (.int 0))))) (nilA)))))) (seqF (nibSet 0 2 (opE (op2 fdivT (opE (opN intN (consA (var 2) (nilA)))) (var 1)))) (retF (op2 modT (opE (opN intN (consA (var 2) (nilA)))) (var 1)))))
def drawB (a b p1 c1 b1 p2 e a2 c2 p3 : Int) : SF := seqF (ifF (tst (op2 gtA (opE (nibGet 0 2)) (opE (con (.int 0))))) (seqF (setF 2 (nibGet 0 2)) (seqF (nibSet 0 2 (opE (op2 fdivT (opE (opN intN (consA (var 2) (nilA)))) (var 1)))) (retF (op2 modT (opE (opN intN (consA (var 2) (nilA)))) (var 1))))) (nxF)) (seqF (setF 3 (nibGet 0 1)) (seqF (nibSet 0 1 (opE (op2 addT (var 3) (opE (con (.int 1)))))) (seqF (setF 4 (op2 addT (opE (op2 mulT (opE (con (.int a))) (var 3))) (opE (con (.int b))))) (seqF (ifF (tst (op2 neT (opE (nibGet 0 0)) (opE (lstF (nilA))))) (setF 4 (op2 ixT (opE (nibGet 0 0)) (opE (op2 modT (opE (opN intN (consA (var 3) (nilA)))) (opE (opN lenN (consA (opE (nibGet 0 0)) (nilA)))))))) (nxF)) (seqF (ifF (andT (tst (op2 ltA (var 3) (opE (opN lenN (consA (opE (nibGet 0 0)) (nilA)))))) (tst (op2 geT (opE (opN absN (consA (var 4) (nilA)))) (opE (op2 powT (opE (con (.int 10))) (opE (con (.int 18)))))))) drawHeld (nxF)) (drawMix b1 c1 p1 p2 e a2 c2 p3))))))
structure NbOk (k : Nat) (nb : Nib) : Prop where
  t0 : 0 ≤ nb.turn
  tk : nb.turn ≤ k
  r0 : 0 ≤ nb.rest
  bits : ∀ z ∈ nb.cells, Builtin.Int.intBits z ≤ 1048576
theorem NbOk.mono {k j : Nat} {nb : Nib} (h : NbOk k nb) (hj : k ≤ j) : NbOk j nb := ⟨h.t0, by have := h.tk; omega, h.r0, h.bits⟩
theorem mod_nat {i : Int} {m : Nat} (h : 0 < m) : ∃ r : Nat, i % (m : Int) = (r : Int) ∧ r < m := by
  have h1 : 0 ≤ i % (m : Int) := Int.emod_nonneg _ (by omega)
  have h2 : i % (m : Int) < m := Int.emod_lt_of_pos _ (by omega)
  exact ⟨(i % (m : Int)).toNat, by omega, by omega⟩
theorem run_mix {b1 c1 p1 p2 e a2 c2 p3 : Int} {m : Nat} {x y : Slot} {t cell : Int} {nb : Nib} (hm : 0 < m) (ht0 : 0 ≤ t) (ht : t < 2 ^ 18)
    (hb1 : 0 ≤ b1 ∧ b1 < 2 ^ 20) (hc1 : 0 ≤ c1 ∧ c1 < 2 ^ 20) (hp1 : 0 < p1 ∧ p1 < 2 ^ 32) (hp2 : 0 < p2 ∧ p2 < 2 ^ 32) (he : 0 ≤ e ∧ e < 2 ^ 20) (ha2 : 0 ≤ a2 ∧ a2 < 2 ^ 20) (hc2 : 0 ≤ c2 ∧ c2 < 2 ^ 20) (hp3 : 0 < p3) :
    ∃ (r : Nat) (S : Sta), r < m ∧ S.nb = nb ∧ drawMix b1 c1 p1 p2 e a2 c2 p3 ⟨[.sh .nib, .sh (.int (m : Int)), x, .sh (.int t), .sh (.int cell), y], [], nb⟩ = .ok (.rt (.sh (.int (r : Int)))) S := by
  obtain ⟨i1, h1⟩ : ∃ z, z = cell % p1 := ⟨_, rfl⟩
  have h1a : 0 ≤ i1 := by rw [h1]; exact Int.emod_nonneg _ (by omega)
  have h1b : i1 < p1 := by rw [h1]; exact Int.emod_lt_of_pos _ hp1.1
  have h2 : 0 ≤ c1 * t := Int.mul_nonneg hc1.1 ht0
  have h2b : c1 * t ≤ 2 ^ 20 * 2 ^ 18 := Int.mul_le_mul (by omega) (by omega) ht0 (by omega)
  obtain ⟨m1, h3⟩ : ∃ z, z = (i1 + c1 * t + b1) ^ 5 % p2 := ⟨_, rfl⟩
  have h3a : 0 ≤ m1 := by rw [h3]; exact Int.emod_nonneg _ (by omega)
  have h3b : m1 < p2 := by rw [h3]; exact Int.emod_lt_of_pos _ hp2.1
  have h4 : 0 ≤ m1 * (2 * t + e) := Int.mul_nonneg h3a (by omega)
  have h4b : m1 * (2 * t + e) ≤ 2 ^ 32 * 2 ^ 22 := Int.mul_le_mul (by omega) (by omega) (by omega) (by omega)
  have h5 : 0 ≤ a2 * t := Int.mul_nonneg ha2.1 ht0
  have h5b : a2 * t ≤ 2 ^ 20 * 2 ^ 18 := Int.mul_le_mul (by omega) (by omega) ht0 (by omega)
  have h6 : 0 ≤ a2 * t * t := Int.mul_nonneg h5 ht0
  have h6b : a2 * t * t ≤ 2 ^ 38 * 2 ^ 18 := Int.mul_le_mul (by omega) (by omega) ht0 (by omega)
  obtain ⟨m2, h7⟩ : ∃ z, z = (m1 * (2 * t + e) + a2 * t * t + c2) ^ 3 % p3 := ⟨_, rfl⟩
  obtain ⟨r, hr, hrm⟩ := mod_nat (i := m2 / 64) hm
  refine ⟨r, ⟨[.sh .nib, .sh (.int (m : Int)), x, .sh (.int t), .sh (.int cell), .sh (.int m2)], [], nb⟩, hrm, rfl, ?_⟩
  have e1 := mul_sm (i := c1) (j := t) (a := 64) (b := 64) (by omega) (by omega) (by omega)
  have e2 : powT (.int (i1 + c1 * t + b1)) (.int 5) = some (.sh (.int ((i1 + c1 * t + b1) ^ 5))) := pow_ok (i := i1 + c1 * t + b1) (j := 5) (by omega) (by omega)
  have e3 := mul_sm (i := 2) (j := t) (a := 64) (b := 64) (by omega) (by omega) (by omega)
  have e4 := mul_sm (i := m1) (j := 2 * t + e) (a := 64) (b := 64) (by omega) (by omega) (by omega)
  have e5 := mul_sm (i := a2) (j := t) (a := 64) (b := 64) (by omega) (by omega) (by omega)
  have e6 := mul_sm (i := a2 * t) (j := t) (a := 64) (b := 64) (by omega) (by omega) (by omega)
  have e7 : powT (.int (m1 * (2 * t + e) + a2 * t * t + c2)) (.int 3) = some (.sh (.int ((m1 * (2 * t + e) + a2 * t * t + c2) ^ 3))) := pow_ok (i := m1 * (2 * t + e) + a2 * t * t + c2) (j := 3) (by omega) (by omega)
  have e8 := fdiv_ok (i := m2) (j := 64) (by omega) (Nat.lt_of_lt_of_le (show (64 : Int).natAbs < 2 ^ 7 by decide) (Nat.pow_le_pow_right (by omega) (by omega)))
  have e9 := mod_ok (i := cell) hp1.1
  have e10 := mod_ok (i := (i1 + c1 * t + b1) ^ 5) hp2.1
  have e11 := mod_ok (i := (m1 * (2 * t + e) + a2 * t * t + c2) ^ 3) hp3
  have e12 := mod_ok (i := m2 / 64) (j := (m : Int)) (by omega)
  rw [← h1] at e9
  rw [← h3] at e10
  rw [← h7] at e11
  rw [hr] at e12
  simp [drawMix, var_sh, varE_sh, intN, e9, e1, addT, e2, e10, e3, e4, e5, e6, e7, e11, e8, e12]

theorem run_held {m : Nat} {x y : Slot} {t cell : Int} {nb : Nib} (hm : 0 < m) (hm2 : m ≤ 1000) (hb : Builtin.Int.intBits cell ≤ 1048576) (h18 : 10 ^ 18 ≤ (if cell < 0 then -cell else cell)) :
    ∃ (r : Nat) (S : Sta) (z : Int), r < m ∧ 0 ≤ z ∧ S.nb = { nb with rest := z } ∧ drawHeld ⟨[.sh .nib, .sh (.int (m : Int)), x, .sh (.int t), .sh (.int cell), y], [], nb⟩ = .ok (.rt (.sh (.int (r : Int)))) S := by
  obtain ⟨w, hw⟩ : ∃ w : Int, w = (if cell < 0 then -cell else cell) := ⟨_, rfl⟩
  have hw2 : w.natAbs = cell.natAbs := by rw [hw]; split <;> omega
  obtain ⟨u, hu⟩ : ∃ u : Int, u = (if cell < 0 then 1 else 0) := ⟨_, rfl⟩
  have hu2 : 0 ≤ u := by rw [hu]; split <;> omega
  rw [← hw] at h18
  have hn : cell.natAbs < 2 ^ 1048576 := PySem.intBits_le_iff.mp hb
  have e1 : powT (.int 10) (.int 18) = some (.sh (.int (10 ^ 18))) := pow_ok (i := 10) (j := 18) (by omega) (by omega)
  have e2 : mulT (.int 2) (.int (w - 10 ^ 18)) = some (.sh (.int (2 * (w - 10 ^ 18)))) := mul_sm (a := 2) (b := 1048576) (by decide) (Nat.lt_of_le_of_lt (by omega) hn) (by omega)
  have hz : 0 ≤ 2 * (w - 10 ^ 18) + u := by omega
  obtain ⟨r, hr, hrm⟩ := mod_nat (i := 2 * (w - 10 ^ 18) + u) hm
  have e3 := mod_ok (i := 2 * (w - 10 ^ 18) + u) (j := (m : Int)) (by omega)
  rw [hr] at e3
  have e4 := fdiv_ok (i := 2 * (w - 10 ^ 18) + u) (j := (m : Int)) (by omega) (Nat.lt_of_lt_of_le (show (m : Int).natAbs < 2 ^ 10 by omega) (Nat.pow_le_pow_right (by omega) (by omega)))
  have e5 : absN [.int cell] = some (.sh (.int w)) := by rw [hw]; rfl
  have e6 : ltA (.int cell) (.int 0) = some (.sh (.bl (decide (cell < 0)))) := rfl
  have e7 : intN [.bl (decide (cell < 0))] = some (.sh (.int u)) := by
    rw [hu]
    show some (Slot.sh (T.int (if decide (cell < 0) = true then 1 else 0))) = _
    simp
  refine ⟨r, ⟨[.sh .nib, .sh (.int (m : Int)), .sh (.int (2 * (w - 10 ^ 18) + u)), .sh (.int t), .sh (.int cell), y], [], { nb with rest := (2 * (w - 10 ^ 18) + u) / m }⟩, _, hrm, Int.ediv_nonneg hz (by omega), rfl, ?_⟩
  have e8 : intN [.int (2 * (w - 10 ^ 18) + u)] = some (.sh (.int (2 * (w - 10 ^ 18) + u))) := rfl
  generalize (10 : Int) ^ 18 = T18 at *
  simp [drawHeld, var_sh, varE_sh, e5, e1, subT, e2, e6, e7, addT, e8, e4, e3, Nib.set]
theorem eqvAll_nil (xs : List T) : PyData.eqvAll (T.dAll xs) (T.dAll []) = decide (xs = []) := by
  cases xs <;> simp [T.dAll, PyData.eqvAll]
theorem okTs_ints (ns : List Int) (n : Nat) : T.okTs (ns.map T.int) n = true := by
  induction ns with
  | nil => rfl
  | cons a p ih => rw [List.map_cons, T.okTs, T.okT, ih]; rfl
theorem ne_nil (ns : List Int) : neT (.lst (ns.map T.int)) (.lst []) = some (.sh (.bl (!decide (ns = [])))) := by
  unfold neT
  rw [if_pos ⟨by show T.okTs _ 59 = true; exact okTs_ints ns 59, rfl⟩]
  show some (Slot.sh (T.bl (!PyData.eqvAll (T.dAll (ns.map T.int)) (T.dAll [])))) = _
  rw [eqvAll_nil]
  cases ns <;> simp
theorem run_draw {a b p1 c1 b1 p2 e a2 c2 p3 : Int} {m k : Nat} {x2 x3 x4 x5 : Slot} {nb : Nib} (h : NbOk k nb) (hk : k ≤ 100000) (hm : 0 < m) (hm2 : m ≤ 1000) (ha : 0 ≤ a ∧ a < 2 ^ 20)
    (hb1 : 0 ≤ b1 ∧ b1 < 2 ^ 20) (hc1 : 0 ≤ c1 ∧ c1 < 2 ^ 20) (hp1 : 0 < p1 ∧ p1 < 2 ^ 32) (hp2 : 0 < p2 ∧ p2 < 2 ^ 32) (he : 0 ≤ e ∧ e < 2 ^ 20) (ha2 : 0 ≤ a2 ∧ a2 < 2 ^ 20) (hc2 : 0 ≤ c2 ∧ c2 < 2 ^ 20) (hp3 : 0 < p3) :
    ∃ (r : Nat) (S : Sta), r < m ∧ NbOk (k + 1) S.nb ∧ drawB a b p1 c1 b1 p2 e a2 c2 p3 ⟨[.sh .nib, .sh (.int (m : Int)), x2, x3, x4, x5], [], nb⟩ = .ok (.rt (.sh (.int (r : Int)))) S := by
  obtain ⟨cells, turn, rest⟩ := nb
  obtain ⟨t0, tk, r0, bits⟩ := h
  dsimp only at t0 tk r0 bits
  by_cases hr : 0 < rest
  · obtain ⟨r, hr1, hrm⟩ := mod_nat (i := rest) hm
    have e3 := mod_ok (i := rest) (j := (m : Int)) (by omega)
    rw [hr1] at e3
    have e4 := fdiv_ok (i := rest) (j := (m : Int)) (by omega) (Nat.lt_of_lt_of_le (show (m : Int).natAbs < 2 ^ 10 by omega) (Nat.pow_le_pow_right (by omega) (by omega)))
    refine ⟨r, ⟨[.sh .nib, .sh (.int (m : Int)), .sh (.int rest), x3, x4, x5], [], ⟨cells, turn, rest / m⟩⟩, hrm, ⟨t0, by dsimp only; omega, Int.ediv_nonneg r0 (by omega), bits⟩, ?_⟩
    have e5 : gtA (.int rest) (.int 0) = some (.sh (.bl true)) := by
      show some (Slot.sh (T.bl (decide ((0 : Int) < rest)))) = _
      rw [decide_eq_true hr]
    simp [drawB, var_sh, varE_sh, e5, e4, e3, Nib.set, Nib.get, intN]
  · have e5 : gtA (.int rest) (.int 0) = some (.sh (.bl false)) := by
      show some (Slot.sh (T.bl (decide ((0 : Int) < rest)))) = _
      rw [decide_eq_false hr]
    have hr0 : rest = 0 := by omega
    subst hr0
    have e6 := mul_sm (i := a) (j := turn) (a := 64) (b := 64) (by omega) (by omega) (by omega)
    have ok1 : NbOk (k + 1) ⟨cells, turn + 1, 0⟩ := ⟨by dsimp only; omega, by dsimp only; omega, Int.le_refl 0, bits⟩
    by_cases hc : cells = []
    · subst hc
      have e7 : neT (.lst (([] : List Int).map T.int)) (.lst []) = some (.sh (.bl false)) := ne_nil []
      rw [List.map_nil] at e7
      obtain ⟨r, S, hrm, hS, eS⟩ := run_mix (x := x2) (y := x5) (t := turn) (cell := a * turn + b) (nb := ⟨[], turn + 1, 0⟩) hm t0 (by omega) hb1 hc1 hp1 hp2 he ha2 hc2 hp3
      refine ⟨r, S, hrm, hS ▸ ok1, ?_⟩
      have e8 : ltA (.int turn) (.int 0) = some (.sh (.bl false)) := by
        show some (Slot.sh (T.bl (decide (turn < 0)))) = _
        rw [decide_eq_false (by omega)]
      simp [drawB, var_sh, varE_sh, e5, e6, Nib.set, Nib.get, addT, e7, lenN, e8, eS]
    · have hl : 0 < cells.length := List.length_pos_iff.mpr hc
      have e7 : neT (.lst (cells.map T.int)) (.lst []) = some (.sh (.bl true)) := by rw [ne_nil, decide_eq_false hc]; rfl
      obtain ⟨j, hj, hjm⟩ := mod_nat (i := turn) hl
      have e9 := mod_ok (i := turn) (j := (cells.length : Int)) (by omega)
      rw [hj] at e9
      have g : cells[j]? = some cells[j] := List.getElem?_eq_getElem hjm
      have g2 : (cells.map T.int)[j]? = some (.int cells[j]) := by rw [List.getElem?_map, g]; rfl
      have e10 := ix_lst g2
      have hbit := bits _ (List.getElem_mem hjm)
      generalize cells[j] = cell at g g2 e10 hbit
      have e8 : ltA (.int turn) (.int (cells.length : Int)) = some (.sh (.bl (decide (turn < cells.length)))) := rfl
      have e11 : powT (.int 10) (.int 18) = some (.sh (.int (10 ^ 18))) := pow_ok (i := 10) (j := 18) (by omega) (by omega)
      obtain ⟨r, S, hrm, hS, eS⟩ := run_mix (x := x2) (y := x5) (t := turn) (cell := cell) (nb := ⟨cells, turn + 1, 0⟩) hm t0 (by omega) hb1 hc1 hp1 hp2 he ha2 hc2 hp3
      have e12 : absN [.int cell] = some (.sh (.int (if cell < 0 then -cell else cell))) := rfl
      by_cases h1 : turn < cells.length
      · by_cases h2 : 10 ^ 18 ≤ (if cell < 0 then -cell else cell)
        · obtain ⟨r, S, z, hrm, hz, hS, eS⟩ := run_held (x := x2) (y := x5) (t := turn) (cell := cell) (nb := ⟨cells, turn + 1, 0⟩) hm hm2 hbit h2
          refine ⟨r, S, hrm, hS ▸ ⟨ok1.t0, ok1.tk, hz, bits⟩, ?_⟩
          have e13 : geT (.int (if cell < 0 then -cell else cell)) (.int (10 ^ 18)) = some (.sh (.bl true)) := by
            show some (Slot.sh (T.bl (decide ((10 : Int) ^ 18 ≤ _)))) = _
            rw [decide_eq_true h2]
          generalize (if cell < 0 then -cell else cell) = W at *
          generalize (10 : Int) ^ 18 = T18 at *
          rw [decide_eq_true h1] at e8
          simp [drawB, var_sh, varE_sh, e5, e6, Nib.set, Nib.get, addT, e7, lenN, e8, intN, e9, e10, e12, e11, e13, eS]
        · refine ⟨r, S, hrm, hS ▸ ok1, ?_⟩
          have e13 : geT (.int (if cell < 0 then -cell else cell)) (.int (10 ^ 18)) = some (.sh (.bl false)) := by
            show some (Slot.sh (T.bl (decide ((10 : Int) ^ 18 ≤ _)))) = _
            rw [decide_eq_false h2]
          generalize (if cell < 0 then -cell else cell) = W at *
          generalize (10 : Int) ^ 18 = T18 at *
          rw [decide_eq_true h1] at e8
          simp [drawB, var_sh, varE_sh, e5, e6, Nib.set, Nib.get, addT, e7, lenN, e8, intN, e9, e10, e12, e11, e13, eS]
      · refine ⟨r, S, hrm, hS ▸ ok1, ?_⟩
        rw [decide_eq_false h1] at e8
        simp [drawB, var_sh, varE_sh, e5, e6, Nib.set, Nib.get, addT, e7, lenN, e8, intN, e9, e10, eS]
end TL
namespace TL
@[simp] theorem slF_ap (p : T → Option Int → Option Int → Option Slot) (fa : OF) (lo hi : BF) (S : Sta) : slF p fa lo hi S = (fa S).bind fun o S1 => (lo S1).bind fun l S2 => (hi S2).bind fun u S3 => match o.get S3 with
  | some t => res (p t l u) S3
  | none => .stuck := rfl
@[simp] theorem noB_ap (S : Sta) : noB S = .ok none S := rfl
@[simp] theorem someB_ap (f : OF) (S : Sta) : someB f S = (f S).bind fun o S1 => match o with
  | .val (.int i) => .ok (some i) S1
  | _ => .stuck := rfl
theorem cutT_take (xs : List T) (m : Nat) : cutT xs none (some (m : Int)) = xs.take m := by
  unfold cutT
  rw [HT.sIx_none, HT.sIx_nat, List.drop_zero, Nat.sub_zero]
  by_cases h : m ≤ xs.length
  · rw [Nat.min_eq_left h]
  · rw [Nat.min_eq_right (by omega), List.take_of_length_le (Nat.le_refl _), List.take_of_length_le (by omega)]
theorem tn_take (p : List Nat) (i : Nat) : (tn p).take i = tn (p.take i) := by unfold tn; rw [List.map_take]
end TL
namespace TL
theorem compL_map {α : Type} {own : List Nat} {tg : Tg} {tt : TF} {te : EF} {S : Sta} {f : α → T} {v : α → Option T} (hw : S.wipe own = S) : ∀ (l : List α) (acc : List T), acc.length + l.length ≤ sz →
    (∀ a ∈ l, ∀ acc, compStep own tg tt te (f a) (S.push (.ow (.lst acc))) = .ok (v a) (S.push (.ow (.lst acc)))) →
    compL own tg tt te (l.map f) (S.push (.ow (.lst acc))) = .ok () (S.push (.ow (.lst (acc ++ l.filterMap v))))
  | [], acc, _, _ => by rw [List.filterMap_nil, List.append_nil]; rfl
  | t :: ts, acc, hl, h => by
    rw [List.length_cons] at hl
    rw [List.map_cons, compL_step (h t List.mem_cons_self acc) hw (by omega), compL_map hw ts _ (by rw [List.length_append]; cases v t <;> simp <;> omega) fun t ht => h t (List.mem_cons_of_mem _ ht)]
    rw [List.filterMap_cons]
    cases v t <;> simp
theorem compF_map {α : Type} {own : List Nat} {it : IF} {tg : Tg} {tt : TF} {te : EF} {S S1 : Sta} (l : List α) (f : α → T) (v : α → Option T) (hi : it S = .ok (l.map f) S1) (hf : (own.all fun i => Slot.free S1.lo[i]?) = true) (hs : (tg.slots.all fun i => own.contains i) = true) (hl : l.length ≤ sz)
    (h : ∀ a ∈ l, ∀ acc, compStep own tg tt te (f a) ((S1.wipe own).push (.ow (.lst acc))) = .ok (v a) ((S1.wipe own).push (.ow (.lst acc)))) :
    compF own it tg tt te S = .ok (.ow (.lst (l.filterMap v))) S1 := by
  unfold compF
  rw [hi, R.bind_ok, hf, hs, compL_map (wipe_wipe S1 own) l [] (by simpa using hl) h]
  simp [wipe_back]
theorem filterMap_if {α β : Type} (p : α → Bool) (f : α → β) : ∀ l : List α, (l.filterMap fun a => if p a = true then some (f a) else none) = (l.filter p).map f
  | [] => rfl
  | a :: l => by
    rw [List.filterMap_cons, List.filter_cons, filterMap_if p f l]
    by_cases h : p a = true
    · rw [if_pos h, if_pos h]; rfl
    · rw [if_neg h, if_neg h]
end TL

end
section
set_option Elab.async false
set_option linter.all false
set_option maxRecDepth 100000
set_option autoImplicit false
open PySem PySem.Spec PyProof.Rows L2
namespace TL
theorem compStep_filter {own : List Nat} {tg : Tg} {tt : TF} {te : EF} {t y : T} {S S1 W : Sta} {k : Bool} (h1 : tg.put t S = some S1) (h2 : tt S1 = .ok k S1) (h3 : te S1 = .ok (.sh y) S1) (h4 : S1.wipe own = W) : compStep own tg tt te t S = .ok (if k = true then some y else none) W := by
  unfold compStep
  rw [h1]
  dsimp only
  rw [h2, R.bind_ok]
  cases k with
  | true =>
    rw [if_pos rfl, if_pos rfl, h3, R.bind_ok, ← h4]
    rfl
  | false =>
    rw [if_neg Bool.false_ne_true, if_neg Bool.false_ne_true, ← h4]
theorem compStep_map {own : List Nat} {tg : Tg} {te : EF} {t y : T} {S S1 S2 W : Sta} {x : Slot} (h1 : tg.put t S = some S1) (h3 : te S1 = .ok x S2) (hx : x.tree = some y) (h4 : S2.wipe own = W) : compStep own tg yesT te t S = .ok (some y) W := by
  unfold compStep
  rw [h1]
  dsimp only
  rw [yesT_ap, R.bind_ok, if_pos rfl, h3, R.bind_ok, hx, ← h4]
theorem consA_run {f : OF} {r : AF} {S S1 S2 : Sta} {o : Opd} {os : List Opd} (h : f S = .ok o S1) (hr : r S1 = .ok os S2) : consA f r S = .ok (o :: os) S2 := by rw [consA_ap, h, R.bind_ok, hr, R.bind_ok]
theorem argV {l gh : List Slot} {nb : Nib} {i : Nat} {t : T} (h : l[i]? = some (.sh t)) : opE (varE i) ⟨l, gh, nb⟩ = .ok (.val t) ⟨l, gh, nb⟩ := by rw [opE_ap, varE_sh _ _ _ _ _ h]; rfl
theorem opE_run {e : EF} {S S1 : Sta} {x : Slot} {t : T} (h : e S = .ok x S1) (hx : x.tree = some t) : opE e S = .ok (.val t) S1 := by rw [opE_ap, h, R.bind_ok, hx]
theorem callF_run {np : Nat} {fn : Fn} {r : AF} {S S1 : Sta} {os : List Opd} {ts : List T} {x : Slot} {n : Nib} (h : r S = .ok os S1) (hv : vals os = some ts) (hl : ts.length = np) (hf : fn ts S1.nb = .ok x n) : callF np fn r S = .ok x { S1 with nb := n } := by
  rw [callF_ap, h, R.bind_ok, hv]
  dsimp only
  rw [if_pos hl, hf]
theorem setF_run {i : Nat} {e : EF} {S S1 : Sta} {x : Slot} (h : e S = .ok x S1) (hi : i < S1.lo.length) : setF i e S = .ok .nx (S1.put i x) := by rw [setF_ap, h, R.bind_ok, if_pos hi]
theorem op2_run {p : T → T → Option Slot} {a b : OF} {S S1 S2 : Sta} {o o' : Opd} {t u : T} {z : Slot} (h : a S = .ok o S1) (h' : b S1 = .ok o' S2) (g : o.get S2 = some t) (g' : o'.get S2 = some u) (hp : p t u = some z) : op2 p a b S = .ok z S2 := by
  rw [op2_ap, h, R.bind_ok, h', R.bind_ok, g, g']
  dsimp only
  rw [hp, res_some]
end TL

end
section
set_option Elab.async false
set_option linter.all false
set_option maxRecDepth 100000
set_option autoImplicit false
/-! TL15: the runner -/
open PySem PySem.Spec PyProof.Rows L2
namespace TL
section
variable (S : Sta) (i j k n np nk : Nat) (a b d : OF) (e e' e'' : EF) (t u : TF) (f g : SF) (r r' : AF) (it : IF) (tg : Tg) (p p' : T → T → Option Slot) (q : T → Option Slot) (ql : List T → Option Slot) (fn : Fn) (x y : T) (z : Slot) (ts us : List T) (o o' : Opd) (os os' : List Opd)
theorem w_okB {α β : Type} (a : α) (S : Sta) (k : α → Sta → R β) : (R.ok a S).bind k = k a S := rfl
theorem w_con : con x S = .ok (.sh x) S := rfl
def kOpE : Slot → Sta → R Opd := fun x S1 => match x.tree with
  | some t => .ok (.val t) S1
  | none => .stuck
theorem w_opE : opE e S = (e S).bind kOpE := rfl
theorem kOpE_sh : kOpE (.sh x) S = .ok (.val x) S := rfl
theorem kOpE_ow : kOpE (.ow x) S = .ok (.val x) S := rfl
theorem w_nilA : nilA S = .ok [] S := rfl
def kCons (r : AF) : Opd → Sta → R (List Opd) := fun o S1 => (r S1).bind fun os S2 => .ok (o :: os) S2
def kCons2 (o : Opd) : List Opd → Sta → R (List Opd) := fun os S2 => .ok (o :: os) S2
theorem w_consA : consA a r S = (a S).bind (kCons r) := rfl
theorem kCons_ap : kCons r o S = (r S).bind (kCons2 o) := rfl
theorem kCons2_ap : kCons2 o os S = .ok (o :: os) S := rfl
def gOp2 (p : T → T → Option Slot) (o o' : Option T) (S : Sta) : R Slot := match o, o' with
  | some t, some u => res (p t u) S
  | _, _ => .stuck
def kOp2 (p : T → T → Option Slot) (b : OF) : Opd → Sta → R Slot := fun o S1 => (b S1).bind fun o' S2 => match o.get S2, o'.get S2 with
  | some t, some u => res (p t u) S2
  | _, _ => .stuck
def kOp2' (p : T → T → Option Slot) (o : Opd) : Opd → Sta → R Slot := fun o' S2 => match o.get S2, o'.get S2 with
  | some t, some u => res (p t u) S2
  | _, _ => .stuck
theorem w_op2 : op2 p a b S = (a S).bind (kOp2 p b) := rfl
theorem kOp2_ap : kOp2 p b o S = (b S).bind (kOp2' p o) := rfl
theorem kOp2'_ap : kOp2' p o o' S = gOp2 p (o.get S) (o'.get S) S := rfl
theorem gOp2_ap : gOp2 p (some x) (some y) S = res (p x y) S := rfl
def gOp1 (q : T → Option Slot) (o : Option T) (S : Sta) : R Slot := match o with
  | some t => res (q t) S
  | _ => .stuck
def kOp1 (q : T → Option Slot) : Opd → Sta → R Slot := fun o S1 => gOp1 q (o.get S1) S1
theorem w_op1 : op1 q a S = (a S).bind (kOp1 q) := rfl
theorem kOp1_ap : kOp1 q o S = gOp1 q (o.get S) S := rfl
theorem gOp1_ap : gOp1 q (some x) S = res (q x) S := rfl
def gOpN (ql : List T → Option Slot) (o : Option (List T)) (S : Sta) : R Slot := match o with
  | some ts => res (ql ts) S
  | _ => .stuck
def kOpN (ql : List T → Option Slot) : List Opd → Sta → R Slot := fun os S1 => gOpN ql (gets S1 os) S1
theorem w_opN : opN ql r S = (r S).bind (kOpN ql) := rfl
theorem kOpN_ap : kOpN ql os S = gOpN ql (gets S os) S := rfl
theorem gOpN_ap : gOpN ql (some ts) S = res (ql ts) S := rfl
theorem w_res : res (some z) S = .ok z S := rfl
def kTst : Slot → Sta → R Bool := fun x S1 => match x with
  | .sh (.bl b) => .ok b S1
  | _ => .stuck
theorem w_tst : tst e S = (e S).bind kTst := rfl
theorem kTst_ap (b : Bool) : kTst (.sh (.bl b)) S = .ok b S := rfl
def gChn2 (p' : T → T → Option Slot) (o o' : Option T) (S : Sta) : R Slot := gOp2 p' o o' S
def kChn3 (p' : T → T → Option Slot) (o' : Opd) : Opd → Sta → R Slot := fun o'' S3 => gOp2 p' (o'.get S3) (o''.get S3) S3
def hChn (p' : T → T → Option Slot) (d : OF) (o' : Opd) (S2 : Sta) : Option Slot → R Slot := fun z => match z with
    | some (.sh (.bl true)) => (d S2).bind (kChn3 p' o')
    | some (.sh (.bl false)) => .ok (.sh (.bl false)) S2
    | _ => .stuck
def gChn (p p' : T → T → Option Slot) (d : OF) (o' : Opd) (x y : Option T) (S2 : Sta) : R Slot := match x, y with
  | some t, some u => hChn p' d o' S2 (p t u)
  | _, _ => .stuck
def kChn (p p' : T → T → Option Slot) (b d : OF) : Opd → Sta → R Slot := fun o S1 => (b S1).bind fun o' S2 => gChn p p' d o' (o.get S2) (o'.get S2) S2
def kChn2 (p p' : T → T → Option Slot) (d : OF) (o : Opd) : Opd → Sta → R Slot := fun o' S2 => gChn p p' d o' (o.get S2) (o'.get S2) S2
theorem w_chn : chn p p' a b d S = (a S).bind (kChn p p' b d) := by
  unfold chn kChn gChn hChn kChn3 gOp2
  rfl
theorem kChn_ap : kChn p p' b d o S = (b S).bind (kChn2 p p' d o) := rfl
theorem kChn2_ap : kChn2 p p' d o o' S = gChn p p' d o' (o.get S) (o'.get S) S := rfl
theorem gChn_ap : gChn p p' d o (some x) (some y) S = hChn p' d o S (p x y) := rfl
theorem hChn_t : hChn p' d o S (some (.sh (.bl true))) = (d S).bind (kChn3 p' o) := rfl
theorem hChn_f : hChn p' d o S (some (.sh (.bl false))) = .ok (.sh (.bl false)) S := rfl
theorem kChn3_ap : kChn3 p' o o' S = gOp2 p' (o.get S) (o'.get S) S := rfl
def kAndT (u : TF) : Bool → Sta → R Bool := fun k S1 => if k = true then u S1 else .ok false S1
def kOrT (u : TF) : Bool → Sta → R Bool := fun k S1 => if k = true then .ok true S1 else u S1
def kNotT : Bool → Sta → R Bool := fun k S1 => .ok (!k) S1
theorem w_andT : andT t u S = (t S).bind (kAndT u) := rfl
theorem kAndT_t : kAndT u true S = u S := rfl
theorem kAndT_f : kAndT u false S = .ok false S := rfl
theorem w_orT : orT t u S = (t S).bind (kOrT u) := rfl
theorem kOrT_t : kOrT u true S = .ok true S := rfl
theorem kOrT_f : kOrT u false S = u S := rfl
theorem w_notT : notT t S = (t S).bind kNotT := rfl
theorem kNotT_ap (b : Bool) : kNotT b S = .ok (!b) S := rfl
def kAndE (e' : EF) : Slot → Sta → R Slot := fun x S1 => match x with
  | .sh (.bl true) => e' S1
  | .sh (.bl false) => .ok (.sh (.bl false)) S1
  | _ => .stuck
def kOrE (e' : EF) : Slot → Sta → R Slot := fun x S1 => match x with
  | .sh (.bl false) => e' S1
  | .sh (.bl true) => .ok (.sh (.bl true)) S1
  | _ => .stuck
def kNotE : Slot → Sta → R Slot := fun x S1 => match x with
  | .sh (.bl k) => .ok (.sh (.bl (!k))) S1
  | _ => .stuck
theorem w_andE : andE e e' S = (e S).bind (kAndE e') := rfl
theorem kAndE_t : kAndE e' (.sh (.bl true)) S = e' S := rfl
theorem kAndE_f : kAndE e' (.sh (.bl false)) S = .ok (.sh (.bl false)) S := rfl
theorem w_orE : orE e e' S = (e S).bind (kOrE e') := rfl
theorem kOrE_t : kOrE e' (.sh (.bl true)) S = .ok (.sh (.bl true)) S := rfl
theorem kOrE_f : kOrE e' (.sh (.bl false)) S = e' S := rfl
theorem w_notE : notE e S = (e S).bind kNotE := rfl
theorem kNotE_ap (b : Bool) : kNotE (.sh (.bl b)) S = .ok (.sh (.bl (!b))) S := rfl
def kIte3 (e e' : EF) : Bool → Sta → R Slot := fun k S1 => if k = true then e S1 else e' S1
theorem w_ite3 : ite3 t e e' S = (t S).bind (kIte3 e e') := rfl
theorem kIte3_t : kIte3 e e' true S = e S := rfl
theorem kIte3_f : kIte3 e e' false S = e' S := rfl
def gLst (o : Option (List T)) (S : Sta) : R Slot := match o with
  | some ts => if ts.length ≤ sz then .ok (.ow (.lst ts)) S else .stuck
  | none => .stuck
def gTup (o : Option (List T)) (S : Sta) : R Slot := match o with
  | some ts => if ts.length ≤ sz then .ok (.sh (.tup ts)) S else .stuck
  | none => .stuck
def kLst : List Opd → Sta → R Slot := fun os S1 => gLst (vals os) S1
def kTup : List Opd → Sta → R Slot := fun os S1 => gTup (vals os) S1
theorem w_lstF : lstF r S = (r S).bind kLst := rfl
theorem kLst_ap : kLst os S = gLst (vals os) S := rfl
theorem w_tupF : tupF r S = (r S).bind kTup := rfl
theorem kTup_ap : kTup os S = gTup (vals os) S := rfl
theorem gLst_ap (h : ts.length ≤ 100000) : gLst (some ts) S = .ok (.ow (.lst ts)) S := if_pos (len_sz h)
theorem gTup_ap (h : ts.length ≤ 100000) : gTup (some ts) S = .ok (.sh (.tup ts)) S := if_pos (len_sz h)
def kSeq (g : SF) : Flow → Sta → R Flow := fun fl S1 => match fl with
  | .nx => g S1
  | .rt x => .ok (.rt x) S1
  | .bk => .ok .bk S1
  | .ct => .ok .ct S1
theorem w_seq : seqF f g S = (f S).bind (kSeq g) := rfl
theorem kSeq_nx : kSeq g .nx S = g S := rfl
theorem kSeq_rt : kSeq g (.rt z) S = .ok (.rt z) S := rfl
theorem kSeq_bk : kSeq g .bk S = .ok .bk S := rfl
theorem kSeq_ct : kSeq g .ct S = .ok .ct S := rfl
theorem w_nxF : nxF S = .ok .nx S := rfl
theorem w_bkF : bkF S = .ok .bk S := rfl
theorem w_ctF : ctF S = .ok .ct S := rfl
def kRet : Slot → Sta → R Flow := fun x S1 => .ok (.rt x) S1
theorem w_retF : retF e S = (e S).bind kRet := rfl
theorem kRet_ap : kRet z S = .ok (.rt z) S := rfl
theorem w_retNF : retNF S = .ok (.rt (.sh .non)) S := rfl
def kDrop : Slot → Sta → R Flow := fun _ S1 => .ok .nx S1
theorem w_dropF : dropF e S = (e S).bind kDrop := rfl
theorem kDrop_ap : kDrop z S = .ok .nx S := rfl
def kIfF (f g : SF) : Bool → Sta → R Flow := fun k S1 => if k = true then f S1 else g S1
theorem w_ifF : ifF t f g S = (t S).bind (kIfF f g) := rfl
theorem kIfF_t : kIfF f g true S = f S := rfl
theorem kIfF_f : kIfF f g false S = g S := rfl
def kSet (i : Nat) : Slot → Sta → R Flow := fun x S1 => if i < S1.lo.length then .ok .nx (S1.put i x) else .stuck
theorem w_setF : setF i e S = (e S).bind (kSet i) := rfl
theorem kSet_ap (l gh : List Slot) (nb : Nib) : kSet i z ⟨l, gh, nb⟩ = if i < l.length then .ok .nx ⟨l.set i z, gh, nb⟩ else .stuck := rfl
def gAsg (o : Option Sta) : R Flow := match o with
  | some S2 => .ok .nx S2
  | none => .stuck
def kAsg (tg : Tg) : Opd → Sta → R Flow := fun o S1 => match o with
  | .val t => gAsg (tg.put t S1)
  | _ => .stuck
theorem w_asgF : asgF tg a S = (a S).bind (kAsg tg) := rfl
theorem kAsg_ap : kAsg tg (.val x) S = gAsg (tg.put x S) := rfl
theorem gAsg_ap : gAsg (some S) = .ok .nx S := rfl
def kFor (tg : Tg) (f : SF) : List T → Sta → R Flow := fun ts S1 => forL tg f ts S1
theorem w_forF : forF it tg f S = (it S).bind (kFor tg f) := rfl
theorem kFor_ap : kFor tg f ts S = forL tg f ts S := rfl
def kForL (tg : Tg) (f : SF) (ts : List T) : Flow → Sta → R Flow := fun fl S2 => match fl with
      | .nx => forL tg f ts S2
      | .ct => forL tg f ts S2
      | .bk => .ok .nx S2
      | .rt x => .ok (.rt x) S2
def gForL (tg : Tg) (f : SF) (ts : List T) (o : Option Sta) : R Flow := match o with
    | none => .stuck
    | some S1 => (f S1).bind (kForL tg f ts)
theorem w_forL : forL tg f (x :: ts) S = gForL tg f ts (tg.put x S) := rfl
theorem w_forL0 : forL tg f [] S = .ok .nx S := rfl
theorem gForL_ap : gForL tg f ts (some S) = (f S).bind (kForL tg f ts) := rfl
theorem kForL_nx : kForL tg f ts .nx S = forL tg f ts S := rfl
theorem kForL_ct : kForL tg f ts .ct S = forL tg f ts S := rfl
theorem kForL_bk : kForL tg f ts .bk S = .ok .nx S := rfl
theorem kForL_rt : kForL tg f ts (.rt z) S = .ok (.rt z) S := rfl
def gFR (S1 : Sta) (o : FR) : R Slot := match o with
    | .ok x n => .ok x { S1 with nb := n }
    | .exc e n => .exc e { S1 with nb := n }
    | .stuck => .stuck
def gCall (np : Nat) (fn : Fn) (o : Option (List T)) (S1 : Sta) : R Slot := match o with
  | some ts => if ts.length = np then gFR S1 (fn ts S1.nb) else .stuck
  | none => .stuck
def kCall (np : Nat) (fn : Fn) : List Opd → Sta → R Slot := fun os S1 => gCall np fn (vals os) S1
theorem w_callF : callF np fn r S = (r S).bind (kCall np fn) := rfl
theorem kCall_ap : kCall np fn os S = gCall np fn (vals os) S := rfl
theorem gCall_ap (l gh : List Slot) (nb : Nib) (h : ts.length = np) : gCall np fn (some ts) ⟨l, gh, nb⟩ = gFR ⟨l, gh, nb⟩ (fn ts nb) := if_pos h
theorem gFR_ok (l gh : List Slot) (nb nb' : Nib) : gFR ⟨l, gh, nb⟩ (.ok z nb') = .ok z ⟨l, gh, nb'⟩ := rfl
theorem gFR_exc (l gh : List Slot) (nb nb' : Nib) (ex : Ex) : gFR ⟨l, gh, nb⟩ (.exc ex nb') = .exc ex ⟨l, gh, nb'⟩ := rfl
def gSeqI (o : Opd) (S1 : Sta) : R (List T) := match o with
  | .val (.lst ts) => .ok ts S1
  | .val (.tup ts) => .ok ts S1
  | _ => .stuck
def kSeqI : Opd → Sta → R (List T) := gSeqI
theorem w_seqI : seqI a S = (a S).bind kSeqI := rfl
theorem kSeqI_l : kSeqI (.val (.lst ts)) S = .ok ts S := rfl
theorem kSeqI_t : kSeqI (.val (.tup ts)) S = .ok ts S := rfl
def kEnumI : Opd → Sta → R (List T) := fun o S1 => match o with
  | .val (.lst ts) => .ok (enumT 0 ts) S1
  | .val (.tup ts) => .ok (enumT 0 ts) S1
  | _ => .stuck
theorem w_enumI : enumI a S = (a S).bind kEnumI := rfl
theorem kEnumI_l : kEnumI (.val (.lst ts)) S = .ok (enumT 0 ts) S := rfl
theorem kEnumI_t : kEnumI (.val (.tup ts)) S = .ok (enumT 0 ts) S := rfl
def kZip (b : OF) : Opd → Sta → R (List T) := fun o S1 => (b S1).bind fun o' S2 => match o, o' with
  | .val (.lst ts), .val (.lst us) => .ok (zipT ts us) S2
  | .val (.tup ts), .val (.tup us) => .ok (zipT ts us) S2
  | _, _ => .stuck
def kZip2 (o : Opd) : Opd → Sta → R (List T) := fun o' S2 => match o, o' with
  | .val (.lst ts), .val (.lst us) => .ok (zipT ts us) S2
  | .val (.tup ts), .val (.tup us) => .ok (zipT ts us) S2
  | _, _ => .stuck
theorem w_zipI : zipI a b S = (a S).bind (kZip b) := rfl
theorem kZip_ap : kZip b o S = (b S).bind (kZip2 o) := rfl
theorem kZip2_l : kZip2 (.val (.lst ts)) (.val (.lst us)) S = .ok (zipT ts us) S := rfl
theorem kZip2_t : kZip2 (.val (.tup ts)) (.val (.tup us)) S = .ok (zipT ts us) S := rfl
def kRng : Opd → Sta → R (List T) := fun o S1 => match o with
  | .val (.int n) => if -(2 ^ 62) ≤ n ∧ n < 2 ^ 62 then .ok (rgT 0 n) S1 else .stuck
  | _ => .stuck
theorem w_rngI1 : rngI1 a S = (a S).bind kRng := rfl
theorem kRng_n (h : n ≤ 1000000) : kRng (.val (.int (n : Int))) S = .ok (tn (List.range n)) S := by
  unfold kRng
  dsimp only
  rw [if_pos ⟨by omega, by omega⟩, rg_tn]
theorem w_yesT : yesT S = .ok true S := rfl
end
section
variable (l : List Slot) (gh : List Slot) (nb : Nib) (i : Nat) (t : T)
def gVar (i : Nat) (s : Option Slot) (S : Sta) : R Opd := match s with
  | some (.sh t) => .ok (.val t) S
  | some (.ow _) => .ok (.pl i) S
  | _ => .stuck
def gVarE (i : Nat) (s : Option Slot) (S : Sta) : R Slot := match s with
  | some (.sh t) => .ok (.sh t) S
  | some (.ow t) => .ok (.sh t) (S.put i (.sh t))
  | _ => .stuck
def gVarR (i : Nat) (s : Option Slot) (S : Sta) : R Slot := match s with
  | some (.sh t) => .ok (.sh t) S
  | some (.ow t) => .ok (.ow t) (S.put i .no)
  | _ => .stuck
theorem w_var : var i ⟨l, gh, nb⟩ = gVar i l[i]? ⟨l, gh, nb⟩ := rfl
theorem w_varE : varE i ⟨l, gh, nb⟩ = gVarE i l[i]? ⟨l, gh, nb⟩ := rfl
theorem w_varR : varR i ⟨l, gh, nb⟩ = gVarR i l[i]? ⟨l, gh, nb⟩ := rfl
theorem gVar_sh (S : Sta) : gVar i (some (.sh t)) S = .ok (.val t) S := rfl
theorem gVar_ow (S : Sta) : gVar i (some (.ow t)) S = .ok (.pl i) S := rfl
theorem gVarE_sh (S : Sta) : gVarE i (some (.sh t)) S = .ok (.sh t) S := rfl
theorem gVarE_ow : gVarE i (some (.ow t)) ⟨l, gh, nb⟩ = .ok (.sh t) ⟨l.set i (.sh t), gh, nb⟩ := rfl
theorem gVarR_sh (S : Sta) : gVarR i (some (.sh t)) S = .ok (.sh t) S := rfl
theorem gVarR_ow : gVarR i (some (.ow t)) ⟨l, gh, nb⟩ = .ok (.ow t) ⟨l.set i .no, gh, nb⟩ := rfl
theorem get_pl : (Opd.pl i).get ⟨l, gh, nb⟩ = (l[i]?).bind Slot.tree := rfl
theorem get_val (S : Sta) : (Opd.val t).get S = some t := rfl
theorem tree_sh : (some (Slot.sh t)).bind Slot.tree = some t := rfl
theorem tree_ow : (some (Slot.ow t)).bind Slot.tree = some t := rfl
def gMeth (i : Nat) (p : List T → List T → Option (List T × T)) (us : Option (List T)) (s : Option Slot) (S1 : Sta) : R Slot := match us, s with
    | some us, some (.ow (.lst ts)) => match p ts us with
      | some (ts', z) => .ok (.sh z) (S1.put i (.ow (.lst ts')))
      | none => .stuck
    | _, _ => .stuck
def kMeth (i : Nat) (p : List T → List T → Option (List T × T)) : List Opd → Sta → R Slot := fun os S1 => gMeth i p (vals os) S1.lo[i]? S1
def gMeth0 (i : Nat) (p : List T → List T → Option (List T × T)) (fa : AF) (S : Sta) (s : Option Slot) : R Slot := match s with
  | some (.ow (.lst _)) => (fa S).bind (kMeth i p)
  | _ => .stuck
theorem w_methF (p : List T → List T → Option (List T × T)) (fa : AF) : methF i p fa ⟨l, gh, nb⟩ = gMeth0 i p fa ⟨l, gh, nb⟩ l[i]? := by
  rw [methF_ap]
  dsimp only
  generalize l[i]? = s
  match s with
  | none => rfl
  | some .no => rfl
  | some (.sh _) => rfl
  | some (.ow (.lst _)) => rfl
  | some (.ow .non) => rfl
  | some (.ow (.bl _)) => rfl
  | some (.ow (.int _)) => rfl
  | some (.ow (.str _)) => rfl
  | some (.ow (.tup _)) => rfl
  | some (.ow (.wtp _)) => rfl
  | some (.ow (.dic _)) => rfl
  | some (.ow (.obj _ _)) => rfl
  | some (.ow .nib) => rfl
theorem gMeth0_ap (p : List T → List T → Option (List T × T)) (fa : AF) (ts : List T) : gMeth0 i p fa ⟨l, gh, nb⟩ (some (.ow (.lst ts))) = (fa ⟨l, gh, nb⟩).bind (kMeth i p) := rfl
theorem kMeth_ap (p : List T → List T → Option (List T × T)) (os : List Opd) : kMeth i p os ⟨l, gh, nb⟩ = gMeth i p (vals os) l[i]? ⟨l, gh, nb⟩ := rfl
def hMeth (i : Nat) (S1 : Sta) (o : Option (List T × T)) : R Slot := match o with
      | some (ts', z) => .ok (.sh z) (S1.put i (.ow (.lst ts')))
      | none => .stuck
theorem gMeth_ap (p : List T → List T → Option (List T × T)) (us ts : List T) (S : Sta) : gMeth i p (some us) (some (.ow (.lst ts))) S = hMeth i S (p ts us) := rfl
theorem hMeth_ap (ts : List T) (z : T) : hMeth i ⟨l, gh, nb⟩ (some (ts, z)) = .ok (.sh z) ⟨l.set i (.ow (.lst ts)), gh, nb⟩ := rfl
def gSetI (i : Nat) (v x : Opd) (s : Option Slot) (S2 : Sta) : R Flow := match v, x, s with
    | .val t, .val (.int k), some (.ow (.lst ts)) => match ixN ts.length k with
      | some j => .ok .nx (S2.put i (.ow (.lst (ts.set j t))))
      | none => .stuck
    | _, _, _ => .stuck
def kSetI2 (i : Nat) (v : Opd) : Opd → Sta → R Flow := fun o' S2 => gSetI i v o' S2.lo[i]? S2
def gSetI0 (i : Nat) (fi : OF) (v : Opd) (s : Option Slot) (S1 : Sta) : R Flow := match s with
  | some (.ow (.lst _)) => (fi S1).bind (kSetI2 i v)
  | _ => .stuck
def kSetI (i : Nat) (fi : OF) : Opd → Sta → R Flow := fun o S1 => gSetI0 i fi o S1.lo[i]? S1
theorem w_setIF (fv fi : OF) (S : Sta) : setIF i fv fi S = (fv S).bind (kSetI i fi) := by
  unfold setIF kSetI gSetI0 kSetI2 gSetI
  rfl
theorem kSetI_ap (fi : OF) (o : Opd) : kSetI i fi o ⟨l, gh, nb⟩ = gSetI0 i fi o l[i]? ⟨l, gh, nb⟩ := rfl
theorem gSetI0_ap (fi : OF) (o : Opd) (ts : List T) (S : Sta) : gSetI0 i fi o (some (.ow (.lst ts))) S = (fi S).bind (kSetI2 i o) := rfl
theorem kSetI2_ap (o o' : Opd) : kSetI2 i o o' ⟨l, gh, nb⟩ = gSetI i o o' l[i]? ⟨l, gh, nb⟩ := rfl
def hSetI (i : Nat) (t : T) (ts : List T) (S2 : Sta) (o : Option Nat) : R Flow := match o with
      | some j => .ok .nx (S2.put i (.ow (.lst (ts.set j t))))
      | none => .stuck
theorem gSetI_ap (k : Int) (ts : List T) (S : Sta) : gSetI i (.val t) (.val (.int k)) (some (.ow (.lst ts))) S = hSetI i t ts S (ixN ts.length k) := rfl
theorem hSetI_ap (ts : List T) (j : Nat) : hSetI i t ts ⟨l, gh, nb⟩ (some j) = .ok .nx ⟨l.set i (.ow (.lst (ts.set j t))), gh, nb⟩ := rfl
def gPar2 (i j : Nat) (y : Slot) (o : Option (Slot × Sta)) : R Flow := match o with
    | some (x', S3) => if i < S3.lo.length ∧ j < S3.lo.length then .ok .nx ((S3.put j y).put i x') else .stuck
    | none => .stuck
def gPar (i j : Nat) (r : R Slot) : R Flow := match r with
  | .ok y S2 => gPar2 i j y S2.popG
  | _ => .stuck
def kPar (i j : Nat) (g : EF) : Slot → Sta → R Flow := fun x S1 => gPar i j (g (S1.push x))
theorem w_parF (j : Nat) (f g : EF) (S : Sta) : parF i j f g S = (f S).bind (kPar i j g) := by
  unfold parF kPar gPar gPar2
  rfl
theorem kPar_ap (j : Nat) (g : EF) (x : Slot) : kPar i j g x ⟨l, gh, nb⟩ = gPar i j (g ⟨l, gh ++ [x], nb⟩) := rfl
theorem gPar_ap (j : Nat) (y x : Slot) : gPar i j (.ok y ⟨l, gh ++ [x], nb⟩) = if i < l.length ∧ j < l.length then .ok .nx ⟨(l.set j y).set i x, gh, nb⟩ else .stuck := by
  show gPar2 i j y (Sta.popG ⟨l, gh ++ [x], nb⟩) = _
  rw [popG_snoc]; rfl
theorem gPar_one (j : Nat) (y x : Slot) : gPar i j (.ok y ⟨l, [x], nb⟩) = if i < l.length ∧ j < l.length then .ok .nx ⟨(l.set j y).set i x, [], nb⟩ else .stuck := gPar_ap l [] nb i j y x
theorem nil_app (x : Slot) : ([] : List Slot) ++ [x] = [x] := rfl
end
end TL

end
section
set_option Elab.async false
set_option linter.all false
set_option maxRecDepth 100000
set_option autoImplicit false
set_option maxHeartbeats 0
open PySem PySem.Spec PyProof.Rows L2 TL
namespace K08
def topS (i : Nat) : Stmt := PySem.Challenge.pw_fromsize_k08_whole_kept_ones_are_the_ear.main.body.getD i (.Pass ⟨0, 0, 0, 0⟩)
abbrev st_law_cup : Stmt := topS 27
abbrev N_law_cup : List Str := ["_law_script", "_law_cell"]
theorem sc_law_cup : FnScope N_law_cup ["_law_script"] (defScope st_law_cup) := ⟨rfl, rfl, rfl, by decide +kernel, rfl, by decide +kernel, by decide +kernel⟩
abbrev st_law_scoop : Stmt := topS 28
abbrev N_law_scoop : List Str := ["_law_cup_here", "_law_many", "_law_held", "_law_turn", "_law_cell", "_law_mixed"]
theorem sc_law_scoop : FnScope N_law_scoop ["_law_cup_here", "_law_many"] (defScope st_law_scoop) := ⟨rfl, rfl, rfl, by decide +kernel, rfl, by decide +kernel, by decide +kernel⟩
abbrev st_law_row : Stmt := topS 29
abbrev N_law_row : List Str := ["_law_cup_here", "_law_wires", "_law_left", "_law_found", "_law_top"]
theorem sc_law_row : FnScope N_law_row ["_law_cup_here", "_law_wires"] (defScope st_law_row) := ⟨rfl, rfl, rfl, by decide +kernel, rfl, by decide +kernel, by decide +kernel⟩
abbrev st_law_settings : Stmt := topS 30
abbrev N_law_settings : List Str := ["_law_wires", "_law_size", "_law_found", "_law_top", "_law_longer", "_law_setting", "_law_number"]
theorem sc_law_settings : FnScope N_law_settings ["_law_wires", "_law_size"] (defScope st_law_settings) := ⟨rfl, rfl, rfl, by decide +kernel, rfl, by decide +kernel, by decide +kernel⟩
abbrev st_law_earliest : Stmt := topS 32
abbrev N_law_earliest : List Str := ["_law_tops", "_law_bottoms", "_law_found", "_law_number", "_law_place"]
theorem sc_law_earliest : FnScope N_law_earliest ["_law_tops", "_law_bottoms"] (defScope st_law_earliest) := ⟨rfl, rfl, rfl, by decide +kernel, rfl, by decide +kernel, by decide +kernel⟩
abbrev st_law_led : Stmt := topS 31
abbrev N_law_led : List Str := ["_law_row_here", "_law_tops", "_law_found", "_law_bottom"]
theorem sc_law_led : FnScope N_law_led ["_law_row_here", "_law_tops"] (defScope st_law_led) := ⟨rfl, rfl, rfl, by decide +kernel, rfl, by decide +kernel, by decide +kernel⟩
abbrev st_is_integer : Stmt := topS 1
abbrev N_is_integer : List Str := ["value"]
theorem sc_is_integer : FnScope N_is_integer ["value"] (defScope st_is_integer) := ⟨rfl, rfl, rfl, by decide +kernel, rfl, by decide +kernel, by decide +kernel⟩
abbrev st_is_numbers : Stmt := topS 3
abbrev N_is_numbers : List Str := ["value", "part"]
theorem sc_is_numbers : FnScope N_is_numbers ["value"] (defScope st_is_numbers) := ⟨rfl, rfl, rfl, by decide +kernel, rfl, by decide +kernel, by decide +kernel⟩
abbrev st_is_wiring : Stmt := topS 13
abbrev N_is_wiring : List Str := ["value"]
theorem sc_is_wiring : FnScope N_is_wiring ["value"] (defScope st_is_wiring) := ⟨rfl, rfl, rfl, by decide +kernel, rfl, by decide +kernel, by decide +kernel⟩
abbrev st_need_wiring : Stmt := topS 14
abbrev N_need_wiring : List Str := ["value", "part"]
theorem sc_need_wiring : FnScope N_need_wiring ["value", "part"] (defScope st_need_wiring) := ⟨rfl, rfl, rfl, by decide +kernel, rfl, by decide +kernel, by decide +kernel⟩
abbrev st_is_within : Stmt := topS 2
abbrev N_is_within : List Str := ["value", "least", "most"]
theorem sc_is_within : FnScope N_is_within ["value", "least", "most"] (defScope st_is_within) := ⟨rfl, rfl, rfl, by decide +kernel, rfl, by decide +kernel, by decide +kernel⟩
abbrev st_is_size : Stmt := topS 4
abbrev N_is_size : List Str := ["value"]
theorem sc_is_size : FnScope N_is_size ["value"] (defScope st_is_size) := ⟨rfl, rfl, rfl, by decide +kernel, rfl, by decide +kernel, by decide +kernel⟩
abbrev st_need_size : Stmt := topS 20
abbrev N_need_size : List Str := ["value"]
theorem sc_need_size : FnScope N_need_size ["value"] (defScope st_need_size) := ⟨rfl, rfl, rfl, by decide +kernel, rfl, by decide +kernel, by decide +kernel⟩
abbrev st_colours_of : Stmt := topS 21
abbrev N_colours_of : List Str := ["row", "found", "top", "bottom", "ahead"]
theorem sc_colours_of : FnScope N_colours_of ["row"] (defScope st_colours_of) := ⟨rfl, rfl, rfl, by decide +kernel, rfl, by decide +kernel, by decide +kernel⟩
abbrev st_are_kept : Stmt := topS 22
abbrev N_are_kept : List Str := ["row", "size"]
theorem sc_are_kept : FnScope N_are_kept ["row", "size"] (defScope st_are_kept) := ⟨rfl, rfl, rfl, by decide +kernel, rfl, by decide +kernel, by decide +kernel⟩
abbrev st_is_kept : Stmt := topS 25
abbrev N_is_kept : List Str := ["row", "size", "told"]
theorem sc_is_kept : FnScope N_is_kept ["row", "size"] (defScope st_is_kept) := ⟨rfl, rfl, rfl, by decide +kernel, rfl, by decide +kernel, by decide +kernel⟩
abbrev st_law_small_right : Stmt := topS 33
abbrev N_law_small_right : List Str := ["_law_cup_here", "_law_wires", "_law_size", "_law_row_here", "_law_best", "_law_setting"]
theorem sc_law_small_right : FnScope N_law_small_right ["_law_cup_here"] (defScope st_law_small_right) := ⟨rfl, rfl, rfl, by decide +kernel, rfl, by decide +kernel, by decide +kernel⟩
abbrev st_back_of : Stmt := topS 16
abbrev N_back_of : List Str := ["row", "found", "top", "bottom"]
theorem sc_back_of : FnScope N_back_of ["row"] (defScope st_back_of) := ⟨rfl, rfl, rfl, by decide +kernel, rfl, by decide +kernel, by decide +kernel⟩
abbrev st_led_by : Stmt := topS 17
abbrev N_led_by : List Str := ["row", "setting", "top"]
theorem sc_led_by : FnScope N_led_by ["row", "setting"] (defScope st_led_by) := ⟨rfl, rfl, rfl, by decide +kernel, rfl, by decide +kernel, by decide +kernel⟩
abbrev st_is_setting : Stmt := topS 5
abbrev N_is_setting : List Str := ["value", "many", "part"]
theorem sc_is_setting : FnScope N_is_setting ["value", "many"] (defScope st_is_setting) := ⟨rfl, rfl, rfl, by decide +kernel, rfl, by decide +kernel, by decide +kernel⟩
abbrev st_need_setting : Stmt := topS 15
abbrev N_need_setting : List Str := ["value", "many", "part"]
theorem sc_need_setting : FnScope N_need_setting ["value", "many", "part"] (defScope st_need_setting) := ⟨rfl, rfl, rfl, by decide +kernel, rfl, by decide +kernel, by decide +kernel⟩
abbrev st_led : Stmt := topS 18
abbrev N_led : List Str := ["row", "setting", "told"]
theorem sc_led : FnScope N_led ["row", "setting"] (defScope st_led) := ⟨rfl, rfl, rfl, by decide +kernel, rfl, by decide +kernel, by decide +kernel⟩
abbrev st_settings_by : Stmt := topS 23
abbrev N_settings_by : List Str := ["row", "told"]
theorem sc_settings_by : FnScope N_settings_by ["row"] (defScope st_settings_by) := ⟨rfl, rfl, rfl, by decide +kernel, rfl, by decide +kernel, by decide +kernel⟩
abbrev st_settings_of : Stmt := topS 24
abbrev N_settings_of : List Str := ["row"]
theorem sc_settings_of : FnScope N_settings_of ["row"] (defScope st_settings_of) := ⟨rfl, rfl, rfl, by decide +kernel, rfl, by decide +kernel, by decide +kernel⟩
abbrev st_law_great_right : Stmt := topS 34
abbrev N_law_great_right : List Str := ["_law_cup_here", "_law_size", "_law_row_here", "_law_tops", "_law_bottoms", "_law_first", "_law_pair", "_law_top", "_law_number"]
theorem sc_law_great_right : FnScope N_law_great_right ["_law_cup_here"] (defScope st_law_great_right) := ⟨rfl, rfl, rfl, by decide +kernel, rfl, by decide +kernel, by decide +kernel⟩
abbrev st_law : Stmt := topS 35
abbrev N_law : List Str := ["_law_script", "_law_cup_here", "_law_lap"]
theorem sc_law : FnScope N_law ["_law_script"] (defScope st_law) := ⟨rfl, rfl, rfl, by decide +kernel, rfl, by decide +kernel, by decide +kernel⟩
def b_law_scoop : SF := seqF (ifF (tst (op2 gtA (opE (nibGet 0 2)) (opE (con (.int 0))))) (seqF (setF 2 (nibGet 0 2)) (seqF (nibSet 0 2 (opE (op2 fdivT (opE (opN intN (consA (var 2) (nilA)))) (var 1)))) (retF (op2 modT (opE (opN intN (consA (var 2) (nilA)))) (var 1))))) (nxF)) (seqF (setF 3 (nibGet 0 1)) (seqF (nibSet 0 1 (opE (op2 addT (var 3) (opE (con (.int 1)))))) (seqF (setF 4 (op2 addT (opE (op2 mulT (opE (con (.int 81083))) (var 3))) (opE (con (.int 4583))))) (seqF (ifF (tst (op2 neT (opE (nibGet 0 0)) (opE (lstF (nilA))))) (setF 4 (op2 ixT (opE (nibGet 0 0)) (opE (op2 modT (opE (opN intN (consA (var 3) (nilA)))) (opE (opN lenN (consA (opE (nibGet 0 0)) (nilA)))))))) (nxF)) (seqF (ifF (andT (tst (op2 ltA (var 3) (opE (opN lenN (consA (opE (nibGet 0 0)) (nilA)))))) (tst (op2 geT (opE (opN absN (consA (var 4) (nilA)))) (opE (op2 powT (opE (con (.int 10))) (opE (con (.int 18)))))))) (seqF (setF 2 (op2 addT (opE (op2 mulT (opE (con (.int 2))) (opE (op2 subT (opE (opN absN (consA (var 4) (nilA)))) (opE (op2 powT (opE (con (.int 10))) (opE (con (.int 18))))))))) (opE (opN intN (consA (opE (op2 ltA (var 4) (opE (con (.int 0))))) (nilA)))))) (seqF (nibSet 0 2 (opE (op2 fdivT (opE (opN intN (consA (var 2) (nilA)))) (var 1)))) (retF (op2 modT (opE (opN intN (consA (var 2) (nilA)))) (var 1))))) (nxF)) (seqF (setF 5 (op2 modT (opE (opN intN (consA (opE (op2 powT (opE (op2 addT (opE (op2 addT (opE (op2 modT (opE (opN intN (consA (var 4) (nilA)))) (opE (con (.int 2147483543))))) (opE (op2 mulT (opE (con (.int 61469))) (var 3))))) (opE (con (.int 4583))))) (opE (con (.int 5))))) (nilA)))) (opE (con (.int 2147483323))))) (seqF (setF 5 (op2 modT (opE (opN intN (consA (opE (op2 powT (opE (op2 addT (opE (op2 addT (opE (op2 mulT (var 5) (opE (op2 addT (opE (op2 mulT (opE (con (.int 2))) (var 3))) (opE (con (.int 2543))))))) (opE (op2 mulT (opE (op2 mulT (opE (con (.int 81083))) (var 3))) (var 3))))) (opE (con (.int 61469))))) (opE (con (.int 3))))) (nilA)))) (opE (con (.int 2147483549))))) (retF (op2 modT (opE (opN intN (consA (opE (op2 fdivT (var 5) (opE (con (.int 64))))) (nilA)))) (var 1))))))))))
def f_law_scoop : Fn := fnOf N_law_scoop.length b_law_scoop
def b_law_row : SF := seqF (parF 2 3 (op1 lrg1 (var 1)) (lstF (nilA))) (seqF (forF (rngI1 (opE (varE 1))) (.nm 4) (dropF (methF 3 apP (consA (opE (methF 2 popAtP (consA (opE (callF 2 f_law_scoop (consA (opE (varE 0)) (consA (opE (opN lenN (consA (var 2) (nilA)))) (nilA))))) (nilA)))) (nilA))))) (retF (opN tupleN (consA (var 3) (nilA)))))
def f_law_row : Fn := fnOf N_law_row.length b_law_row
def b_law_settings : SF := seqF (setF 2 (lstF (consA (opE (tupF (nilA))) (nilA)))) (seqF (forF (rngI1 (opE (varE 0))) (.nm 3) (seqF (setF 4 (lstF (nilA))) (seqF (forF (seqI (opE (varE 2))) (.nm 5) (dropF (methF 4 exP (consA (opE (compF [6] (rngI1 (opE (varE 1))) (.nm 6) (yesT) (op2 addT (var 5) (opE (tupF (consA (opE (varE 6)) (nilA))))))) (nilA))))) (setF 2 (varE 4))))) (retF (varR 2)))
def f_law_settings : Fn := fnOf N_law_settings.length b_law_settings
def b_law_earliest : SF := seqF (setF 2 (lstF (nilA))) (seqF (forF (seqI (opE (varE 0))) (.nm 3) (dropF (methF 2 apP (consA (opE (op2 ixT (opE (compF [4] (rngI1 (opE (opN lenN (consA (var 1) (nilA))))) (.nm 4) (andT (tst (op2 eqT (opE (op2 ixT (var 1) (var 4))) (var 3))) (tst (op2 (inT true) (var 4) (var 2)))) (varE 4))) (opE (con (.int 0))))) (nilA))))) (retF (opN tupleN (consA (var 2) (nilA)))))
def f_law_earliest : Fn := fnOf N_law_earliest.length b_law_earliest
def b_law_led : SF := seqF (setF 2 (lstF (nilA))) (seqF (forF (rngI1 (opE (opN lenN (consA (var 0) (nilA))))) (.nm 3) (dropF (methF 2 apP (consA (opE (op2 ixT (var 1) (opE (idxF (var 0) (var 3))))) (nilA))))) (retF (varR 2)))
def f_law_led : Fn := fnOf N_law_led.length b_law_led
def b_is_integer : SF := retF (andE (op1 (isN ["int"]) (var 0)) (notE (op1 (isN ["bool"]) (var 0))))
def f_is_integer : Fn := fnOf N_is_integer.length b_is_integer
def b_is_numbers : SF := retF (andE (op1 (isN ["list", "tuple"]) (var 0)) (opN allN (consA (opE (compF [1] (seqI (opE (varE 0))) (.nm 1) (yesT) (callF 1 f_is_integer (consA (opE (varE 1)) (nilA))))) (nilA))))
def f_is_numbers : Fn := fnOf N_is_numbers.length b_is_numbers
def b_is_wiring : SF := seqF (ifF (orT (notT (tst (callF 1 f_is_numbers (consA (opE (varE 0)) (nilA))))) (notT (tst (chn leT leT (opE (con (.int 1))) (opE (opN lenN (consA (var 0) (nilA)))) (opE (con (.int 6))))))) (retF (con (.bl false))) (nxF)) (retF (op2 eqT (opE (opN sortedN (consA (var 0) (nilA)))) (opE (op1 lrg1 (opE (opN lenN (consA (var 0) (nilA))))))))
def f_is_wiring : Fn := fnOf N_is_wiring.length b_is_wiring
def b_need_wiring : SF := seqF (ifF (notT (tst (callF 1 f_is_wiring (consA (opE (varE 0)) (nilA))))) (stuckF) (nxF)) (retF (opN tupleN (consA (var 0) (nilA))))
def f_need_wiring : Fn := fnOf N_need_wiring.length b_need_wiring
def b_is_within : SF := seqF (ifF (orT (notT (tst (callF 1 f_is_integer (consA (opE (varE 0)) (nilA))))) (andT (tst (op2 (isT true) (var 1) (opE (con .non)))) (tst (op2 ltA (var 0) (var 1))))) (retF (con (.bl false))) (nxF)) (retF (orE (op2 (isT false) (var 2) (opE (con .non))) (op2 leT (var 0) (var 2))))
def f_is_within : Fn := fnOf N_is_within.length b_is_within
def b_is_size : SF := retF (callF 3 f_is_within (consA (opE (varE 0)) (consA (opE (con (.int 1))) (consA (opE (con .non)) (nilA)))))
def f_is_size : Fn := fnOf N_is_size.length b_is_size
def b_need_size : SF := ifF (notT (tst (callF 1 f_is_size (consA (opE (varE 0)) (nilA))))) (stuckF) (nxF)
def f_need_size : Fn := fnOf N_need_size.length b_need_size
def b_colours_of : SF := seqF (setF 1 (lstF (nilA))) (seqF (forF (enumI (opE (varE 0))) (.tp [2, 3]) (dropF (methF 1 apP (consA (opE (op2 maxDfT (opE (compF [4] (rngI1 (opE (varE 2))) (.nm 4) (tst (op2 gtA (opE (op2 ixT (var 0) (var 4))) (var 3))) (op2 addT (opE (con (.int 1))) (opE (op2 ixT (var 1) (var 4)))))) (opE (con (.int 0))))) (nilA))))) (retF (opN tupleN (consA (var 1) (nilA)))))
def f_colours_of : Fn := fnOf N_colours_of.length b_colours_of
def b_are_kept : SF := retF (op2 ltA (opE (opN maxAN (consA (opE (callF 1 f_colours_of (consA (opE (varE 0)) (nilA)))) (nilA)))) (var 1))
def f_are_kept : Fn := fnOf N_are_kept.length b_are_kept
def b_is_kept : SF := seqF (setF 2 (callF 2 f_need_wiring (consA (opE (varE 0)) (consA (opE (con (.str "row"))) (nilA))))) (seqF (dropF (callF 1 f_need_size (consA (opE (varE 1)) (nilA)))) (retF (callF 2 f_are_kept (consA (opE (varE 2)) (consA (opE (varE 1)) (nilA))))))
def f_is_kept : Fn := fnOf N_is_kept.length b_is_kept
def b_law_small_right : SF := seqF (asgF (.tp [1, 2]) (opE (op2 ixT (opE (lstF (consA (opE (tupF (consA (opE (con (.int 4))) (consA (opE (con (.int 3))) (nilA))))) (consA (opE (tupF (consA (opE (con (.int 3))) (consA (opE (con (.int 2))) (nilA))))) (consA (opE (tupF (consA (opE (con (.int 4))) (consA (opE (con (.int 2))) (nilA))))) (consA (opE (tupF (consA (opE (con (.int 5))) (consA (opE (con (.int 2))) (nilA))))) (consA (opE (tupF (consA (opE (con (.int 3))) (consA (opE (con (.int 3))) (nilA))))) (consA (opE (tupF (consA (opE (con (.int 2))) (consA (opE (con (.int 1))) (nilA))))) (consA (opE (tupF (consA (opE (con (.int 5))) (consA (opE (con (.int 3))) (nilA))))) (consA (opE (tupF (consA (opE (con (.int 4))) (consA (opE (con (.int 1))) (nilA))))) (consA (opE (tupF (consA (opE (con (.int 1))) (consA (opE (con (.int 1))) (nilA))))) (consA (opE (tupF (consA (opE (con (.int 2))) (consA (opE (con (.int 2))) (nilA))))) (consA (opE (tupF (consA (opE (con (.int 3))) (consA (opE (con (.int 1))) (nilA))))) (nilA)))))))))))))) (opE (callF 2 f_law_scoop (consA (opE (varE 0)) (consA (opE (con (.int 11))) (nilA)))))))) (seqF (setF 3 (callF 2 f_law_row (consA (opE (varE 0)) (consA (opE (varE 1)) (nilA))))) (seqF (setF 4 (compF [5] (seqI (opE (callF 2 f_law_settings (consA (opE (varE 1)) (consA (opE (varE 2)) (nilA)))))) (.nm 5) (tst (op2 eqT (opE (callF 2 f_law_earliest (consA (opE (varE 5)) (consA (opE (callF 2 f_law_led (consA (opE (varE 3)) (consA (opE (varE 5)) (nilA))))) (nilA))))) (var 3))) (varE 5))) (retF (op2 eqT (opE (opN reprN (consA (opE (callF 2 f_is_kept (consA (opE (varE 3)) (consA (opE (varE 2)) (nilA))))) (nilA)))) (opE (opN reprN (consA (opE (op2 neT (var 4) (opE (lstF (nilA))))) (nilA))))))))
def f_law_small_right : Fn := fnOf N_law_small_right.length b_law_small_right
def b_back_of : SF := seqF (setF 1 (opN listN (consA (var 0) (nilA)))) (seqF (forF (enumI (opE (varE 0))) (.tp [2, 3]) (setIF 1 (opE (varE 2)) (opE (varE 3)))) (retF (opN tupleN (consA (var 1) (nilA)))))
def f_back_of : Fn := fnOf N_back_of.length b_back_of
def b_led_by : SF := retF (opN tupleN (consA (opE (compF [2] (seqI (opE (callF 1 f_back_of (consA (opE (varE 0)) (nilA))))) (.nm 2) (yesT) (op2 ixT (var 1) (var 2)))) (nilA)))
def f_led_by : Fn := fnOf N_led_by.length b_led_by
def b_is_setting : SF := retF (andE (callF 1 f_is_numbers (consA (opE (varE 0)) (nilA))) (andE (op2 eqT (opE (opN lenN (consA (var 0) (nilA)))) (var 1)) (opN allN (consA (opE (compF [2] (seqI (opE (varE 0))) (.nm 2) (yesT) (op2 geT (var 2) (opE (con (.int 0)))))) (nilA)))))
def f_is_setting : Fn := fnOf N_is_setting.length b_is_setting
def b_need_setting : SF := seqF (ifF (notT (tst (callF 2 f_is_setting (consA (opE (varE 0)) (consA (opE (varE 1)) (nilA)))))) (stuckF) (nxF)) (retF (opN tupleN (consA (var 0) (nilA))))
def f_need_setting : Fn := fnOf N_need_setting.length b_need_setting
def b_led : SF := seqF (setF 2 (callF 2 f_need_wiring (consA (opE (varE 0)) (consA (opE (con (.str "row"))) (nilA))))) (retF (callF 2 f_led_by (consA (opE (varE 2)) (consA (opE (callF 3 f_need_setting (consA (opE (varE 1)) (consA (opE (opN lenN (consA (var 2) (nilA)))) (consA (opE (con (.str "setting"))) (nilA)))))) (nilA)))))
def f_led : Fn := fnOf N_led.length b_led
def b_settings_by : SF := seqF (setF 1 (callF 1 f_colours_of (consA (opE (varE 0)) (nilA)))) (retF (tupF (consA (opE (varE 1)) (consA (opE (callF 2 f_led_by (consA (opE (varE 0)) (consA (opE (varE 1)) (nilA))))) (nilA)))))
def f_settings_by : Fn := fnOf N_settings_by.length b_settings_by
def b_settings_of : SF := retF (callF 1 f_settings_by (consA (opE (callF 2 f_need_wiring (consA (opE (varE 0)) (consA (opE (con (.str "row"))) (nilA))))) (nilA)))
def f_settings_of : Fn := fnOf N_settings_of.length b_settings_of
def b_law_great_right : SF := seqF (setF 1 (op2 addT (opE (con (.int 1))) (opE (callF 2 f_law_scoop (consA (opE (varE 0)) (consA (opE (con (.int 4))) (nilA))))))) (seqF (parF 2 3 (callF 2 f_law_row (consA (opE (varE 0)) (consA (opE (con (.int 6))) (nilA)))) (compF [7] (rngI1 (opE (con (.int 6)))) (.nm 7) (yesT) (callF 2 f_law_scoop (consA (opE (varE 0)) (consA (opE (varE 1)) (nilA)))))) (seqF (setF 4 (callF 2 f_led (consA (opE (varE 2)) (consA (opE (varE 3)) (nilA))))) (seqF (setF 5 (callF 2 f_law_earliest (consA (opE (varE 3)) (consA (opE (varE 4)) (nilA))))) (seqF (ifF (orT (notT (tst (op1 (isN ["tuple"]) (var 4)))) (orT (tst (op2 neT (opE (opN listN (consA (var 4) (nilA)))) (opE (callF 2 f_law_led (consA (opE (varE 2)) (consA (opE (varE 3)) (nilA))))))) (orT (tst (op2 gtA (var 5) (var 2))) (orT (tst (op2 (isT true) (opE (callF 2 f_is_kept (consA (opE (varE 5)) (consA (opE (varE 1)) (nilA))))) (opE (con (.bl true))))) (tst (op2 neT (opE (callF 2 f_led (consA (opE (varE 5)) (consA (opE (varE 3)) (nilA))))) (var 4))))))) (retF (con (.bl false))) (nxF)) (seqF (ifF (notT (tst (callF 2 f_is_kept (consA (opE (varE 2)) (consA (opE (varE 1)) (nilA)))))) (retF (op2 ltA (var 5) (var 2))) (nxF)) (seqF (setF 6 (callF 1 f_settings_of (consA (opE (varE 2)) (nilA)))) (seqF (ifF (orT (tst (op2 neT (opE (compF [8] (seqI (opE (op2 addT (opE (op2 ixT (var 6) (opE (con (.int 0))))) (opE (op2 ixT (var 6) (opE (con (.int 1)))))))) (.nm 8) (notT (tst (chn leT ltA (opE (con (.int 0))) (var 8) (var 1)))) (varE 8))) (opE (lstF (nilA))))) (tst (op2 neT (opE (callF 2 f_law_earliest (consA (opE (op2 ixT (var 6) (opE (con (.int 0))))) (consA (opE (op2 ixT (var 6) (opE (con (.int 1))))) (nilA))))) (var 2)))) (retF (con (.bl false))) (nxF)) (retF (andE (op2 (isT false) (opE (callF 2 f_is_kept (consA (opE (varE 2)) (consA (opE (op2 addT (var 1) (opE (con (.int 1))))) (nilA))))) (opE (con (.bl true)))) (op2 (isT false) (opE (callF 2 f_is_kept (consA (opE (varE 2)) (consA (opE (con (.int 6))) (nilA))))) (opE (con (.bl true)))))))))))))
def f_law_great_right : Fn := fnOf N_law_great_right.length b_law_great_right
def b_law : SF := seqF (forF (rngI1 (opE (con (.int 3)))) (.nm 2) (ifF (orT (notT (tst (callF 1 f_law_small_right (consA (opE (varE 1)) (nilA))))) (notT (tst (callF 1 f_law_great_right (consA (opE (varE 1)) (nilA)))))) (retF (con (.bl false))) (nxF))) (retF (con (.bl true)))
structure Tab (K : PySem.W.Frag) (mg : Str → Option Value) where
  a_law_cup : Addr
  d_law_cup : FuncData
  F_law_cup : Fun K "_law_cup" "_law_cup" st_law_cup a_law_cup d_law_cup
  m_law_cup : mg "_law_cup" = some (.ref a_law_cup)
  b_law_cup : Binds K d_law_cup ["_law_script"] []
  a_law_scoop : Addr
  d_law_scoop : FuncData
  F_law_scoop : Fun K "_law_scoop" "_law_scoop" st_law_scoop a_law_scoop d_law_scoop
  m_law_scoop : mg "_law_scoop" = some (.ref a_law_scoop)
  b_law_scoop : Binds K d_law_scoop ["_law_cup_here", "_law_many"] []
  a_law_row : Addr
  d_law_row : FuncData
  F_law_row : Fun K "_law_row" "_law_row" st_law_row a_law_row d_law_row
  m_law_row : mg "_law_row" = some (.ref a_law_row)
  b_law_row : Binds K d_law_row ["_law_cup_here", "_law_wires"] []
  a_law_settings : Addr
  d_law_settings : FuncData
  F_law_settings : Fun K "_law_settings" "_law_settings" st_law_settings a_law_settings d_law_settings
  m_law_settings : mg "_law_settings" = some (.ref a_law_settings)
  b_law_settings : Binds K d_law_settings ["_law_wires", "_law_size"] []
  a_law_earliest : Addr
  d_law_earliest : FuncData
  F_law_earliest : Fun K "_law_earliest" "_law_earliest" st_law_earliest a_law_earliest d_law_earliest
  m_law_earliest : mg "_law_earliest" = some (.ref a_law_earliest)
  b_law_earliest : Binds K d_law_earliest ["_law_tops", "_law_bottoms"] []
  a_law_led : Addr
  d_law_led : FuncData
  F_law_led : Fun K "_law_led" "_law_led" st_law_led a_law_led d_law_led
  m_law_led : mg "_law_led" = some (.ref a_law_led)
  b_law_led : Binds K d_law_led ["_law_row_here", "_law_tops"] []
  a_is_integer : Addr
  d_is_integer : FuncData
  F_is_integer : Fun K "is_integer" "is_integer" st_is_integer a_is_integer d_is_integer
  m_is_integer : mg "is_integer" = some (.ref a_is_integer)
  b_is_integer : Binds K d_is_integer ["value"] []
  a_is_numbers : Addr
  d_is_numbers : FuncData
  F_is_numbers : Fun K "is_numbers" "is_numbers" st_is_numbers a_is_numbers d_is_numbers
  m_is_numbers : mg "is_numbers" = some (.ref a_is_numbers)
  b_is_numbers : Binds K d_is_numbers ["value"] []
  a_is_wiring : Addr
  d_is_wiring : FuncData
  F_is_wiring : Fun K "is_wiring" "is_wiring" st_is_wiring a_is_wiring d_is_wiring
  m_is_wiring : mg "is_wiring" = some (.ref a_is_wiring)
  b_is_wiring : Binds K d_is_wiring ["value"] []
  a_need_wiring : Addr
  d_need_wiring : FuncData
  F_need_wiring : Fun K "need_wiring" "need_wiring" st_need_wiring a_need_wiring d_need_wiring
  m_need_wiring : mg "need_wiring" = some (.ref a_need_wiring)
  b_need_wiring : Binds K d_need_wiring ["value", "part"] []
  a_is_within : Addr
  d_is_within : FuncData
  F_is_within : Fun K "is_within" "is_within" st_is_within a_is_within d_is_within
  m_is_within : mg "is_within" = some (.ref a_is_within)
  b_is_within : Binds K d_is_within ["value", "least", "most"] []
  a_is_size : Addr
  d_is_size : FuncData
  F_is_size : Fun K "is_size" "is_size" st_is_size a_is_size d_is_size
  m_is_size : mg "is_size" = some (.ref a_is_size)
  b_is_size : Binds K d_is_size ["value"] []
  a_need_size : Addr
  d_need_size : FuncData
  F_need_size : Fun K "need_size" "need_size" st_need_size a_need_size d_need_size
  m_need_size : mg "need_size" = some (.ref a_need_size)
  b_need_size : Binds K d_need_size ["value"] []
  a_colours_of : Addr
  d_colours_of : FuncData
  F_colours_of : Fun K "colours_of" "colours_of" st_colours_of a_colours_of d_colours_of
  m_colours_of : mg "colours_of" = some (.ref a_colours_of)
  b_colours_of : Binds K d_colours_of ["row"] []
  a_are_kept : Addr
  d_are_kept : FuncData
  F_are_kept : Fun K "are_kept" "are_kept" st_are_kept a_are_kept d_are_kept
  m_are_kept : mg "are_kept" = some (.ref a_are_kept)
  b_are_kept : Binds K d_are_kept ["row", "size"] []
  a_is_kept : Addr
  d_is_kept : FuncData
  F_is_kept : Fun K "is_kept" "is_kept" st_is_kept a_is_kept d_is_kept
  m_is_kept : mg "is_kept" = some (.ref a_is_kept)
  b_is_kept : Binds K d_is_kept ["row", "size"] []
  a_law_small_right : Addr
  d_law_small_right : FuncData
  F_law_small_right : Fun K "_law_small_right" "_law_small_right" st_law_small_right a_law_small_right d_law_small_right
  m_law_small_right : mg "_law_small_right" = some (.ref a_law_small_right)
  b_law_small_right : Binds K d_law_small_right ["_law_cup_here"] []
  a_back_of : Addr
  d_back_of : FuncData
  F_back_of : Fun K "back_of" "back_of" st_back_of a_back_of d_back_of
  m_back_of : mg "back_of" = some (.ref a_back_of)
  b_back_of : Binds K d_back_of ["row"] []
  a_led_by : Addr
  d_led_by : FuncData
  F_led_by : Fun K "led_by" "led_by" st_led_by a_led_by d_led_by
  m_led_by : mg "led_by" = some (.ref a_led_by)
  b_led_by : Binds K d_led_by ["row", "setting"] []
  a_is_setting : Addr
  d_is_setting : FuncData
  F_is_setting : Fun K "is_setting" "is_setting" st_is_setting a_is_setting d_is_setting
  m_is_setting : mg "is_setting" = some (.ref a_is_setting)
  b_is_setting : Binds K d_is_setting ["value", "many"] []
  a_need_setting : Addr
  d_need_setting : FuncData
  F_need_setting : Fun K "need_setting" "need_setting" st_need_setting a_need_setting d_need_setting
  m_need_setting : mg "need_setting" = some (.ref a_need_setting)
  b_need_setting : Binds K d_need_setting ["value", "many", "part"] []
  a_led : Addr
  d_led : FuncData
  F_led : Fun K "led" "led" st_led a_led d_led
  m_led : mg "led" = some (.ref a_led)
  b_led : Binds K d_led ["row", "setting"] []
  a_settings_by : Addr
  d_settings_by : FuncData
  F_settings_by : Fun K "settings_by" "settings_by" st_settings_by a_settings_by d_settings_by
  m_settings_by : mg "settings_by" = some (.ref a_settings_by)
  b_settings_by : Binds K d_settings_by ["row"] []
  a_settings_of : Addr
  d_settings_of : FuncData
  F_settings_of : Fun K "settings_of" "settings_of" st_settings_of a_settings_of d_settings_of
  m_settings_of : mg "settings_of" = some (.ref a_settings_of)
  b_settings_of : Binds K d_settings_of ["row"] []
  a_law_great_right : Addr
  d_law_great_right : FuncData
  F_law_great_right : Fun K "_law_great_right" "_law_great_right" st_law_great_right a_law_great_right d_law_great_right
  m_law_great_right : mg "_law_great_right" = some (.ref a_law_great_right)
  b_law_great_right : Binds K d_law_great_right ["_law_cup_here"] []
  a_law : Addr
  d_law : FuncData
  F_law : Fun K "law" "law" st_law a_law d_law
  m_law : mg "law" = some (.ref a_law)
  b_law : Binds K d_law ["_law_script"] []
  z_abs : mg "abs" = none
  z_all : mg "all" = none
  z_bool : mg "bool" = none
  z_enumerate : mg "enumerate" = none
  z_int : mg "int" = none
  z_isinstance : mg "isinstance" = none
  z_len : mg "len" = none
  z_list : mg "list" = none
  z_max : mg "max" = none
  z_range : mg "range" = none
  z_repr : mg "repr" = none
  z_sorted : mg "sorted" = none
  z_tuple : mg "tuple" = none
  tk_MOST_WIRES : Tok
  c_MOST_WIRES : mg "MOST_WIRES" = some (.int 6 tk_MOST_WIRES)
end K08

end
section
set_option Elab.async false
set_option linter.all false
set_option maxRecDepth 100000
set_option autoImplicit false
set_option maxHeartbeats 0
open PySem PySem.Spec PyProof.Rows L2 TL
namespace K08
section
variable {P : Program} {w : World} {K : PySem.W.Frag} {mg : Str → Option Value} {base : Heap} {nb : Addr} {ca : Nat → Addr}
theorem ok_law_scoop (T : Tab K mg) : FnOk P w K mg base (L2.CX P w) 1 T.a_law_scoop T.d_law_scoop ["_law_cup_here", "_law_many"] (spT ⟨K, nb, ca⟩ 2 f_law_scoop) :=
  fn_ok (g := ⟨K, nb, ca⟩) (k := 0) (b := b_law_scoop) (N := N_law_scoop) (ps := ["_law_cup_here", "_law_many"]) T.F_law_scoop sc_law_scoop fun cdv A outer s H F0 E hr =>
    ds_cons (ds_if (dt_cmp (op_gtA (hu0 hr)) (p_ord rfl _ _) (do_of (de_nib (k := 2) (pv 0))) (do_of (de_con pe_int (fun _ => .int _))) (nomark _)) (ds_cons (ds_set (i := 2) sc_law_scoop.nd rfl (.inl rfl) (de_nib (k := 2) (pv 0)) (.inr rfl)) (ds_cons (ds_nib (k := 2) (pv 0) (do_of (de_bin op_fdivW p_fdiv (do_of (de_callTy call_int1 p_int (by rfl) T.z_int bt_int (da_cons (do_var (pv 2)) (da_nil)))) (do_var (pv 1))))) (ds_one (ds_ret (de_bin op_mod p_mod (do_of (de_callTy call_int1 p_int (by rfl) T.z_int bt_int (da_cons (do_var (pv 2)) (da_nil)))) (do_var (pv 1))))))) (ds_nil)) (ds_cons (ds_set (i := 3) sc_law_scoop.nd rfl (.inl rfl) (de_nib (k := 1) (pv 0)) (.inr rfl)) (ds_cons (ds_nib (k := 1) (pv 0) (do_of (de_bin op_addA (p_add rfl) (do_var (pv 3)) (do_of (de_con pe_int (fun _ => .int _)))))) (ds_cons (ds_set (i := 4) sc_law_scoop.nd rfl (.inl rfl) (de_bin op_addA (p_add rfl) (do_of (de_bin op_mulA p_mul (do_of (de_con pe_int (fun _ => .int _))) (do_var (pv 3)))) (do_of (de_con pe_int (fun _ => .int _)))) (.inr rfl)) (ds_cons (ds_if (dt_cmp (op_neD hr.units) (p_ne rfl) (do_of (de_nib (k := 0) (pv 0))) (do_of (de_lst (da_nil))) (nomark _)) (ds_one (ds_set (i := 4) sc_law_scoop.nd rfl (.inl rfl) (de_ix ix_seq (p_ix rfl) (do_of (de_nib (k := 0) (pv 0))) (do_of (de_bin op_mod p_mod (do_of (de_callTy call_int1 p_int (by rfl) T.z_int bt_int (da_cons (do_var (pv 3)) (da_nil)))) (do_of (de_callB call_len (p_len rfl) (by rfl) T.z_len bt_len (da_cons (do_of (de_nib (k := 0) (pv 0))) (da_nil)))))) (fun _ _ => rfl)) (.inr rfl))) (ds_nil)) (ds_cons (ds_if ((dw_and (dt_cmp (op_ltA (hu0 hr)) (p_ord rfl _ _) (do_var (pv 3)) (do_of (de_callB call_len (p_len rfl) (by rfl) T.z_len bt_len (da_cons (do_of (de_nib (k := 0) (pv 0))) (da_nil)))) (nomark _)) (dw_and1 (dt_cmp op_ge (p_cmp _) (do_of (de_callB call_abs p_abs (by rfl) T.z_abs bt_abs (da_cons (do_var (pv 4)) (da_nil)))) (do_of (de_bin op_pow p_pow (do_of (de_con pe_int (fun _ => .int _))) (do_of (de_con pe_int (fun _ => .int _))))) (nomark _)))).pt) (ds_cons (ds_set (i := 2) sc_law_scoop.nd rfl (.inl rfl) (de_bin op_addA (p_add rfl) (do_of (de_bin op_mulA p_mul (do_of (de_con pe_int (fun _ => .int _))) (do_of (de_bin op_sub p_sub (do_of (de_callB call_abs p_abs (by rfl) T.z_abs bt_abs (da_cons (do_var (pv 4)) (da_nil)))) (do_of (de_bin op_pow p_pow (do_of (de_con pe_int (fun _ => .int _))) (do_of (de_con pe_int (fun _ => .int _))))))))) (do_of (de_callTy call_int1 p_int (by rfl) T.z_int bt_int (da_cons (do_of (de_cmp (op_ltA (hu0 hr)) (p_ord rfl _ _) (do_var (pv 4)) (do_of (de_con pe_int (fun _ => .int _))) (nomark _))) (da_nil))))) (.inr rfl)) (ds_cons (ds_nib (k := 2) (pv 0) (do_of (de_bin op_fdivW p_fdiv (do_of (de_callTy call_int1 p_int (by rfl) T.z_int bt_int (da_cons (do_var (pv 2)) (da_nil)))) (do_var (pv 1))))) (ds_one (ds_ret (de_bin op_mod p_mod (do_of (de_callTy call_int1 p_int (by rfl) T.z_int bt_int (da_cons (do_var (pv 2)) (da_nil)))) (do_var (pv 1))))))) (ds_nil)) (ds_cons (ds_set (i := 5) sc_law_scoop.nd rfl (.inl rfl) (de_bin op_mod p_mod (do_of (de_callTy call_int1 p_int (by rfl) T.z_int bt_int (da_cons (do_of (de_bin op_pow p_pow (do_of (de_bin op_addA (p_add rfl) (do_of (de_bin op_addA (p_add rfl) (do_of (de_bin op_mod p_mod (do_of (de_callTy call_int1 p_int (by rfl) T.z_int bt_int (da_cons (do_var (pv 4)) (da_nil)))) (do_of (de_con pe_int (fun _ => .int _))))) (do_of (de_bin op_mulA p_mul (do_of (de_con pe_int (fun _ => .int _))) (do_var (pv 3)))))) (do_of (de_con pe_int (fun _ => .int _))))) (do_of (de_con pe_int (fun _ => .int _))))) (da_nil)))) (do_of (de_con pe_int (fun _ => .int _)))) (.inr rfl)) (ds_cons (ds_set (i := 5) sc_law_scoop.nd rfl (.inl rfl) (de_bin op_mod p_mod (do_of (de_callTy call_int1 p_int (by rfl) T.z_int bt_int (da_cons (do_of (de_bin op_pow p_pow (do_of (de_bin op_addA (p_add rfl) (do_of (de_bin op_addA (p_add rfl) (do_of (de_bin op_mulA p_mul (do_var (pv 5)) (do_of (de_bin op_addA (p_add rfl) (do_of (de_bin op_mulA p_mul (do_of (de_con pe_int (fun _ => .int _))) (do_var (pv 3)))) (do_of (de_con pe_int (fun _ => .int _))))))) (do_of (de_bin op_mulA p_mul (do_of (de_bin op_mulA p_mul (do_of (de_con pe_int (fun _ => .int _))) (do_var (pv 3)))) (do_var (pv 3)))))) (do_of (de_con pe_int (fun _ => .int _))))) (do_of (de_con pe_int (fun _ => .int _))))) (da_nil)))) (do_of (de_con pe_int (fun _ => .int _)))) (.inr rfl)) (ds_one (ds_ret (de_bin op_mod p_mod (do_of (de_callTy call_int1 p_int (by rfl) T.z_int bt_int (da_cons (do_of (de_bin op_fdivW p_fdiv (do_var (pv 5)) (do_of (de_con pe_int (fun _ => .int _))))) (da_nil)))) (do_var (pv 1))))))))))))
end
end K08

end
section
set_option Elab.async false
set_option linter.all false
set_option maxRecDepth 100000
set_option autoImplicit false
set_option maxHeartbeats 0
open PySem PySem.Spec PyProof.Rows L2 TL
namespace K08
section
variable {P : Program} {w : World} {K : PySem.W.Frag} {mg : Str → Option Value} {base : Heap} {nb : Addr} {ca : Nat → Addr}
theorem ok_law_row (T : Tab K mg) : FnOk P w K mg base (L2.CX P w) 2 T.a_law_row T.d_law_row ["_law_cup_here", "_law_wires"] (spT ⟨K, nb, ca⟩ 2 f_law_row) :=
  fn_ok (g := ⟨K, nb, ca⟩) (k := 1) (b := b_law_row) (N := N_law_row) (ps := ["_law_cup_here", "_law_wires"]) T.F_law_row sc_law_row fun cdv A outer s H F0 E hr =>
    ds_cons (ds_par rfl sc_law_row.nd rfl rfl (by decide) rfl rfl (de_lrg1 rfl (by rfl) T.z_list (by rfl) T.z_range (do_var (pv 1))) (de_lst (da_nil)) (by rfl)) (ds_cons (ds_for (passes_of rfl) rfl (di_rng1 (by rfl) T.z_range (do_of (de_var (pv 1)))) (dg_nm (pg_name (i := 4) sc_law_row.nd rfl (by first | exact .inl rfl | exact .inr rfl))) (ds_one (ds_expr (by refine de_meth PySem.F.slot_list_append PySem.F.type_list_append mt_append p_append (pv 3) ?_; exact (da_cons (do_of (by refine de_meth PySem.F.slot_list_pop PySem.F.type_list_pop mt_popAt p_popAt (pv 2) ?_; exact (da_cons (do_of (by exact de_call (ps := ["_law_cup_here", "_law_many"]) (fn := f_law_scoop) (ok_law_scoop T) (hr.mono (by decide)) (by rfl) T.m_law_scoop T.F_law_scoop.kp T.b_law_scoop (pass_own rfl rfl rfl rfl) (da_cons (do_of (de_var (pv 0))) (da_cons (do_of (de_callB call_len (p_len rfl) (by rfl) T.z_len bt_len (da_cons (do_var (pv 2)) (da_nil)))) (da_nil))))) (da_nil)))) (da_nil)))))) (ds_one (ds_ret (de_callTy call_tuple_ofF (p_tuple rfl) (by rfl) T.z_tuple bt_tuple (da_cons (do_var (pv 3)) (da_nil))))))
end
end K08

end
section
set_option Elab.async false
set_option linter.all false
set_option maxRecDepth 100000
set_option autoImplicit false
set_option maxHeartbeats 0
open PySem PySem.Spec PyProof.Rows L2 TL
namespace K08
section
variable {P : Program} {w : World} {K : PySem.W.Frag} {mg : Str → Option Value} {base : Heap} {nb : Addr} {ca : Nat → Addr}
theorem ok_law_settings (T : Tab K mg) : FnOk P w K mg base (L2.CX P w) 1 T.a_law_settings T.d_law_settings ["_law_wires", "_law_size"] (spT ⟨K, nb, ca⟩ 2 f_law_settings) :=
  fn_ok (g := ⟨K, nb, ca⟩) (k := 0) (b := b_law_settings) (N := N_law_settings) (ps := ["_law_wires", "_law_size"]) T.F_law_settings sc_law_settings fun cdv A outer s H F0 E hr =>
    ds_cons (ds_set (i := 2) sc_law_settings.nd rfl (.inl rfl) (de_lst (da_cons (do_of (de_tup (da_nil))) (da_nil))) (.inr rfl)) (ds_cons (ds_for (passes_of rfl) rfl (di_rng1 (by rfl) T.z_range (do_of (de_var (pv 0)))) (dg_nm (pg_name (i := 3) sc_law_settings.nd rfl (by first | exact .inl rfl | exact .inr rfl))) (ds_cons (ds_set (i := 4) sc_law_settings.nd rfl (.inl rfl) (de_lst (da_nil)) (.inr rfl)) (ds_cons (ds_for (passes_of rfl) rfl (di_seq rfl (do_of (de_var (pv 2)))) (dg_nm (pg_name (i := 5) sc_law_settings.nd rfl (by first | exact .inl rfl | exact .inr rfl))) (ds_one (ds_expr (by refine de_meth PySem.F.slot_list_extend PySem.F.type_list_extend mt_extend p_extend (pv 4) ?_; exact (da_cons (do_of (by exact de_comp (own := [("_law_number", 6)]) rfl sc_law_settings.nd (di_rng1 (by rfl) T.z_range (do_of (de_var (pv 1)))) (blkOk_by (own := [("_law_number", 6)]) (N := N_law_settings) (sc := defScope st_law_settings) (by decide +kernel)) (fun _ _ _ _ _ => dg_nm (pg_name (i := 6) sc_law_settings.nd rfl (by first | exact .inl rfl | exact .inr rfl))) (fun _ _ _ _ _ => dts_nil) (fun _ _ _ _ _ => de_bin op_addA (p_add rfl) (do_var (pv 5)) (do_of (de_tup (da_cons (do_of (de_var (pv 6))) (da_nil))))))) (da_nil)))))) (ds_one (ds_set (i := 2) sc_law_settings.nd rfl (.inl rfl) (de_var (pv 4)) (.inr rfl)))))) (ds_one (ds_ret (de_varR (pv 2)))))
end
end K08

end
section
set_option Elab.async false
set_option linter.all false
set_option maxRecDepth 100000
set_option autoImplicit false
set_option maxHeartbeats 0
open PySem PySem.Spec PyProof.Rows L2 TL
namespace K08
section
variable {P : Program} {w : World} {K : PySem.W.Frag} {mg : Str → Option Value} {base : Heap} {nb : Addr} {ca : Nat → Addr}
theorem ok_law_earliest (T : Tab K mg) : FnOk P w K mg base (L2.CX P w) 1 T.a_law_earliest T.d_law_earliest ["_law_tops", "_law_bottoms"] (spT ⟨K, nb, ca⟩ 2 f_law_earliest) :=
  fn_ok (g := ⟨K, nb, ca⟩) (k := 0) (b := b_law_earliest) (N := N_law_earliest) (ps := ["_law_tops", "_law_bottoms"]) T.F_law_earliest sc_law_earliest fun cdv A outer s H F0 E hr =>
    ds_cons (ds_set (i := 2) sc_law_earliest.nd rfl (.inr rfl) (de_lst (da_nil)) (.inl rfl)) (ds_cons (ds_for (passes_of rfl) rfl (di_seq rfl (do_of (de_var (pv 0)))) (dg_nm (pg_name (i := 3) sc_law_earliest.nd rfl (by first | exact .inl rfl | exact .inr rfl))) (ds_one (ds_expr (by refine de_meth PySem.F.slot_list_append PySem.F.type_list_append mt_append p_append (pv 2) ?_; exact (da_cons (do_of (de_ix ix_seq (p_ix rfl) (do_of (by exact de_comp (own := [("_law_place", 4)]) rfl sc_law_earliest.nd (di_rng1 (by rfl) T.z_range (do_of (de_callB call_len (p_len rfl) (by rfl) T.z_len bt_len (da_cons (do_var (pv 1)) (da_nil))))) (blkOk_by (own := [("_law_place", 4)]) (N := N_law_earliest) (sc := defScope st_law_earliest) (by decide +kernel)) (fun _ _ _ _ _ => dg_nm (pg_name (i := 4) sc_law_earliest.nd rfl (by first | exact .inl rfl | exact .inr rfl))) (fun _ _ _ _ _ => dts_one ((dw_and (dt_cmp (op_eqD hr.units) (p_eq rfl) (do_of (de_ix ix_seq (p_ix rfl) (do_var (pv 1)) (do_var (pv 4)) (fun _ _ => rfl))) (do_var (pv 3)) (nomark _)) (dw_and1 (dt_cmp (op_notinA (hu65 hr)) (p_notin rfl) (do_var (pv 4)) (do_var (pv 2)) (by rfl)))).pt)) (fun _ _ _ _ _ => de_var (pv 4)))) (do_of (de_con pe_int (fun _ => .int _))) (fun _ _ => rfl))) (da_nil)))))) (ds_one (ds_ret (de_callTy call_tuple_ofF (p_tuple rfl) (by rfl) T.z_tuple bt_tuple (da_cons (do_var (pv 2)) (da_nil))))))
end
end K08

end
section
set_option Elab.async false
set_option linter.all false
set_option maxRecDepth 100000
set_option autoImplicit false
set_option maxHeartbeats 0
open PySem PySem.Spec PyProof.Rows L2 TL
namespace K08
section
variable {P : Program} {w : World} {K : PySem.W.Frag} {mg : Str → Option Value} {base : Heap} {nb : Addr} {ca : Nat → Addr}
theorem ok_law_led (T : Tab K mg) : FnOk P w K mg base (L2.CX P w) 1 T.a_law_led T.d_law_led ["_law_row_here", "_law_tops"] (spT ⟨K, nb, ca⟩ 2 f_law_led) :=
  fn_ok (g := ⟨K, nb, ca⟩) (k := 0) (b := b_law_led) (N := N_law_led) (ps := ["_law_row_here", "_law_tops"]) T.F_law_led sc_law_led fun cdv A outer s H F0 E hr =>
    ds_cons (ds_set (i := 2) sc_law_led.nd rfl (.inl rfl) (de_lst (da_nil)) (.inr rfl)) (ds_cons (ds_for (passes_of rfl) rfl (di_rng1 (by rfl) T.z_range (do_of (de_callB call_len (p_len rfl) (by rfl) T.z_len bt_len (da_cons (do_var (pv 0)) (da_nil))))) (dg_nm (pg_name (i := 3) sc_law_led.nd rfl (by first | exact .inl rfl | exact .inr rfl))) (ds_one (ds_expr (by refine de_meth PySem.F.slot_list_append PySem.F.type_list_append mt_append p_append (pv 2) ?_; exact (da_cons (do_of (de_ix ix_seq (p_ix rfl) (do_var (pv 1)) (do_of (by exact de_index rfl (do_var (pv 0)) (do_var (pv 3)))) (fun _ _ => rfl))) (da_nil)))))) (ds_one (ds_ret (de_varR (pv 2)))))
end
end K08

end
section
set_option Elab.async false
set_option linter.all false
set_option maxRecDepth 100000
set_option autoImplicit false
set_option maxHeartbeats 0
open PySem PySem.Spec PyProof.Rows L2 TL
namespace K08
section
variable {P : Program} {w : World} {K : PySem.W.Frag} {mg : Str → Option Value} {base : Heap} {nb : Addr} {ca : Nat → Addr}
theorem ok_is_integer (T : Tab K mg) : FnOk P w K mg base (L2.CX P w) 1 T.a_is_integer T.d_is_integer ["value"] (spT ⟨K, nb, ca⟩ 1 f_is_integer) :=
  fn_ok (g := ⟨K, nb, ca⟩) (k := 0) (b := b_is_integer) (N := N_is_integer) (ps := ["value"]) T.F_is_integer sc_is_integer fun cdv A outer s H F0 E hr =>
    ds_one (ds_ret (de_and (de_isi rfl (by rfl) T.z_isinstance (do_var (pv 0)) (by rfl) T.z_int bt_int) (de_one (de_not (de_isi rfl (by rfl) T.z_isinstance (do_var (pv 0)) (by rfl) T.z_bool bt_bool)))))
end
end K08

end
section
set_option Elab.async false
set_option linter.all false
set_option maxRecDepth 100000
set_option autoImplicit false
set_option maxHeartbeats 0
open PySem PySem.Spec PyProof.Rows L2 TL
namespace K08
section
variable {P : Program} {w : World} {K : PySem.W.Frag} {mg : Str → Option Value} {base : Heap} {nb : Addr} {ca : Nat → Addr}
theorem ok_is_numbers (T : Tab K mg) : FnOk P w K mg base (L2.CX P w) 2 T.a_is_numbers T.d_is_numbers ["value"] (spT ⟨K, nb, ca⟩ 1 f_is_numbers) :=
  fn_ok (g := ⟨K, nb, ca⟩) (k := 1) (b := b_is_numbers) (N := N_is_numbers) (ps := ["value"]) T.F_is_numbers sc_is_numbers fun cdv A outer s H F0 E hr =>
    ds_one (ds_ret (de_and (de_isi2 rfl (by rfl) T.z_isinstance (do_var (pv 0)) (by rfl) T.z_list bt_list (by rfl) T.z_tuple bt_tuple) (de_one (de_callB (cr_all rfl) p_all (by rfl) T.z_all bt_all (da_cons (do_of (by exact de_comp (own := [("part", 1)]) rfl sc_is_numbers.nd (di_seq rfl (do_of (de_var (pv 0)))) (blkOk_by (own := [("part", 1)]) (N := N_is_numbers) (sc := defScope st_is_numbers) (by decide +kernel)) (fun _ _ _ _ _ => dg_nm (pg_name (i := 1) sc_is_numbers.nd rfl (by first | exact .inl rfl | exact .inr rfl))) (fun _ _ _ _ _ => dts_nil) (fun _ _ _ _ _ => by exact de_call (ps := ["value"]) (fn := f_is_integer) (ok_is_integer T) (hr.mono (by decide)) (by rfl) T.m_is_integer T.F_is_integer.kp T.b_is_integer passL (da_cons (do_of (de_var (pv 1))) (da_nil))))) (da_nil))))))
end
end K08

end
section
set_option Elab.async false
set_option linter.all false
set_option maxRecDepth 100000
set_option autoImplicit false
set_option maxHeartbeats 0
open PySem PySem.Spec PyProof.Rows L2 TL
namespace K08
section
variable {P : Program} {w : World} {K : PySem.W.Frag} {mg : Str → Option Value} {base : Heap} {nb : Addr} {ca : Nat → Addr}
theorem ok_is_wiring (T : Tab K mg) : FnOk P w K mg base (L2.CX P w) 3 T.a_is_wiring T.d_is_wiring ["value"] (spT ⟨K, nb, ca⟩ 1 f_is_wiring) :=
  fn_ok (g := ⟨K, nb, ca⟩) (k := 2) (b := b_is_wiring) (N := N_is_wiring) (ps := ["value"]) T.F_is_wiring sc_is_wiring fun cdv A outer s H F0 E hr =>
    ds_cons (ds_if ((dw_or (dt_not (dt_val (by exact de_call (ps := ["value"]) (fn := f_is_numbers) (ok_is_numbers T) (hr.mono (by decide)) (by rfl) T.m_is_numbers T.F_is_numbers.kp T.b_is_numbers (pass_own rfl rfl rfl rfl) (da_cons (do_of (de_var (pv 0))) (da_nil))))) (dw_or1 (dt_not (dt_chn op_le op_le (p_cmp _) (p_cmp _) (do_of (de_con pe_int (fun _ => .int _))) (do_of (de_callB call_len (p_len rfl) (by rfl) T.z_len bt_len (da_cons (do_var (pv 0)) (da_nil)))) (do_of (de_con (pe_glob (v := .int 6) (by rfl) T.c_MOST_WIRES ⟨T.tk_MOST_WIRES, rfl⟩) (fun _ => .int _))))))).pt) (ds_one (ds_ret (de_con pe_bl (fun _ => .bl _)))) (ds_nil)) (ds_one (ds_ret (de_cmp (op_eqD hr.units) (p_eq rfl) (do_of (de_callB cr_sortedA (p_sorted rfl) (by rfl) T.z_sorted bt_sorted (da_cons (do_var (pv 0)) (da_nil)))) (do_of (de_lrg1 rfl (by rfl) T.z_list (by rfl) T.z_range (do_of (de_callB call_len (p_len rfl) (by rfl) T.z_len bt_len (da_cons (do_var (pv 0)) (da_nil)))))) (nomark _))))
end
end K08

end
section
set_option Elab.async false
set_option linter.all false
set_option maxRecDepth 100000
set_option autoImplicit false
set_option maxHeartbeats 0
open PySem PySem.Spec PyProof.Rows L2 TL
namespace K08
section
variable {P : Program} {w : World} {K : PySem.W.Frag} {mg : Str → Option Value} {base : Heap} {nb : Addr} {ca : Nat → Addr}
theorem ok_need_wiring (T : Tab K mg) : FnOk P w K mg base (L2.CX P w) 4 T.a_need_wiring T.d_need_wiring ["value", "part"] (spT ⟨K, nb, ca⟩ 2 f_need_wiring) :=
  fn_ok (g := ⟨K, nb, ca⟩) (k := 3) (b := b_need_wiring) (N := N_need_wiring) (ps := ["value", "part"]) T.F_need_wiring sc_need_wiring fun cdv A outer s H F0 E hr =>
    ds_cons (ds_if (dt_not (dt_val (by exact de_call (ps := ["value"]) (fn := f_is_wiring) (ok_is_wiring T) (hr.mono (by decide)) (by rfl) T.m_is_wiring T.F_is_wiring.kp T.b_is_wiring (pass_own rfl rfl rfl rfl) (da_cons (do_of (de_var (pv 0))) (da_nil))))) (ds_one (ds_stuck)) (ds_nil)) (ds_one (ds_ret (de_callTy call_tuple_ofF (p_tuple rfl) (by rfl) T.z_tuple bt_tuple (da_cons (do_var (pv 0)) (da_nil)))))
end
end K08

end
section
set_option Elab.async false
set_option linter.all false
set_option maxRecDepth 100000
set_option autoImplicit false
set_option maxHeartbeats 0
open PySem PySem.Spec PyProof.Rows L2 TL
namespace K08
section
variable {P : Program} {w : World} {K : PySem.W.Frag} {mg : Str → Option Value} {base : Heap} {nb : Addr} {ca : Nat → Addr}
theorem ok_is_within (T : Tab K mg) : FnOk P w K mg base (L2.CX P w) 2 T.a_is_within T.d_is_within ["value", "least", "most"] (spT ⟨K, nb, ca⟩ 3 f_is_within) :=
  fn_ok (g := ⟨K, nb, ca⟩) (k := 1) (b := b_is_within) (N := N_is_within) (ps := ["value", "least", "most"]) T.F_is_within sc_is_within fun cdv A outer s H F0 E hr =>
    ds_cons (ds_if ((dw_or (dt_not (dt_val (by exact de_call (ps := ["value"]) (fn := f_is_integer) (ok_is_integer T) (hr.mono (by decide)) (by rfl) T.m_is_integer T.F_is_integer.kp T.b_is_integer (pass_own rfl rfl rfl rfl) (da_cons (do_of (de_var (pv 0))) (da_nil))))) (dw_or1 ((dw_and (dt_cmp op_isnotA p_isnot (do_var (pv 1)) (do_of (de_con pe_non (fun _ => .non))) (nomark _)) (dw_and1 (dt_cmp (op_ltA (hu0 hr)) (p_ord rfl _ _) (do_var (pv 0)) (do_var (pv 1)) (nomark _)))).pt))).pt) (ds_one (ds_ret (de_con pe_bl (fun _ => .bl _)))) (ds_nil)) (ds_one (ds_ret (de_or (de_cmp op_isA p_is (do_var (pv 2)) (do_of (de_con pe_non (fun _ => .non))) (nomark _)) (de_one (de_cmp op_le (p_cmp _) (do_var (pv 0)) (do_var (pv 2)) (nomark _))))))
end
end K08

end
section
set_option Elab.async false
set_option linter.all false
set_option maxRecDepth 100000
set_option autoImplicit false
set_option maxHeartbeats 0
open PySem PySem.Spec PyProof.Rows L2 TL
namespace K08
section
variable {P : Program} {w : World} {K : PySem.W.Frag} {mg : Str → Option Value} {base : Heap} {nb : Addr} {ca : Nat → Addr}
theorem ok_is_size (T : Tab K mg) : FnOk P w K mg base (L2.CX P w) 3 T.a_is_size T.d_is_size ["value"] (spT ⟨K, nb, ca⟩ 1 f_is_size) :=
  fn_ok (g := ⟨K, nb, ca⟩) (k := 2) (b := b_is_size) (N := N_is_size) (ps := ["value"]) T.F_is_size sc_is_size fun cdv A outer s H F0 E hr =>
    ds_one (ds_ret (by exact de_call (ps := ["value", "least", "most"]) (fn := f_is_within) (ok_is_within T) (hr.mono (by decide)) (by rfl) T.m_is_within T.F_is_within.kp T.b_is_within (pass_own rfl rfl rfl rfl) (da_cons (do_of (de_var (pv 0))) (da_cons (do_of (de_con pe_int (fun _ => .int _))) (da_cons (do_of (de_con pe_non (fun _ => .non))) (da_nil))))))
end
end K08

end
section
set_option Elab.async false
set_option linter.all false
set_option maxRecDepth 100000
set_option autoImplicit false
set_option maxHeartbeats 0
open PySem PySem.Spec PyProof.Rows L2 TL
namespace K08
section
variable {P : Program} {w : World} {K : PySem.W.Frag} {mg : Str → Option Value} {base : Heap} {nb : Addr} {ca : Nat → Addr}
theorem ok_need_size (T : Tab K mg) : FnOk P w K mg base (L2.CX P w) 4 T.a_need_size T.d_need_size ["value"] (spT ⟨K, nb, ca⟩ 1 f_need_size) :=
  fn_ok (g := ⟨K, nb, ca⟩) (k := 3) (b := b_need_size) (N := N_need_size) (ps := ["value"]) T.F_need_size sc_need_size fun cdv A outer s H F0 E hr =>
    ds_one (ds_if (dt_not (dt_val (by exact de_call (ps := ["value"]) (fn := f_is_size) (ok_is_size T) (hr.mono (by decide)) (by rfl) T.m_is_size T.F_is_size.kp T.b_is_size (pass_own rfl rfl rfl rfl) (da_cons (do_of (de_var (pv 0))) (da_nil))))) (ds_one (ds_stuck)) (ds_nil))
end
end K08

end
section
set_option Elab.async false
set_option linter.all false
set_option maxRecDepth 100000
set_option autoImplicit false
set_option maxHeartbeats 0
open PySem PySem.Spec PyProof.Rows L2 TL
namespace K08
section
variable {P : Program} {w : World} {K : PySem.W.Frag} {mg : Str → Option Value} {base : Heap} {nb : Addr} {ca : Nat → Addr}
theorem ok_colours_of (T : Tab K mg) : FnOk P w K mg base (L2.CX P w) 1 T.a_colours_of T.d_colours_of ["row"] (spT ⟨K, nb, ca⟩ 1 f_colours_of) :=
  fn_ok (g := ⟨K, nb, ca⟩) (k := 0) (b := b_colours_of) (N := N_colours_of) (ps := ["row"]) T.F_colours_of sc_colours_of fun cdv A outer s H F0 E hr =>
    ds_cons (ds_set (i := 1) sc_colours_of.nd rfl (.inr rfl) (de_lst (da_nil)) (.inl rfl)) (ds_cons (ds_for (passes_of rfl) rfl (di_enum rfl (by rfl) T.z_enumerate (do_of (de_var (pv 0)))) (dg_tp (l := [2, 3]) rfl (pg_tup rfl (pgs_cons (pg_name (i := 2) sc_colours_of.nd rfl (by first | exact .inl rfl | exact .inr rfl)) (pgs_cons (pg_name (i := 3) sc_colours_of.nd rfl (by first | exact .inl rfl | exact .inr rfl)) (pgs_nil)))) (pg_unl rfl (pgs_cons (pg_name (i := 2) sc_colours_of.nd rfl (by first | exact .inl rfl | exact .inr rfl)) (pgs_cons (pg_name (i := 3) sc_colours_of.nd rfl (by first | exact .inl rfl | exact .inr rfl)) (pgs_nil))))) (ds_one (ds_expr (by refine de_meth PySem.F.slot_list_append PySem.F.type_list_append mt_append p_append (pv 1) ?_; exact (da_cons (do_of (de_maxDf rfl (hu10 hr) (by rfl) T.z_max (do_of (by exact de_comp (own := [("ahead", 4)]) rfl sc_colours_of.nd (di_rng1 (by rfl) T.z_range (do_of (de_var (pv 2)))) (blkOk_by (own := [("ahead", 4)]) (N := N_colours_of) (sc := defScope st_colours_of) (by decide +kernel)) (fun _ _ _ _ _ => dg_nm (pg_name (i := 4) sc_colours_of.nd rfl (by first | exact .inl rfl | exact .inr rfl))) (fun _ _ _ _ _ => dts_one (dt_cmp (op_gtA (hu0 hr)) (p_ord rfl _ _) (do_of (de_ix ix_seq (p_ix rfl) (do_var (pv 0)) (do_var (pv 4)) (fun _ _ => rfl))) (do_var (pv 3)) (nomark _))) (fun _ _ _ _ _ => de_bin op_addA (p_add rfl) (do_of (de_con pe_int (fun _ => .int _))) (do_of (de_ix ix_seq (p_ix rfl) (do_var (pv 1)) (do_var (pv 4)) (fun _ _ => rfl)))))) (do_of (de_con pe_int (fun _ => .int _))))) (da_nil)))))) (ds_one (ds_ret (de_callTy call_tuple_ofF (p_tuple rfl) (by rfl) T.z_tuple bt_tuple (da_cons (do_var (pv 1)) (da_nil))))))
end
end K08

end
section
set_option Elab.async false
set_option linter.all false
set_option maxRecDepth 100000
set_option autoImplicit false
set_option maxHeartbeats 0
open PySem PySem.Spec PyProof.Rows L2 TL
namespace K08
section
variable {P : Program} {w : World} {K : PySem.W.Frag} {mg : Str → Option Value} {base : Heap} {nb : Addr} {ca : Nat → Addr}
theorem ok_are_kept (T : Tab K mg) : FnOk P w K mg base (L2.CX P w) 2 T.a_are_kept T.d_are_kept ["row", "size"] (spT ⟨K, nb, ca⟩ 2 f_are_kept) :=
  fn_ok (g := ⟨K, nb, ca⟩) (k := 1) (b := b_are_kept) (N := N_are_kept) (ps := ["row", "size"]) T.F_are_kept sc_are_kept fun cdv A outer s H F0 E hr =>
    ds_one (ds_ret (de_cmp (op_ltA (hu0 hr)) (p_ord rfl _ _) (do_of (de_callB (cr_maxA rfl (hu10 hr)) (p_maxA rfl) (by rfl) T.z_max bt_max (da_cons (do_of (by exact de_call (ps := ["row"]) (fn := f_colours_of) (ok_colours_of T) (hr.mono (by decide)) (by rfl) T.m_colours_of T.F_colours_of.kp T.b_colours_of (pass_own rfl rfl rfl rfl) (da_cons (do_of (de_var (pv 0))) (da_nil)))) (da_nil)))) (do_var (pv 1)) (nomark _)))
end
end K08

end
section
set_option Elab.async false
set_option linter.all false
set_option maxRecDepth 100000
set_option autoImplicit false
set_option maxHeartbeats 0
open PySem PySem.Spec PyProof.Rows L2 TL
namespace K08
section
variable {P : Program} {w : World} {K : PySem.W.Frag} {mg : Str → Option Value} {base : Heap} {nb : Addr} {ca : Nat → Addr}
theorem ok_is_kept (T : Tab K mg) : FnOk P w K mg base (L2.CX P w) 5 T.a_is_kept T.d_is_kept ["row", "size"] (spT ⟨K, nb, ca⟩ 2 f_is_kept) :=
  fn_ok (g := ⟨K, nb, ca⟩) (k := 4) (b := b_is_kept) (N := N_is_kept) (ps := ["row", "size"]) T.F_is_kept sc_is_kept fun cdv A outer s H F0 E hr =>
    ds_cons (ds_set (i := 2) sc_is_kept.nd rfl (.inl rfl) (by exact de_call (ps := ["value", "part"]) (fn := f_need_wiring) (ok_need_wiring T) (hr.mono (by decide)) (by rfl) T.m_need_wiring T.F_need_wiring.kp T.b_need_wiring (pass_own rfl rfl rfl rfl) (da_cons (do_of (de_var (pv 0))) (da_cons (do_of (de_con pe_str (fun _ => .str _))) (da_nil)))) (.inr rfl)) (ds_cons (ds_expr (by exact de_call (ps := ["value"]) (fn := f_need_size) (ok_need_size T) (hr.mono (by decide)) (by rfl) T.m_need_size T.F_need_size.kp T.b_need_size (pass_own rfl rfl rfl rfl) (da_cons (do_of (de_var (pv 1))) (da_nil)))) (ds_one (ds_ret (by exact de_call (ps := ["row", "size"]) (fn := f_are_kept) (ok_are_kept T) (hr.mono (by decide)) (by rfl) T.m_are_kept T.F_are_kept.kp T.b_are_kept (pass_own rfl rfl rfl rfl) (da_cons (do_of (de_var (pv 2))) (da_cons (do_of (de_var (pv 1))) (da_nil)))))))
end
end K08

end
section
set_option Elab.async false
set_option linter.all false
set_option maxRecDepth 100000
set_option autoImplicit false
set_option maxHeartbeats 0
open PySem PySem.Spec PyProof.Rows L2 TL
namespace K08
section
variable {P : Program} {w : World} {K : PySem.W.Frag} {mg : Str → Option Value} {base : Heap} {nb : Addr} {ca : Nat → Addr}
theorem ok_law_small_right (T : Tab K mg) : FnOk P w K mg base (L2.CX P w) 6 T.a_law_small_right T.d_law_small_right ["_law_cup_here"] (spT ⟨K, nb, ca⟩ 1 f_law_small_right) :=
  fn_ok (g := ⟨K, nb, ca⟩) (k := 5) (b := b_law_small_right) (N := N_law_small_right) (ps := ["_law_cup_here"]) T.F_law_small_right sc_law_small_right fun cdv A outer s H F0 E hr =>
    ds_cons (ds_asg (do_of (de_ix ix_seq (p_ix rfl) (do_of (de_lst (da_cons (do_of (de_tup (da_cons (do_of (de_con pe_int (fun _ => .int _))) (da_cons (do_of (de_con pe_int (fun _ => .int _))) (da_nil))))) (da_cons (do_of (de_tup (da_cons (do_of (de_con pe_int (fun _ => .int _))) (da_cons (do_of (de_con pe_int (fun _ => .int _))) (da_nil))))) (da_cons (do_of (de_tup (da_cons (do_of (de_con pe_int (fun _ => .int _))) (da_cons (do_of (de_con pe_int (fun _ => .int _))) (da_nil))))) (da_cons (do_of (de_tup (da_cons (do_of (de_con pe_int (fun _ => .int _))) (da_cons (do_of (de_con pe_int (fun _ => .int _))) (da_nil))))) (da_cons (do_of (de_tup (da_cons (do_of (de_con pe_int (fun _ => .int _))) (da_cons (do_of (de_con pe_int (fun _ => .int _))) (da_nil))))) (da_cons (do_of (de_tup (da_cons (do_of (de_con pe_int (fun _ => .int _))) (da_cons (do_of (de_con pe_int (fun _ => .int _))) (da_nil))))) (da_cons (do_of (de_tup (da_cons (do_of (de_con pe_int (fun _ => .int _))) (da_cons (do_of (de_con pe_int (fun _ => .int _))) (da_nil))))) (da_cons (do_of (de_tup (da_cons (do_of (de_con pe_int (fun _ => .int _))) (da_cons (do_of (de_con pe_int (fun _ => .int _))) (da_nil))))) (da_cons (do_of (de_tup (da_cons (do_of (de_con pe_int (fun _ => .int _))) (da_cons (do_of (de_con pe_int (fun _ => .int _))) (da_nil))))) (da_cons (do_of (de_tup (da_cons (do_of (de_con pe_int (fun _ => .int _))) (da_cons (do_of (de_con pe_int (fun _ => .int _))) (da_nil))))) (da_cons (do_of (de_tup (da_cons (do_of (de_con pe_int (fun _ => .int _))) (da_cons (do_of (de_con pe_int (fun _ => .int _))) (da_nil))))) (da_nil)))))))))))))) (do_of (by exact de_call (ps := ["_law_cup_here", "_law_many"]) (fn := f_law_scoop) (ok_law_scoop T) (hr.mono (by decide)) (by rfl) T.m_law_scoop T.F_law_scoop.kp T.b_law_scoop (pass_own rfl rfl rfl rfl) (da_cons (do_of (de_var (pv 0))) (da_cons (do_of (de_con pe_int (fun _ => .int _))) (da_nil))))) (fun _ _ => rfl))) (dg_tp (l := [1, 2]) rfl (pg_tup rfl (pgs_cons (pg_name (i := 1) sc_law_small_right.nd rfl (by first | exact .inl rfl | exact .inr rfl)) (pgs_cons (pg_name (i := 2) sc_law_small_right.nd rfl (by first | exact .inl rfl | exact .inr rfl)) (pgs_nil)))) (pg_unl rfl (pgs_cons (pg_name (i := 1) sc_law_small_right.nd rfl (by first | exact .inl rfl | exact .inr rfl)) (pgs_cons (pg_name (i := 2) sc_law_small_right.nd rfl (by first | exact .inl rfl | exact .inr rfl)) (pgs_nil)))))) (ds_cons (ds_set (i := 3) sc_law_small_right.nd rfl (.inr rfl) (by exact de_call (ps := ["_law_cup_here", "_law_wires"]) (fn := f_law_row) (ok_law_row T) (hr.mono (by decide)) (by rfl) T.m_law_row T.F_law_row.kp T.b_law_row (pass_own rfl rfl rfl rfl) (da_cons (do_of (de_var (pv 0))) (da_cons (do_of (de_var (pv 1))) (da_nil)))) (.inl rfl)) (ds_cons (by exact ds_setLc (own := [("_law_setting", 5)]) (i := 4) rfl sc_law_small_right.nd rfl rfl (sw_true rfl rfl rfl (by decide +kernel)) (di_seq rfl (do_of (by exact de_call (ps := ["_law_wires", "_law_size"]) (fn := f_law_settings) (ok_law_settings T) (hr.mono (by decide)) (by rfl) T.m_law_settings T.F_law_settings.kp T.b_law_settings (pass_own rfl rfl rfl rfl) (da_cons (do_of (de_var (pv 1))) (da_cons (do_of (de_var (pv 2))) (da_nil)))))) (blkOk_by (own := [("_law_setting", 5)]) (N := N_law_small_right) (sc := defScope st_law_small_right) (by decide +kernel)) (fun _ _ _ _ _ => dg_nm (pg_name (i := 5) sc_law_small_right.nd rfl (by first | exact .inl rfl | exact .inr rfl))) (fun _ _ _ _ _ => dts_one (dt_cmp (op_eqD hr.units) (p_eq rfl) (do_of (by exact de_call (ps := ["_law_tops", "_law_bottoms"]) (fn := f_law_earliest) (ok_law_earliest T) (hr.mono (by decide)) (by rfl) T.m_law_earliest T.F_law_earliest.kp T.b_law_earliest passL (da_cons (do_of (de_var (pv 5))) (da_cons (do_of (by exact de_call (ps := ["_law_row_here", "_law_tops"]) (fn := f_law_led) (ok_law_led T) (hr.mono (by decide)) (by rfl) T.m_law_led T.F_law_led.kp T.b_law_led passL (da_cons (do_of (de_var (pv 3))) (da_cons (do_of (de_var (pv 5))) (da_nil))))) (da_nil))))) (do_var (pv 3)) (nomark _))) (fun _ _ _ _ _ => de_var (pv 5))) (ds_one (ds_ret (de_cmp (op_eqD hr.units) (p_eq rfl) (do_of (de_callB call_reprB p_repr (by rfl) T.z_repr bt_repr (da_cons (do_of (by exact de_call (ps := ["row", "size"]) (fn := f_is_kept) (ok_is_kept T) (hr.mono (by decide)) (by rfl) T.m_is_kept T.F_is_kept.kp T.b_is_kept (pass_own rfl rfl rfl rfl) (da_cons (do_of (de_var (pv 3))) (da_cons (do_of (de_var (pv 2))) (da_nil))))) (da_nil)))) (do_of (de_callB call_reprB p_repr (by rfl) T.z_repr bt_repr (da_cons (do_of (de_cmp (op_neD hr.units) (p_ne rfl) (do_var (pv 4)) (do_of (de_lst (da_nil))) (nomark _))) (da_nil)))) (nomark _))))))
end
end K08

end
section
set_option Elab.async false
set_option linter.all false
set_option maxRecDepth 100000
set_option autoImplicit false
set_option maxHeartbeats 0
open PySem PySem.Spec PyProof.Rows L2 TL
namespace K08
section
variable {P : Program} {w : World} {K : PySem.W.Frag} {mg : Str → Option Value} {base : Heap} {nb : Addr} {ca : Nat → Addr}
theorem ok_back_of (T : Tab K mg) : FnOk P w K mg base (L2.CX P w) 1 T.a_back_of T.d_back_of ["row"] (spT ⟨K, nb, ca⟩ 1 f_back_of) :=
  fn_ok (g := ⟨K, nb, ca⟩) (k := 0) (b := b_back_of) (N := N_back_of) (ps := ["row"]) T.F_back_of sc_back_of fun cdv A outer s H F0 E hr =>
    ds_cons (ds_set (i := 1) sc_back_of.nd rfl (.inl rfl) (de_callTy call_list_of (p_list rfl) (by rfl) T.z_list bt_list (da_cons (do_var (pv 0)) (da_nil))) (.inr rfl)) (ds_cons (ds_for (passes_of rfl) rfl (di_enum rfl (by rfl) T.z_enumerate (do_of (de_var (pv 0)))) (dg_tp (l := [2, 3]) rfl (pg_tup rfl (pgs_cons (pg_name (i := 2) sc_back_of.nd rfl (by first | exact .inl rfl | exact .inr rfl)) (pgs_cons (pg_name (i := 3) sc_back_of.nd rfl (by first | exact .inl rfl | exact .inr rfl)) (pgs_nil)))) (pg_unl rfl (pgs_cons (pg_name (i := 2) sc_back_of.nd rfl (by first | exact .inl rfl | exact .inr rfl)) (pgs_cons (pg_name (i := 3) sc_back_of.nd rfl (by first | exact .inl rfl | exact .inr rfl)) (pgs_nil))))) (ds_one (ds_setI (pv 1) (do_of (de_var (pv 2))) (do_of (de_var (pv 3)))))) (ds_one (ds_ret (de_callTy call_tuple_ofF (p_tuple rfl) (by rfl) T.z_tuple bt_tuple (da_cons (do_var (pv 1)) (da_nil))))))
end
end K08

end
section
set_option Elab.async false
set_option linter.all false
set_option maxRecDepth 100000
set_option autoImplicit false
set_option maxHeartbeats 0
open PySem PySem.Spec PyProof.Rows L2 TL
namespace K08
section
variable {P : Program} {w : World} {K : PySem.W.Frag} {mg : Str → Option Value} {base : Heap} {nb : Addr} {ca : Nat → Addr}
theorem ok_led_by (T : Tab K mg) : FnOk P w K mg base (L2.CX P w) 2 T.a_led_by T.d_led_by ["row", "setting"] (spT ⟨K, nb, ca⟩ 2 f_led_by) :=
  fn_ok (g := ⟨K, nb, ca⟩) (k := 1) (b := b_led_by) (N := N_led_by) (ps := ["row", "setting"]) T.F_led_by sc_led_by fun cdv A outer s H F0 E hr =>
    ds_one (ds_ret (de_callTy call_tuple_ofF (p_tuple rfl) (by rfl) T.z_tuple bt_tuple (da_cons (do_of (by exact de_comp (own := [("top", 2)]) rfl sc_led_by.nd (di_seq rfl (do_of (by exact de_call (ps := ["row"]) (fn := f_back_of) (ok_back_of T) (hr.mono (by decide)) (by rfl) T.m_back_of T.F_back_of.kp T.b_back_of (pass_own rfl rfl rfl rfl) (da_cons (do_of (de_var (pv 0))) (da_nil))))) (blkOk_by (own := [("top", 2)]) (N := N_led_by) (sc := defScope st_led_by) (by decide +kernel)) (fun _ _ _ _ _ => dg_nm (pg_name (i := 2) sc_led_by.nd rfl (by first | exact .inl rfl | exact .inr rfl))) (fun _ _ _ _ _ => dts_nil) (fun _ _ _ _ _ => de_ix ix_seq (p_ix rfl) (do_var (pv 1)) (do_var (pv 2)) (fun _ _ => rfl)))) (da_nil))))
end
end K08

end
section
set_option Elab.async false
set_option linter.all false
set_option maxRecDepth 100000
set_option autoImplicit false
set_option maxHeartbeats 0
open PySem PySem.Spec PyProof.Rows L2 TL
namespace K08
section
variable {P : Program} {w : World} {K : PySem.W.Frag} {mg : Str → Option Value} {base : Heap} {nb : Addr} {ca : Nat → Addr}
theorem ok_is_setting (T : Tab K mg) : FnOk P w K mg base (L2.CX P w) 3 T.a_is_setting T.d_is_setting ["value", "many"] (spT ⟨K, nb, ca⟩ 2 f_is_setting) :=
  fn_ok (g := ⟨K, nb, ca⟩) (k := 2) (b := b_is_setting) (N := N_is_setting) (ps := ["value", "many"]) T.F_is_setting sc_is_setting fun cdv A outer s H F0 E hr =>
    ds_one (ds_ret (de_and (by exact de_call (ps := ["value"]) (fn := f_is_numbers) (ok_is_numbers T) (hr.mono (by decide)) (by rfl) T.m_is_numbers T.F_is_numbers.kp T.b_is_numbers (pass_own rfl rfl rfl rfl) (da_cons (do_of (de_var (pv 0))) (da_nil))) (de_and (de_cmp (op_eqD hr.units) (p_eq rfl) (do_of (de_callB call_len (p_len rfl) (by rfl) T.z_len bt_len (da_cons (do_var (pv 0)) (da_nil)))) (do_var (pv 1)) (nomark _)) (de_one (de_callB (cr_all rfl) p_all (by rfl) T.z_all bt_all (da_cons (do_of (by exact de_comp (own := [("part", 2)]) rfl sc_is_setting.nd (di_seq rfl (do_of (de_var (pv 0)))) (blkOk_by (own := [("part", 2)]) (N := N_is_setting) (sc := defScope st_is_setting) (by decide +kernel)) (fun _ _ _ _ _ => dg_nm (pg_name (i := 2) sc_is_setting.nd rfl (by first | exact .inl rfl | exact .inr rfl))) (fun _ _ _ _ _ => dts_nil) (fun _ _ _ _ _ => de_cmp op_ge (p_cmp _) (do_var (pv 2)) (do_of (de_con pe_int (fun _ => .int _))) (nomark _)))) (da_nil)))))))
end
end K08

end
section
set_option Elab.async false
set_option linter.all false
set_option maxRecDepth 100000
set_option autoImplicit false
set_option maxHeartbeats 0
open PySem PySem.Spec PyProof.Rows L2 TL
namespace K08
section
variable {P : Program} {w : World} {K : PySem.W.Frag} {mg : Str → Option Value} {base : Heap} {nb : Addr} {ca : Nat → Addr}
theorem ok_need_setting (T : Tab K mg) : FnOk P w K mg base (L2.CX P w) 4 T.a_need_setting T.d_need_setting ["value", "many", "part"] (spT ⟨K, nb, ca⟩ 3 f_need_setting) :=
  fn_ok (g := ⟨K, nb, ca⟩) (k := 3) (b := b_need_setting) (N := N_need_setting) (ps := ["value", "many", "part"]) T.F_need_setting sc_need_setting fun cdv A outer s H F0 E hr =>
    ds_cons (ds_if (dt_not (dt_val (by exact de_call (ps := ["value", "many"]) (fn := f_is_setting) (ok_is_setting T) (hr.mono (by decide)) (by rfl) T.m_is_setting T.F_is_setting.kp T.b_is_setting (pass_own rfl rfl rfl rfl) (da_cons (do_of (de_var (pv 0))) (da_cons (do_of (de_var (pv 1))) (da_nil)))))) (ds_one (ds_stuck)) (ds_nil)) (ds_one (ds_ret (de_callTy call_tuple_ofF (p_tuple rfl) (by rfl) T.z_tuple bt_tuple (da_cons (do_var (pv 0)) (da_nil)))))
end
end K08

end
section
set_option Elab.async false
set_option linter.all false
set_option maxRecDepth 100000
set_option autoImplicit false
set_option maxHeartbeats 0
open PySem PySem.Spec PyProof.Rows L2 TL
namespace K08
section
variable {P : Program} {w : World} {K : PySem.W.Frag} {mg : Str → Option Value} {base : Heap} {nb : Addr} {ca : Nat → Addr}
theorem ok_led (T : Tab K mg) : FnOk P w K mg base (L2.CX P w) 5 T.a_led T.d_led ["row", "setting"] (spT ⟨K, nb, ca⟩ 2 f_led) :=
  fn_ok (g := ⟨K, nb, ca⟩) (k := 4) (b := b_led) (N := N_led) (ps := ["row", "setting"]) T.F_led sc_led fun cdv A outer s H F0 E hr =>
    ds_cons (ds_set (i := 2) sc_led.nd rfl (.inl rfl) (by exact de_call (ps := ["value", "part"]) (fn := f_need_wiring) (ok_need_wiring T) (hr.mono (by decide)) (by rfl) T.m_need_wiring T.F_need_wiring.kp T.b_need_wiring (pass_own rfl rfl rfl rfl) (da_cons (do_of (de_var (pv 0))) (da_cons (do_of (de_con pe_str (fun _ => .str _))) (da_nil)))) (.inr rfl)) (ds_one (ds_ret (by exact de_call (ps := ["row", "setting"]) (fn := f_led_by) (ok_led_by T) (hr.mono (by decide)) (by rfl) T.m_led_by T.F_led_by.kp T.b_led_by (pass_own rfl rfl rfl rfl) (da_cons (do_of (de_var (pv 2))) (da_cons (do_of (by exact de_call (ps := ["value", "many", "part"]) (fn := f_need_setting) (ok_need_setting T) (hr.mono (by decide)) (by rfl) T.m_need_setting T.F_need_setting.kp T.b_need_setting (pass_own rfl rfl rfl rfl) (da_cons (do_of (de_var (pv 1))) (da_cons (do_of (de_callB call_len (p_len rfl) (by rfl) T.z_len bt_len (da_cons (do_var (pv 2)) (da_nil)))) (da_cons (do_of (de_con pe_str (fun _ => .str _))) (da_nil)))))) (da_nil))))))
end
end K08

end
section
set_option Elab.async false
set_option linter.all false
set_option maxRecDepth 100000
set_option autoImplicit false
set_option maxHeartbeats 0
open PySem PySem.Spec PyProof.Rows L2 TL
namespace K08
section
variable {P : Program} {w : World} {K : PySem.W.Frag} {mg : Str → Option Value} {base : Heap} {nb : Addr} {ca : Nat → Addr}
theorem ok_settings_by (T : Tab K mg) : FnOk P w K mg base (L2.CX P w) 3 T.a_settings_by T.d_settings_by ["row"] (spT ⟨K, nb, ca⟩ 1 f_settings_by) :=
  fn_ok (g := ⟨K, nb, ca⟩) (k := 2) (b := b_settings_by) (N := N_settings_by) (ps := ["row"]) T.F_settings_by sc_settings_by fun cdv A outer s H F0 E hr =>
    ds_cons (ds_set (i := 1) sc_settings_by.nd rfl (.inl rfl) (by exact de_call (ps := ["row"]) (fn := f_colours_of) (ok_colours_of T) (hr.mono (by decide)) (by rfl) T.m_colours_of T.F_colours_of.kp T.b_colours_of (pass_own rfl rfl rfl rfl) (da_cons (do_of (de_var (pv 0))) (da_nil))) (.inr rfl)) (ds_one (ds_ret (de_tup (da_cons (do_of (de_var (pv 1))) (da_cons (do_of (by exact de_call (ps := ["row", "setting"]) (fn := f_led_by) (ok_led_by T) (hr.mono (by decide)) (by rfl) T.m_led_by T.F_led_by.kp T.b_led_by (pass_own rfl rfl rfl rfl) (da_cons (do_of (de_var (pv 0))) (da_cons (do_of (de_var (pv 1))) (da_nil))))) (da_nil))))))
end
end K08

end
section
set_option Elab.async false
set_option linter.all false
set_option maxRecDepth 100000
set_option autoImplicit false
set_option maxHeartbeats 0
open PySem PySem.Spec PyProof.Rows L2 TL
namespace K08
section
variable {P : Program} {w : World} {K : PySem.W.Frag} {mg : Str → Option Value} {base : Heap} {nb : Addr} {ca : Nat → Addr}
theorem ok_settings_of (T : Tab K mg) : FnOk P w K mg base (L2.CX P w) 5 T.a_settings_of T.d_settings_of ["row"] (spT ⟨K, nb, ca⟩ 1 f_settings_of) :=
  fn_ok (g := ⟨K, nb, ca⟩) (k := 4) (b := b_settings_of) (N := N_settings_of) (ps := ["row"]) T.F_settings_of sc_settings_of fun cdv A outer s H F0 E hr =>
    ds_one (ds_ret (by exact de_call (ps := ["row"]) (fn := f_settings_by) (ok_settings_by T) (hr.mono (by decide)) (by rfl) T.m_settings_by T.F_settings_by.kp T.b_settings_by (pass_own rfl rfl rfl rfl) (da_cons (do_of (by exact de_call (ps := ["value", "part"]) (fn := f_need_wiring) (ok_need_wiring T) (hr.mono (by decide)) (by rfl) T.m_need_wiring T.F_need_wiring.kp T.b_need_wiring (pass_own rfl rfl rfl rfl) (da_cons (do_of (de_var (pv 0))) (da_cons (do_of (de_con pe_str (fun _ => .str _))) (da_nil))))) (da_nil))))
end
end K08

end
section
set_option Elab.async false
set_option linter.all false
set_option maxRecDepth 100000
set_option autoImplicit false
set_option maxHeartbeats 0
open PySem PySem.Spec PyProof.Rows L2 TL
namespace K08
section
variable {P : Program} {w : World} {K : PySem.W.Frag} {mg : Str → Option Value} {base : Heap} {nb : Addr} {ca : Nat → Addr}
theorem ok_law_great_right (T : Tab K mg) : FnOk P w K mg base (L2.CX P w) 6 T.a_law_great_right T.d_law_great_right ["_law_cup_here"] (spT ⟨K, nb, ca⟩ 1 f_law_great_right) :=
  fn_ok (g := ⟨K, nb, ca⟩) (k := 5) (b := b_law_great_right) (N := N_law_great_right) (ps := ["_law_cup_here"]) T.F_law_great_right sc_law_great_right fun cdv A outer s H F0 E hr =>
    ds_cons (ds_set (i := 1) sc_law_great_right.nd rfl (.inr rfl) (de_bin op_addA (p_add rfl) (do_of (de_con pe_int (fun _ => .int _))) (do_of (by exact de_call (ps := ["_law_cup_here", "_law_many"]) (fn := f_law_scoop) (ok_law_scoop T) (hr.mono (by decide)) (by rfl) T.m_law_scoop T.F_law_scoop.kp T.b_law_scoop (pass_own rfl rfl rfl rfl) (da_cons (do_of (de_var (pv 0))) (da_cons (do_of (de_con pe_int (fun _ => .int _))) (da_nil)))))) (.inl rfl)) (ds_cons (ds_par rfl sc_law_great_right.nd rfl rfl (by decide) rfl rfl (by exact de_call (ps := ["_law_cup_here", "_law_wires"]) (fn := f_law_row) (ok_law_row T) (hr.mono (by decide)) (by rfl) T.m_law_row T.F_law_row.kp T.b_law_row (pass_own rfl rfl rfl rfl) (da_cons (do_of (de_var (pv 0))) (da_cons (do_of (de_con pe_int (fun _ => .int _))) (da_nil)))) (by exact de_comp (own := [("_law_top", 7)]) rfl sc_law_great_right.nd (di_rng1 (by rfl) T.z_range (do_of (de_con pe_int (fun _ => .int _)))) (blkOk_by (own := [("_law_top", 7)]) (N := N_law_great_right) (sc := defScope st_law_great_right) (by decide +kernel)) (fun _ _ _ _ _ => dg_nm (pg_name (i := 7) sc_law_great_right.nd rfl (by first | exact .inl rfl | exact .inr rfl))) (fun _ _ _ _ _ => dts_nil) (fun _ _ _ _ _ => by exact de_call (ps := ["_law_cup_here", "_law_many"]) (fn := f_law_scoop) (ok_law_scoop T) (hr.mono (by decide)) (by rfl) T.m_law_scoop T.F_law_scoop.kp T.b_law_scoop passL (da_cons (do_of (de_var (pv 0))) (da_cons (do_of (de_var (pv 1))) (da_nil))))) (by rfl)) (ds_cons (ds_set (i := 4) sc_law_great_right.nd rfl (.inl rfl) (by exact de_call (ps := ["row", "setting"]) (fn := f_led) (ok_led T) (hr.mono (by decide)) (by rfl) T.m_led T.F_led.kp T.b_led (pass_own rfl rfl rfl rfl) (da_cons (do_of (de_var (pv 2))) (da_cons (do_of (de_var (pv 3))) (da_nil)))) (.inr rfl)) (ds_cons (ds_set (i := 5) sc_law_great_right.nd rfl (.inl rfl) (by exact de_call (ps := ["_law_tops", "_law_bottoms"]) (fn := f_law_earliest) (ok_law_earliest T) (hr.mono (by decide)) (by rfl) T.m_law_earliest T.F_law_earliest.kp T.b_law_earliest (pass_own rfl rfl rfl rfl) (da_cons (do_of (de_var (pv 3))) (da_cons (do_of (de_var (pv 4))) (da_nil)))) (.inr rfl)) (ds_cons (ds_if ((dw_or (dt_not (dt_val (de_isi rfl (by rfl) T.z_isinstance (do_var (pv 4)) (by rfl) T.z_tuple bt_tuple))) (dw_or (dt_cmp (op_neD hr.units) (p_ne rfl) (do_of (de_callTy call_list_of (p_list rfl) (by rfl) T.z_list bt_list (da_cons (do_var (pv 4)) (da_nil)))) (do_of (by exact de_call (ps := ["_law_row_here", "_law_tops"]) (fn := f_law_led) (ok_law_led T) (hr.mono (by decide)) (by rfl) T.m_law_led T.F_law_led.kp T.b_law_led (pass_own rfl rfl rfl rfl) (da_cons (do_of (de_var (pv 2))) (da_cons (do_of (de_var (pv 3))) (da_nil))))) (nomark _)) (dw_or (dt_cmp (op_gtA (hu0 hr)) (p_ord rfl _ _) (do_var (pv 5)) (do_var (pv 2)) (nomark _)) (dw_or (dt_cmp op_isnotA p_isnot (do_of (by exact de_call (ps := ["row", "size"]) (fn := f_is_kept) (ok_is_kept T) (hr.mono (by decide)) (by rfl) T.m_is_kept T.F_is_kept.kp T.b_is_kept (pass_own rfl rfl rfl rfl) (da_cons (do_of (de_var (pv 5))) (da_cons (do_of (de_var (pv 1))) (da_nil))))) (do_of (de_con pe_bl (fun _ => .bl _))) (nomark _)) (dw_or1 (dt_cmp (op_neD hr.units) (p_ne rfl) (do_of (by exact de_call (ps := ["row", "setting"]) (fn := f_led) (ok_led T) (hr.mono (by decide)) (by rfl) T.m_led T.F_led.kp T.b_led (pass_own rfl rfl rfl rfl) (da_cons (do_of (de_var (pv 5))) (da_cons (do_of (de_var (pv 3))) (da_nil))))) (do_var (pv 4)) (nomark _))))))).pt) (ds_one (ds_ret (de_con pe_bl (fun _ => .bl _)))) (ds_nil)) (ds_cons (ds_if (dt_not (dt_val (by exact de_call (ps := ["row", "size"]) (fn := f_is_kept) (ok_is_kept T) (hr.mono (by decide)) (by rfl) T.m_is_kept T.F_is_kept.kp T.b_is_kept (pass_own rfl rfl rfl rfl) (da_cons (do_of (de_var (pv 2))) (da_cons (do_of (de_var (pv 1))) (da_nil)))))) (ds_one (ds_ret (de_cmp (op_ltA (hu0 hr)) (p_ord rfl _ _) (do_var (pv 5)) (do_var (pv 2)) (nomark _)))) (ds_nil)) (ds_cons (ds_set (i := 6) sc_law_great_right.nd rfl (.inl rfl) (by exact de_call (ps := ["row"]) (fn := f_settings_of) (ok_settings_of T) (hr.mono (by decide)) (by rfl) T.m_settings_of T.F_settings_of.kp T.b_settings_of (pass_own rfl rfl rfl rfl) (da_cons (do_of (de_var (pv 2))) (da_nil))) (.inr rfl)) (ds_cons (ds_if ((dw_or (dt_cmp (op_neD hr.units) (p_ne rfl) (do_of (by exact de_comp (own := [("_law_number", 8)]) rfl sc_law_great_right.nd (di_seq rfl (do_of (de_bin op_addA (p_add rfl) (do_of (de_ix ix_seq (p_ix rfl) (do_var (pv 6)) (do_of (de_con pe_int (fun _ => .int _))) (fun _ _ => rfl))) (do_of (de_ix ix_seq (p_ix rfl) (do_var (pv 6)) (do_of (de_con pe_int (fun _ => .int _))) (fun _ _ => rfl)))))) (blkOk_by (own := [("_law_number", 8)]) (N := N_law_great_right) (sc := defScope st_law_great_right) (by decide +kernel)) (fun _ _ _ _ _ => dg_nm (pg_name (i := 8) sc_law_great_right.nd rfl (by first | exact .inl rfl | exact .inr rfl))) (fun _ _ _ _ _ => dts_one (dt_not (dt_chn op_le (op_ltA (hu0 hr)) (p_cmp _) (p_ord rfl _ _) (do_of (de_con pe_int (fun _ => .int _))) (do_var (pv 8)) (do_var (pv 1))))) (fun _ _ _ _ _ => de_var (pv 8)))) (do_of (de_lst (da_nil))) (nomark _)) (dw_or1 (dt_cmp (op_neD hr.units) (p_ne rfl) (do_of (by exact de_call (ps := ["_law_tops", "_law_bottoms"]) (fn := f_law_earliest) (ok_law_earliest T) (hr.mono (by decide)) (by rfl) T.m_law_earliest T.F_law_earliest.kp T.b_law_earliest (pass_own rfl rfl rfl rfl) (da_cons (do_of (de_ix ix_seq (p_ix rfl) (do_var (pv 6)) (do_of (de_con pe_int (fun _ => .int _))) (fun _ _ => rfl))) (da_cons (do_of (de_ix ix_seq (p_ix rfl) (do_var (pv 6)) (do_of (de_con pe_int (fun _ => .int _))) (fun _ _ => rfl))) (da_nil))))) (do_var (pv 2)) (nomark _)))).pt) (ds_one (ds_ret (de_con pe_bl (fun _ => .bl _)))) (ds_nil)) (ds_one (ds_ret (de_and (de_cmp op_isA p_is (do_of (by exact de_call (ps := ["row", "size"]) (fn := f_is_kept) (ok_is_kept T) (hr.mono (by decide)) (by rfl) T.m_is_kept T.F_is_kept.kp T.b_is_kept (pass_own rfl rfl rfl rfl) (da_cons (do_of (de_var (pv 2))) (da_cons (do_of (de_bin op_addA (p_add rfl) (do_var (pv 1)) (do_of (de_con pe_int (fun _ => .int _))))) (da_nil))))) (do_of (de_con pe_bl (fun _ => .bl _))) (nomark _)) (de_one (de_cmp op_isA p_is (do_of (by exact de_call (ps := ["row", "size"]) (fn := f_is_kept) (ok_is_kept T) (hr.mono (by decide)) (by rfl) T.m_is_kept T.F_is_kept.kp T.b_is_kept (pass_own rfl rfl rfl rfl) (da_cons (do_of (de_var (pv 2))) (da_cons (do_of (de_con pe_int (fun _ => .int _))) (da_nil))))) (do_of (de_con pe_bl (fun _ => .bl _))) (nomark _)))))))))))))
end
end K08

end
section
set_option Elab.async false
set_option linter.all false
set_option maxRecDepth 100000
set_option autoImplicit false
set_option maxHeartbeats 0
open PySem PySem.Spec PyProof.Rows L2 TL
namespace K08
section
variable {P : Program} {w : World} {K : PySem.W.Frag} {mg : Str → Option Value} {base : Heap} {nb : Addr} {ca : Nat → Addr}
theorem ok_law_cup (T : Tab K mg) : FnOk P w K mg base (L2.CX P w) 1 T.a_law_cup T.d_law_cup ["_law_script"] (spCanN 62 K) := by
  refine T.F_law_cup.okX (k := 0) sc_law_cup (fun vs H Q E h => by obtain ⟨a, ns, rfl, _⟩ := h; rfl) (fun cdv A outer s H vs Q E hr h => ?_)
  obtain ⟨a, ns, rfl, hS, hl, q⟩ := h
  refine ⟨_, pss_one (ps_ret (pe_lst (pa_cons (pe_lc (own := [("_law_cell", 1)]) (g := gName 1) (tt := tYes) rfl sc_law_cup.nd (pi_list (pe_slice sl_list (pv 0) po_none (po_some pe_int))) (blkOk_by (N := N_law_cup) (sc := defScope st_law_cup) (by decide +kernel)) (fun _ _ _ _ _ => pg_name (i := 1) sc_law_cup.nd rfl (Or.inl rfl)) (fun _ _ _ _ _ => pts_nil) (fun _ _ _ _ _ => pe_callTy call_int1 (by rfl) T.z_int bt_int (pa_cons (pv 1) pa_nil))) (pa_cons pe_int (pa_cons pe_int pa_nil))))), ?_⟩
  refine ⟨_, rfl, 62, rfl, a, _, rfl, hS, fun c hc => ⟨c, rfl, ⟨_, .inl (.inl upd_same)⟩, fun D hD => ?_⟩⟩
  have e : cutV (ns.map V.int) none (some 62) = (ns.take 62).map V.int := by rw [List.map_take]; exact cut_take _ 62
  have s1 : Same H (upd H c (.lst (cutV (ns.map V.int) none (some 62)))) := lst_new hc
  refine can_lc (te := tCB (fun xs H Q => (∃ i, xs = [.int i] ∧ Q (.int i) H) ∨ ∃ k, xs = [.bl k] ∧ Q (.int (if k then 1 else 0)) H) (tCons (tVar 1) tNil)) (σ := start N_law_cup [.ref a]) (K := K) (c := c) (D := D) (ns := ns.take 62) (by rw [List.length_take]; omega) (by rw [upd_same, e]) hD (fun σ2 i H Q h1 h2 => ⟨_, h1, .inl ⟨i, rfl, h2⟩⟩) (by show 1 < 2; decide) (fun H' s2 hD' => ?_)
  refine ⟨by show 3 ≤ sizeLine; decide, fun p np => ?_⟩
  have npD : p ≠ D := fun z => by subst z; rw [hD'] at np; cases np
  exact q _ p D (fun b x h => lst_new np _ _ (s2 _ _ (s1 _ _ h))) npD upd_same (by rw [upd_ne (Ne.symm npD)]; exact hD')
def LawHolds : Prop := ∀ ns : List Int, ns.length ≤ 63 → (∀ z ∈ ns, Builtin.Int.intBits z ≤ 1048576) → ∃ S', b_law ⟨.no :: .sh .nib :: List.replicate 1 .no, [], ⟨ns.take 62, 0, 0⟩⟩ = .ok (.rt (.sh (.bl true))) S'
theorem ok_law (hL : LawHolds) (T : Tab K mg) : FnOk P w K mg base (L2.CX P w) 7 T.a_law T.d_law ["_law_script"] (spLaw K) := by
  refine T.F_law.okX (k := 6) sc_law (fun vs H Q E h => by obtain ⟨a, ns, rfl, _⟩ := h; rfl) (fun cdv A outer s H vs Q E hr h => ?_)
  obtain ⟨a, ns, rfl, hS, hl, hb, q⟩ := h
  refine ⟨_, pss_cons (ps_set (i := 1) sc_law.nd rfl (.inl rfl) (pe_call (ok_law_cup T) (hr.mono (by decide)) (by rfl) T.m_law_cup T.F_law_cup.kp T.b_law_cup .nil (pass_own rfl rfl rfl rfl) (pa_cons (pv 0) pa_nil))) (pss_nb (c := cLaw K (fun _ => 0) E) (f := b_law) fun nb => ?_), law_read (n := 3) (m := 62) rfl hS hl q (hL ns hl hb) rfl⟩
  exact ds_cons (ds_for (passes_of rfl) rfl (di_rng1 (by rfl) T.z_range (do_of (de_con pe_int (fun _ => .int _)))) (dg_nm (pg_name (i := 2) sc_law.nd rfl (by first | exact .inl rfl | exact .inr rfl))) (ds_one (ds_if ((dw_or (dt_not (dt_val (by exact de_call (ps := ["_law_cup_here"]) (fn := f_law_small_right) (ok_law_small_right T) (hr.mono (by decide)) (by rfl) T.m_law_small_right T.F_law_small_right.kp T.b_law_small_right (pass_own rfl rfl rfl rfl) (da_cons (do_of (de_var (pv 1))) (da_nil))))) (dw_or1 (dt_not (dt_val (by exact de_call (ps := ["_law_cup_here"]) (fn := f_law_great_right) (ok_law_great_right T) (hr.mono (by decide)) (by rfl) T.m_law_great_right T.F_law_great_right.kp T.b_law_great_right (pass_own rfl rfl rfl rfl) (da_cons (do_of (de_var (pv 1))) (da_nil))))))).pt) (ds_one (ds_ret (de_con pe_bl (fun _ => .bl _)))) (ds_nil)))) (ds_one (ds_ret (de_con pe_bl (fun _ => .bl _))))
end
def tab_mk {K : PySem.W.Frag} {h : Heap} {mg : Str → Option Value} (X : K.In h) (G : h.Ns mainGlobals mg)
    {f0 : Addr} {od0 an0 : Option Addr} {sl0 : Array (Option Value)} {oc0 kV0 dc0 pm0 cd0 ct0 : Value}
    {f1 : Addr} {od1 an1 : Option Addr} {sl1 : Array (Option Value)} {oc1 kV1 dc1 pm1 cd1 ct1 : Value}
    {f2 : Addr} {od2 an2 : Option Addr} {sl2 : Array (Option Value)} {oc2 kV2 dc2 pm2 cd2 ct2 : Value}
    {f3 : Addr} {od3 an3 : Option Addr} {sl3 : Array (Option Value)} {oc3 kV3 dc3 pm3 cd3 ct3 : Value}
    {f4 : Addr} {od4 an4 : Option Addr} {sl4 : Array (Option Value)} {oc4 kV4 dc4 pm4 cd4 ct4 : Value}
    {f5 : Addr} {od5 an5 : Option Addr} {sl5 : Array (Option Value)} {oc5 kV5 dc5 pm5 cd5 ct5 : Value}
    {f6 : Addr} {od6 an6 : Option Addr} {sl6 : Array (Option Value)} {oc6 kV6 dc6 pm6 cd6 ct6 : Value}
    {f7 : Addr} {od7 an7 : Option Addr} {sl7 : Array (Option Value)} {oc7 kV7 dc7 pm7 cd7 ct7 : Value}
    {f8 : Addr} {od8 an8 : Option Addr} {sl8 : Array (Option Value)} {oc8 kV8 dc8 pm8 cd8 ct8 : Value}
    {f9 : Addr} {od9 an9 : Option Addr} {sl9 : Array (Option Value)} {oc9 kV9 dc9 pm9 cd9 ct9 : Value}
    {f10 : Addr} {od10 an10 : Option Addr} {sl10 : Array (Option Value)} {oc10 kV10 dc10 pm10 cd10 ct10 : Value}
    {f11 : Addr} {od11 an11 : Option Addr} {sl11 : Array (Option Value)} {oc11 kV11 dc11 pm11 cd11 ct11 : Value}
    {f12 : Addr} {od12 an12 : Option Addr} {sl12 : Array (Option Value)} {oc12 kV12 dc12 pm12 cd12 ct12 : Value}
    {f13 : Addr} {od13 an13 : Option Addr} {sl13 : Array (Option Value)} {oc13 kV13 dc13 pm13 cd13 ct13 : Value}
    {f14 : Addr} {od14 an14 : Option Addr} {sl14 : Array (Option Value)} {oc14 kV14 dc14 pm14 cd14 ct14 : Value}
    {f15 : Addr} {od15 an15 : Option Addr} {sl15 : Array (Option Value)} {oc15 kV15 dc15 pm15 cd15 ct15 : Value}
    {f16 : Addr} {od16 an16 : Option Addr} {sl16 : Array (Option Value)} {oc16 kV16 dc16 pm16 cd16 ct16 : Value}
    {f17 : Addr} {od17 an17 : Option Addr} {sl17 : Array (Option Value)} {oc17 kV17 dc17 pm17 cd17 ct17 : Value}
    {f18 : Addr} {od18 an18 : Option Addr} {sl18 : Array (Option Value)} {oc18 kV18 dc18 pm18 cd18 ct18 : Value}
    {f19 : Addr} {od19 an19 : Option Addr} {sl19 : Array (Option Value)} {oc19 kV19 dc19 pm19 cd19 ct19 : Value}
    {f20 : Addr} {od20 an20 : Option Addr} {sl20 : Array (Option Value)} {oc20 kV20 dc20 pm20 cd20 ct20 : Value}
    {f21 : Addr} {od21 an21 : Option Addr} {sl21 : Array (Option Value)} {oc21 kV21 dc21 pm21 cd21 ct21 : Value}
    {f22 : Addr} {od22 an22 : Option Addr} {sl22 : Array (Option Value)} {oc22 kV22 dc22 pm22 cd22 ct22 : Value}
    {f23 : Addr} {od23 an23 : Option Addr} {sl23 : Array (Option Value)} {oc23 kV23 dc23 pm23 cd23 ct23 : Value}
    {f24 : Addr} {od24 an24 : Option Addr} {sl24 : Array (Option Value)} {oc24 kV24 dc24 pm24 cd24 ct24 : Value}
    {f25 : Addr} {od25 an25 : Option Addr} {sl25 : Array (Option Value)} {oc25 kV25 dc25 pm25 cd25 ct25 : Value}
    {tk_MOST_WIRES : Tok}
    (a0 : PySem.W.nsIn K mainGlobals "_law_cup" = some (some (.ref f0))) (l0 : K.lookup f0 = some ⟨oc0, od0, .func (PySem.W.fnOf "_law_cup" "_law_cup" (defArgs st_law_cup) (defBody st_law_cup) (defScope st_law_cup) .none kV0 dc0 pm0 an0 cd0 ct0), sl0⟩) (c0 : PySem.W.codeIn K cd0 "_law_cup" = true) (k0 : PySem.W.keepIn K (.ref f0) = true)
    (a1 : PySem.W.nsIn K mainGlobals "_law_scoop" = some (some (.ref f1))) (l1 : K.lookup f1 = some ⟨oc1, od1, .func (PySem.W.fnOf "_law_scoop" "_law_scoop" (defArgs st_law_scoop) (defBody st_law_scoop) (defScope st_law_scoop) .none kV1 dc1 pm1 an1 cd1 ct1), sl1⟩) (c1 : PySem.W.codeIn K cd1 "_law_scoop" = true) (k1 : PySem.W.keepIn K (.ref f1) = true)
    (a2 : PySem.W.nsIn K mainGlobals "_law_row" = some (some (.ref f2))) (l2 : K.lookup f2 = some ⟨oc2, od2, .func (PySem.W.fnOf "_law_row" "_law_row" (defArgs st_law_row) (defBody st_law_row) (defScope st_law_row) .none kV2 dc2 pm2 an2 cd2 ct2), sl2⟩) (c2 : PySem.W.codeIn K cd2 "_law_row" = true) (k2 : PySem.W.keepIn K (.ref f2) = true)
    (a3 : PySem.W.nsIn K mainGlobals "_law_settings" = some (some (.ref f3))) (l3 : K.lookup f3 = some ⟨oc3, od3, .func (PySem.W.fnOf "_law_settings" "_law_settings" (defArgs st_law_settings) (defBody st_law_settings) (defScope st_law_settings) .none kV3 dc3 pm3 an3 cd3 ct3), sl3⟩) (c3 : PySem.W.codeIn K cd3 "_law_settings" = true) (k3 : PySem.W.keepIn K (.ref f3) = true)
    (a4 : PySem.W.nsIn K mainGlobals "_law_earliest" = some (some (.ref f4))) (l4 : K.lookup f4 = some ⟨oc4, od4, .func (PySem.W.fnOf "_law_earliest" "_law_earliest" (defArgs st_law_earliest) (defBody st_law_earliest) (defScope st_law_earliest) .none kV4 dc4 pm4 an4 cd4 ct4), sl4⟩) (c4 : PySem.W.codeIn K cd4 "_law_earliest" = true) (k4 : PySem.W.keepIn K (.ref f4) = true)
    (a5 : PySem.W.nsIn K mainGlobals "_law_led" = some (some (.ref f5))) (l5 : K.lookup f5 = some ⟨oc5, od5, .func (PySem.W.fnOf "_law_led" "_law_led" (defArgs st_law_led) (defBody st_law_led) (defScope st_law_led) .none kV5 dc5 pm5 an5 cd5 ct5), sl5⟩) (c5 : PySem.W.codeIn K cd5 "_law_led" = true) (k5 : PySem.W.keepIn K (.ref f5) = true)
    (a6 : PySem.W.nsIn K mainGlobals "is_integer" = some (some (.ref f6))) (l6 : K.lookup f6 = some ⟨oc6, od6, .func (PySem.W.fnOf "is_integer" "is_integer" (defArgs st_is_integer) (defBody st_is_integer) (defScope st_is_integer) .none kV6 dc6 pm6 an6 cd6 ct6), sl6⟩) (c6 : PySem.W.codeIn K cd6 "is_integer" = true) (k6 : PySem.W.keepIn K (.ref f6) = true)
    (a7 : PySem.W.nsIn K mainGlobals "is_numbers" = some (some (.ref f7))) (l7 : K.lookup f7 = some ⟨oc7, od7, .func (PySem.W.fnOf "is_numbers" "is_numbers" (defArgs st_is_numbers) (defBody st_is_numbers) (defScope st_is_numbers) .none kV7 dc7 pm7 an7 cd7 ct7), sl7⟩) (c7 : PySem.W.codeIn K cd7 "is_numbers" = true) (k7 : PySem.W.keepIn K (.ref f7) = true)
    (a8 : PySem.W.nsIn K mainGlobals "is_wiring" = some (some (.ref f8))) (l8 : K.lookup f8 = some ⟨oc8, od8, .func (PySem.W.fnOf "is_wiring" "is_wiring" (defArgs st_is_wiring) (defBody st_is_wiring) (defScope st_is_wiring) .none kV8 dc8 pm8 an8 cd8 ct8), sl8⟩) (c8 : PySem.W.codeIn K cd8 "is_wiring" = true) (k8 : PySem.W.keepIn K (.ref f8) = true)
    (a9 : PySem.W.nsIn K mainGlobals "need_wiring" = some (some (.ref f9))) (l9 : K.lookup f9 = some ⟨oc9, od9, .func (PySem.W.fnOf "need_wiring" "need_wiring" (defArgs st_need_wiring) (defBody st_need_wiring) (defScope st_need_wiring) .none kV9 dc9 pm9 an9 cd9 ct9), sl9⟩) (c9 : PySem.W.codeIn K cd9 "need_wiring" = true) (k9 : PySem.W.keepIn K (.ref f9) = true)
    (a10 : PySem.W.nsIn K mainGlobals "is_within" = some (some (.ref f10))) (l10 : K.lookup f10 = some ⟨oc10, od10, .func (PySem.W.fnOf "is_within" "is_within" (defArgs st_is_within) (defBody st_is_within) (defScope st_is_within) .none kV10 dc10 pm10 an10 cd10 ct10), sl10⟩) (c10 : PySem.W.codeIn K cd10 "is_within" = true) (k10 : PySem.W.keepIn K (.ref f10) = true)
    (a11 : PySem.W.nsIn K mainGlobals "is_size" = some (some (.ref f11))) (l11 : K.lookup f11 = some ⟨oc11, od11, .func (PySem.W.fnOf "is_size" "is_size" (defArgs st_is_size) (defBody st_is_size) (defScope st_is_size) .none kV11 dc11 pm11 an11 cd11 ct11), sl11⟩) (c11 : PySem.W.codeIn K cd11 "is_size" = true) (k11 : PySem.W.keepIn K (.ref f11) = true)
    (a12 : PySem.W.nsIn K mainGlobals "need_size" = some (some (.ref f12))) (l12 : K.lookup f12 = some ⟨oc12, od12, .func (PySem.W.fnOf "need_size" "need_size" (defArgs st_need_size) (defBody st_need_size) (defScope st_need_size) .none kV12 dc12 pm12 an12 cd12 ct12), sl12⟩) (c12 : PySem.W.codeIn K cd12 "need_size" = true) (k12 : PySem.W.keepIn K (.ref f12) = true)
    (a13 : PySem.W.nsIn K mainGlobals "colours_of" = some (some (.ref f13))) (l13 : K.lookup f13 = some ⟨oc13, od13, .func (PySem.W.fnOf "colours_of" "colours_of" (defArgs st_colours_of) (defBody st_colours_of) (defScope st_colours_of) .none kV13 dc13 pm13 an13 cd13 ct13), sl13⟩) (c13 : PySem.W.codeIn K cd13 "colours_of" = true) (k13 : PySem.W.keepIn K (.ref f13) = true)
    (a14 : PySem.W.nsIn K mainGlobals "are_kept" = some (some (.ref f14))) (l14 : K.lookup f14 = some ⟨oc14, od14, .func (PySem.W.fnOf "are_kept" "are_kept" (defArgs st_are_kept) (defBody st_are_kept) (defScope st_are_kept) .none kV14 dc14 pm14 an14 cd14 ct14), sl14⟩) (c14 : PySem.W.codeIn K cd14 "are_kept" = true) (k14 : PySem.W.keepIn K (.ref f14) = true)
    (a15 : PySem.W.nsIn K mainGlobals "is_kept" = some (some (.ref f15))) (l15 : K.lookup f15 = some ⟨oc15, od15, .func (PySem.W.fnOf "is_kept" "is_kept" (defArgs st_is_kept) (defBody st_is_kept) (defScope st_is_kept) .none kV15 dc15 pm15 an15 cd15 ct15), sl15⟩) (c15 : PySem.W.codeIn K cd15 "is_kept" = true) (k15 : PySem.W.keepIn K (.ref f15) = true)
    (a16 : PySem.W.nsIn K mainGlobals "_law_small_right" = some (some (.ref f16))) (l16 : K.lookup f16 = some ⟨oc16, od16, .func (PySem.W.fnOf "_law_small_right" "_law_small_right" (defArgs st_law_small_right) (defBody st_law_small_right) (defScope st_law_small_right) .none kV16 dc16 pm16 an16 cd16 ct16), sl16⟩) (c16 : PySem.W.codeIn K cd16 "_law_small_right" = true) (k16 : PySem.W.keepIn K (.ref f16) = true)
    (a17 : PySem.W.nsIn K mainGlobals "back_of" = some (some (.ref f17))) (l17 : K.lookup f17 = some ⟨oc17, od17, .func (PySem.W.fnOf "back_of" "back_of" (defArgs st_back_of) (defBody st_back_of) (defScope st_back_of) .none kV17 dc17 pm17 an17 cd17 ct17), sl17⟩) (c17 : PySem.W.codeIn K cd17 "back_of" = true) (k17 : PySem.W.keepIn K (.ref f17) = true)
    (a18 : PySem.W.nsIn K mainGlobals "led_by" = some (some (.ref f18))) (l18 : K.lookup f18 = some ⟨oc18, od18, .func (PySem.W.fnOf "led_by" "led_by" (defArgs st_led_by) (defBody st_led_by) (defScope st_led_by) .none kV18 dc18 pm18 an18 cd18 ct18), sl18⟩) (c18 : PySem.W.codeIn K cd18 "led_by" = true) (k18 : PySem.W.keepIn K (.ref f18) = true)
    (a19 : PySem.W.nsIn K mainGlobals "is_setting" = some (some (.ref f19))) (l19 : K.lookup f19 = some ⟨oc19, od19, .func (PySem.W.fnOf "is_setting" "is_setting" (defArgs st_is_setting) (defBody st_is_setting) (defScope st_is_setting) .none kV19 dc19 pm19 an19 cd19 ct19), sl19⟩) (c19 : PySem.W.codeIn K cd19 "is_setting" = true) (k19 : PySem.W.keepIn K (.ref f19) = true)
    (a20 : PySem.W.nsIn K mainGlobals "need_setting" = some (some (.ref f20))) (l20 : K.lookup f20 = some ⟨oc20, od20, .func (PySem.W.fnOf "need_setting" "need_setting" (defArgs st_need_setting) (defBody st_need_setting) (defScope st_need_setting) .none kV20 dc20 pm20 an20 cd20 ct20), sl20⟩) (c20 : PySem.W.codeIn K cd20 "need_setting" = true) (k20 : PySem.W.keepIn K (.ref f20) = true)
    (a21 : PySem.W.nsIn K mainGlobals "led" = some (some (.ref f21))) (l21 : K.lookup f21 = some ⟨oc21, od21, .func (PySem.W.fnOf "led" "led" (defArgs st_led) (defBody st_led) (defScope st_led) .none kV21 dc21 pm21 an21 cd21 ct21), sl21⟩) (c21 : PySem.W.codeIn K cd21 "led" = true) (k21 : PySem.W.keepIn K (.ref f21) = true)
    (a22 : PySem.W.nsIn K mainGlobals "settings_by" = some (some (.ref f22))) (l22 : K.lookup f22 = some ⟨oc22, od22, .func (PySem.W.fnOf "settings_by" "settings_by" (defArgs st_settings_by) (defBody st_settings_by) (defScope st_settings_by) .none kV22 dc22 pm22 an22 cd22 ct22), sl22⟩) (c22 : PySem.W.codeIn K cd22 "settings_by" = true) (k22 : PySem.W.keepIn K (.ref f22) = true)
    (a23 : PySem.W.nsIn K mainGlobals "settings_of" = some (some (.ref f23))) (l23 : K.lookup f23 = some ⟨oc23, od23, .func (PySem.W.fnOf "settings_of" "settings_of" (defArgs st_settings_of) (defBody st_settings_of) (defScope st_settings_of) .none kV23 dc23 pm23 an23 cd23 ct23), sl23⟩) (c23 : PySem.W.codeIn K cd23 "settings_of" = true) (k23 : PySem.W.keepIn K (.ref f23) = true)
    (a24 : PySem.W.nsIn K mainGlobals "_law_great_right" = some (some (.ref f24))) (l24 : K.lookup f24 = some ⟨oc24, od24, .func (PySem.W.fnOf "_law_great_right" "_law_great_right" (defArgs st_law_great_right) (defBody st_law_great_right) (defScope st_law_great_right) .none kV24 dc24 pm24 an24 cd24 ct24), sl24⟩) (c24 : PySem.W.codeIn K cd24 "_law_great_right" = true) (k24 : PySem.W.keepIn K (.ref f24) = true)
    (a25 : PySem.W.nsIn K mainGlobals "law" = some (some (.ref f25))) (l25 : K.lookup f25 = some ⟨oc25, od25, .func (PySem.W.fnOf "law" "law" (defArgs st_law) (defBody st_law) (defScope st_law) .none kV25 dc25 pm25 an25 cd25 ct25), sl25⟩) (c25 : PySem.W.codeIn K cd25 "law" = true) (k25 : PySem.W.keepIn K (.ref f25) = true)
    (z_abs : PySem.W.nsIn K mainGlobals "abs" = some none)
    (z_all : PySem.W.nsIn K mainGlobals "all" = some none)
    (z_bool : PySem.W.nsIn K mainGlobals "bool" = some none)
    (z_enumerate : PySem.W.nsIn K mainGlobals "enumerate" = some none)
    (z_int : PySem.W.nsIn K mainGlobals "int" = some none)
    (z_isinstance : PySem.W.nsIn K mainGlobals "isinstance" = some none)
    (z_len : PySem.W.nsIn K mainGlobals "len" = some none)
    (z_list : PySem.W.nsIn K mainGlobals "list" = some none)
    (z_max : PySem.W.nsIn K mainGlobals "max" = some none)
    (z_range : PySem.W.nsIn K mainGlobals "range" = some none)
    (z_repr : PySem.W.nsIn K mainGlobals "repr" = some none)
    (z_sorted : PySem.W.nsIn K mainGlobals "sorted" = some none)
    (z_tuple : PySem.W.nsIn K mainGlobals "tuple" = some none)
    (g_MOST_WIRES : PySem.W.nsIn K mainGlobals "MOST_WIRES" = some (some (.int 6 tk_MOST_WIRES))) : Tab K mg where
  a_law_cup := f0
  d_law_cup := _
  F_law_cup := fun_mk (st := st_law_cup) l0 c0 k0
  m_law_cup := PySem.W.mg_of X G a0
  b_law_cup := (fun_mk (st := st_law_cup) l0 c0 k0).binds (ps := ["_law_script"]) fun _ _ _ _ _ _ us hl => match us, hl with | [_], _ => rfl
  a_law_scoop := f1
  d_law_scoop := _
  F_law_scoop := fun_mk (st := st_law_scoop) l1 c1 k1
  m_law_scoop := PySem.W.mg_of X G a1
  b_law_scoop := (fun_mk (st := st_law_scoop) l1 c1 k1).binds (ps := ["_law_cup_here", "_law_many"]) fun _ _ _ _ _ _ us hl => match us, hl with | [_, _], _ => rfl
  a_law_row := f2
  d_law_row := _
  F_law_row := fun_mk (st := st_law_row) l2 c2 k2
  m_law_row := PySem.W.mg_of X G a2
  b_law_row := (fun_mk (st := st_law_row) l2 c2 k2).binds (ps := ["_law_cup_here", "_law_wires"]) fun _ _ _ _ _ _ us hl => match us, hl with | [_, _], _ => rfl
  a_law_settings := f3
  d_law_settings := _
  F_law_settings := fun_mk (st := st_law_settings) l3 c3 k3
  m_law_settings := PySem.W.mg_of X G a3
  b_law_settings := (fun_mk (st := st_law_settings) l3 c3 k3).binds (ps := ["_law_wires", "_law_size"]) fun _ _ _ _ _ _ us hl => match us, hl with | [_, _], _ => rfl
  a_law_earliest := f4
  d_law_earliest := _
  F_law_earliest := fun_mk (st := st_law_earliest) l4 c4 k4
  m_law_earliest := PySem.W.mg_of X G a4
  b_law_earliest := (fun_mk (st := st_law_earliest) l4 c4 k4).binds (ps := ["_law_tops", "_law_bottoms"]) fun _ _ _ _ _ _ us hl => match us, hl with | [_, _], _ => rfl
  a_law_led := f5
  d_law_led := _
  F_law_led := fun_mk (st := st_law_led) l5 c5 k5
  m_law_led := PySem.W.mg_of X G a5
  b_law_led := (fun_mk (st := st_law_led) l5 c5 k5).binds (ps := ["_law_row_here", "_law_tops"]) fun _ _ _ _ _ _ us hl => match us, hl with | [_, _], _ => rfl
  a_is_integer := f6
  d_is_integer := _
  F_is_integer := fun_mk (st := st_is_integer) l6 c6 k6
  m_is_integer := PySem.W.mg_of X G a6
  b_is_integer := (fun_mk (st := st_is_integer) l6 c6 k6).binds (ps := ["value"]) fun _ _ _ _ _ _ us hl => match us, hl with | [_], _ => rfl
  a_is_numbers := f7
  d_is_numbers := _
  F_is_numbers := fun_mk (st := st_is_numbers) l7 c7 k7
  m_is_numbers := PySem.W.mg_of X G a7
  b_is_numbers := (fun_mk (st := st_is_numbers) l7 c7 k7).binds (ps := ["value"]) fun _ _ _ _ _ _ us hl => match us, hl with | [_], _ => rfl
  a_is_wiring := f8
  d_is_wiring := _
  F_is_wiring := fun_mk (st := st_is_wiring) l8 c8 k8
  m_is_wiring := PySem.W.mg_of X G a8
  b_is_wiring := (fun_mk (st := st_is_wiring) l8 c8 k8).binds (ps := ["value"]) fun _ _ _ _ _ _ us hl => match us, hl with | [_], _ => rfl
  a_need_wiring := f9
  d_need_wiring := _
  F_need_wiring := fun_mk (st := st_need_wiring) l9 c9 k9
  m_need_wiring := PySem.W.mg_of X G a9
  b_need_wiring := (fun_mk (st := st_need_wiring) l9 c9 k9).binds (ps := ["value", "part"]) fun _ _ _ _ _ _ us hl => match us, hl with | [_, _], _ => rfl
  a_is_within := f10
  d_is_within := _
  F_is_within := fun_mk (st := st_is_within) l10 c10 k10
  m_is_within := PySem.W.mg_of X G a10
  b_is_within := (fun_mk (st := st_is_within) l10 c10 k10).binds (ps := ["value", "least", "most"]) fun _ _ _ _ _ _ us hl => match us, hl with | [_, _, _], _ => rfl
  a_is_size := f11
  d_is_size := _
  F_is_size := fun_mk (st := st_is_size) l11 c11 k11
  m_is_size := PySem.W.mg_of X G a11
  b_is_size := (fun_mk (st := st_is_size) l11 c11 k11).binds (ps := ["value"]) fun _ _ _ _ _ _ us hl => match us, hl with | [_], _ => rfl
  a_need_size := f12
  d_need_size := _
  F_need_size := fun_mk (st := st_need_size) l12 c12 k12
  m_need_size := PySem.W.mg_of X G a12
  b_need_size := (fun_mk (st := st_need_size) l12 c12 k12).binds (ps := ["value"]) fun _ _ _ _ _ _ us hl => match us, hl with | [_], _ => rfl
  a_colours_of := f13
  d_colours_of := _
  F_colours_of := fun_mk (st := st_colours_of) l13 c13 k13
  m_colours_of := PySem.W.mg_of X G a13
  b_colours_of := (fun_mk (st := st_colours_of) l13 c13 k13).binds (ps := ["row"]) fun _ _ _ _ _ _ us hl => match us, hl with | [_], _ => rfl
  a_are_kept := f14
  d_are_kept := _
  F_are_kept := fun_mk (st := st_are_kept) l14 c14 k14
  m_are_kept := PySem.W.mg_of X G a14
  b_are_kept := (fun_mk (st := st_are_kept) l14 c14 k14).binds (ps := ["row", "size"]) fun _ _ _ _ _ _ us hl => match us, hl with | [_, _], _ => rfl
  a_is_kept := f15
  d_is_kept := _
  F_is_kept := fun_mk (st := st_is_kept) l15 c15 k15
  m_is_kept := PySem.W.mg_of X G a15
  b_is_kept := (fun_mk (st := st_is_kept) l15 c15 k15).binds (ps := ["row", "size"]) fun _ _ _ _ _ _ us hl => match us, hl with | [_, _], _ => rfl
  a_law_small_right := f16
  d_law_small_right := _
  F_law_small_right := fun_mk (st := st_law_small_right) l16 c16 k16
  m_law_small_right := PySem.W.mg_of X G a16
  b_law_small_right := (fun_mk (st := st_law_small_right) l16 c16 k16).binds (ps := ["_law_cup_here"]) fun _ _ _ _ _ _ us hl => match us, hl with | [_], _ => rfl
  a_back_of := f17
  d_back_of := _
  F_back_of := fun_mk (st := st_back_of) l17 c17 k17
  m_back_of := PySem.W.mg_of X G a17
  b_back_of := (fun_mk (st := st_back_of) l17 c17 k17).binds (ps := ["row"]) fun _ _ _ _ _ _ us hl => match us, hl with | [_], _ => rfl
  a_led_by := f18
  d_led_by := _
  F_led_by := fun_mk (st := st_led_by) l18 c18 k18
  m_led_by := PySem.W.mg_of X G a18
  b_led_by := (fun_mk (st := st_led_by) l18 c18 k18).binds (ps := ["row", "setting"]) fun _ _ _ _ _ _ us hl => match us, hl with | [_, _], _ => rfl
  a_is_setting := f19
  d_is_setting := _
  F_is_setting := fun_mk (st := st_is_setting) l19 c19 k19
  m_is_setting := PySem.W.mg_of X G a19
  b_is_setting := (fun_mk (st := st_is_setting) l19 c19 k19).binds (ps := ["value", "many"]) fun _ _ _ _ _ _ us hl => match us, hl with | [_, _], _ => rfl
  a_need_setting := f20
  d_need_setting := _
  F_need_setting := fun_mk (st := st_need_setting) l20 c20 k20
  m_need_setting := PySem.W.mg_of X G a20
  b_need_setting := (fun_mk (st := st_need_setting) l20 c20 k20).binds (ps := ["value", "many", "part"]) fun _ _ _ _ _ _ us hl => match us, hl with | [_, _, _], _ => rfl
  a_led := f21
  d_led := _
  F_led := fun_mk (st := st_led) l21 c21 k21
  m_led := PySem.W.mg_of X G a21
  b_led := (fun_mk (st := st_led) l21 c21 k21).binds (ps := ["row", "setting"]) fun _ _ _ _ _ _ us hl => match us, hl with | [_, _], _ => rfl
  a_settings_by := f22
  d_settings_by := _
  F_settings_by := fun_mk (st := st_settings_by) l22 c22 k22
  m_settings_by := PySem.W.mg_of X G a22
  b_settings_by := (fun_mk (st := st_settings_by) l22 c22 k22).binds (ps := ["row"]) fun _ _ _ _ _ _ us hl => match us, hl with | [_], _ => rfl
  a_settings_of := f23
  d_settings_of := _
  F_settings_of := fun_mk (st := st_settings_of) l23 c23 k23
  m_settings_of := PySem.W.mg_of X G a23
  b_settings_of := (fun_mk (st := st_settings_of) l23 c23 k23).binds (ps := ["row"]) fun _ _ _ _ _ _ us hl => match us, hl with | [_], _ => rfl
  a_law_great_right := f24
  d_law_great_right := _
  F_law_great_right := fun_mk (st := st_law_great_right) l24 c24 k24
  m_law_great_right := PySem.W.mg_of X G a24
  b_law_great_right := (fun_mk (st := st_law_great_right) l24 c24 k24).binds (ps := ["_law_cup_here"]) fun _ _ _ _ _ _ us hl => match us, hl with | [_], _ => rfl
  a_law := f25
  d_law := _
  F_law := fun_mk (st := st_law) l25 c25 k25
  m_law := PySem.W.mg_of X G a25
  b_law := (fun_mk (st := st_law) l25 c25 k25).binds (ps := ["_law_script"]) fun _ _ _ _ _ _ us hl => match us, hl with | [_], _ => rfl
  z_abs := PySem.W.mg_none_of X G z_abs
  z_all := PySem.W.mg_none_of X G z_all
  z_bool := PySem.W.mg_none_of X G z_bool
  z_enumerate := PySem.W.mg_none_of X G z_enumerate
  z_int := PySem.W.mg_none_of X G z_int
  z_isinstance := PySem.W.mg_none_of X G z_isinstance
  z_len := PySem.W.mg_none_of X G z_len
  z_list := PySem.W.mg_none_of X G z_list
  z_max := PySem.W.mg_none_of X G z_max
  z_range := PySem.W.mg_none_of X G z_range
  z_repr := PySem.W.mg_none_of X G z_repr
  z_sorted := PySem.W.mg_none_of X G z_sorted
  z_tuple := PySem.W.mg_none_of X G z_tuple
  tk_MOST_WIRES := tk_MOST_WIRES
  c_MOST_WIRES := PySem.W.mg_of X G g_MOST_WIRES
theorem law_fact (hL : LawHolds) {l : PySem.W.OpenLaw} {w : World} {K : PySem.W.Frag} {mg : Str → Option Value} {fa : Addr} (T : Tab K mg) (hfa : mg "law" = some (.ref fa)) (hb : ∀ (s : Shared) (v : Value), BindsTo s T.d_law ⟨[v], []⟩ [("_law_script", v)]) :
    ∃ fd : FuncData, (∀ (s : Shared) (v : Value), BindsTo s fd ⟨[v], []⟩ [("_law_script", v)]) ∧ ∀ base : Heap, K.In base → base.Ns mainGlobals mg → FnOk l.prog w K mg base (L2.CX l.prog w) 7 fa fd ["_law_script"] (spLaw K) := by
  have e := hfa.symm.trans T.m_law
  cases e
  exact ⟨T.d_law, hb, fun base _ _ => ok_law hL T⟩
end K08

end
section
set_option Elab.async false
set_option linter.all false
set_option maxRecDepth 100000
set_option autoImplicit false
set_option maxHeartbeats 400000
open PySem PySem.Spec PyProof.Rows L2 TL
namespace K08
theorem r_is_integer (z : Int) (nb : Nib) : f_is_integer [.int z] nb = .ok (.sh (.bl true)) nb := by
  simp [f_is_integer, fnOf, fnEnd, b_is_integer, sta0, N_is_integer, var_sh, isN_int_int, isN_int_bool]
theorem r_is_numbers_l (p : List Nat) (nb : Nib) (hp : p.length ≤ 1000) : f_is_numbers [.lst (tn p)] nb = .ok (.sh (.bl true)) nb := by
  have h := compF_run (own := [1]) (it := seqI (opE (varE 0))) (tg := .nm 1) (tt := yesT) (te := callF 1 f_is_integer (consA (opE (varE 1)) nilA)) (S := ⟨[.sh (.lst (tn p)), .no], [], nb⟩) (S1 := ⟨[.sh (.lst (tn p)), .no], [], nb⟩) (ts := tn p) (fun _ => some (.bl true)) (by simp [varE_sh]) rfl (by decide) (by simp [sz]; omega) (fun t ht acc => by
    obtain ⟨n, _, rfl⟩ := List.mem_map.mp ht
    simp [compStep, varE_sh, r_is_integer])
  simp [f_is_numbers, fnOf, fnEnd, b_is_numbers, sta0, N_is_numbers, var_sh, isN_lst, h, filterMap_const, allN_rep]
theorem r_is_numbers_t (p : List Nat) (nb : Nib) (hp : p.length ≤ 1000) : f_is_numbers [.tup (tn p)] nb = .ok (.sh (.bl true)) nb := by
  have h := compF_run (own := [1]) (it := seqI (opE (varE 0))) (tg := .nm 1) (tt := yesT) (te := callF 1 f_is_integer (consA (opE (varE 1)) nilA)) (S := ⟨[.sh (.tup (tn p)), .no], [], nb⟩) (S1 := ⟨[.sh (.tup (tn p)), .no], [], nb⟩) (ts := tn p) (fun _ => some (.bl true)) (by simp [varE_sh]) rfl (by decide) (by simp [sz]; omega) (fun t ht acc => by
    obtain ⟨n, _, rfl⟩ := List.mem_map.mp ht
    simp [compStep, varE_sh, r_is_integer])
  simp [f_is_numbers, fnOf, fnEnd, b_is_numbers, sta0, N_is_numbers, var_sh, isN_tup, h, filterMap_const, allN_rep]

theorem sortI_range (p : List Nat) (n : Nat) (hp : p.Perm (List.range n)) : sortI (p.map fun (n : Nat) => (n : Int)) = (List.range n).map fun (n : Nat) => (n : Int) := by
  refine List.Perm.eq_of_pairwise (le := (· ≤ ·)) (fun a b _ _ h1 h2 => Int.le_antisymm h1 h2) (sortI_pw _) ?_ ((sortI_perm _).trans (hp.map _))
  rw [List.pairwise_map]
  exact (List.pairwise_lt_range).imp fun h => by omega
theorem intsT_tn (p : List Nat) : intsT (tn p) = some (p.map fun (n : Nat) => (n : Int)) := by
  have := intsT_map (p.map fun (n : Nat) => (n : Int))
  rwa [List.map_map] at this
theorem sorted_l (p : List Nat) (n : Nat) (hp : p.Perm (List.range n)) : sortedN [.lst (tn p)] = some (.ow (.lst (tn (List.range n)))) := by
  show (intsT (tn p)).map _ = _
  rw [intsT_tn, Option.map_some, sortI_range p n hp, List.map_map]; rfl
theorem sorted_t (p : List Nat) (n : Nat) (hp : p.Perm (List.range n)) : sortedN [.tup (tn p)] = some (.ow (.lst (tn (List.range n)))) := by
  show (intsT (tn p)).map _ = _
  rw [intsT_tn, Option.map_some, sortI_range p n hp, List.map_map]; rfl
theorem lrg_n (n : Nat) (h : n ≤ 1000) : lrg1 (.int (n : Int)) = some (.ow (.lst (tn (List.range n)))) := by
  show (if -(2 ^ 62) ≤ (n : Int) ∧ (n : Int) ≤ 16777216 then some (Slot.ow (T.lst (rgT 0 n))) else none) = _
  rw [if_pos (by omega), rg_tn]
theorem le_nat (a b : Nat) : leT (.int (a : Int)) (.int (b : Int)) = some (.sh (.bl (decide (a ≤ b)))) := by
  show some (Slot.sh (T.bl (decide ((a : Int) ≤ b)))) = _
  simp
def sq (b : Bool) (ts : List T) : T := if b then .tup ts else .lst ts
theorem r_is_numbers (b : Bool) (p : List Nat) (nb : Nib) (hp : p.length ≤ 1000) : f_is_numbers [sq b (tn p)] nb = .ok (.sh (.bl true)) nb := by
  cases b
  · exact r_is_numbers_l p nb hp
  · exact r_is_numbers_t p nb hp
theorem r_is_wiring (b : Bool) (p : List Nat) (n : Nat) (nb : Nib) (hp : p.Perm (List.range n)) (h1 : 1 ≤ n) (h6 : n ≤ 6) : f_is_wiring [sq b (tn p)] nb = .ok (.sh (.bl true)) nb := by
  have hl : p.length = n := by rw [hp.length_eq, List.length_range]
  have hn := r_is_numbers b p nb (by omega)
  cases b
  · have hn : f_is_numbers [.lst (tn p)] nb = .ok (.sh (.bl true)) nb := hn
    simp [f_is_wiring, fnOf, fnEnd, b_is_wiring, sta0, N_is_wiring, var_sh, varE_sh, sq, hn, lenN, hl, sorted_l p n hp, lrg_n n (by omega), eq_lst, show leT (.int 1) (.int (n : Int)) = some (.sh (.bl true)) by rw [show (1 : Int) = ((1 : Nat) : Int) from rfl, le_nat]; simp [h1], show leT (.int (n : Int)) (.int 6) = some (.sh (.bl true)) by rw [show (6 : Int) = ((6 : Nat) : Int) from rfl, le_nat]; simp [h6]]
  · have hn : f_is_numbers [.tup (tn p)] nb = .ok (.sh (.bl true)) nb := hn
    simp [f_is_wiring, fnOf, fnEnd, b_is_wiring, sta0, N_is_wiring, var_sh, varE_sh, sq, hn, lenN, hl, sorted_t p n hp, lrg_n n (by omega), eq_lst, show leT (.int 1) (.int (n : Int)) = some (.sh (.bl true)) by rw [show (1 : Int) = ((1 : Nat) : Int) from rfl, le_nat]; simp [h1], show leT (.int (n : Int)) (.int 6) = some (.sh (.bl true)) by rw [show (6 : Int) = ((6 : Nat) : Int) from rfl, le_nat]; simp [h6]]
theorem r_need_wiring (b : Bool) (p : List Nat) (n : Nat) (x : T) (nb : Nib) (hp : p.Perm (List.range n)) (h1 : 1 ≤ n) (h6 : n ≤ 6) : f_need_wiring [sq b (tn p), x] nb = .ok (.sh (.tup (tn p))) nb := by
  have hn := r_is_wiring b p n nb hp h1 h6
  cases b
  · have hn : f_is_wiring [.lst (tn p)] nb = .ok (.sh (.bl true)) nb := hn
    simp [f_need_wiring, fnOf, fnEnd, b_need_wiring, sta0, N_need_wiring, var_sh, varE_sh, sq, hn, tupleN]
  · have hn : f_is_wiring [.tup (tn p)] nb = .ok (.sh (.bl true)) nb := hn
    simp [f_need_wiring, fnOf, fnEnd, b_need_wiring, sta0, N_need_wiring, var_sh, varE_sh, sq, hn, tupleN]
theorem ge0 (n : Nat) : geT (.int (n : Int)) (.int 0) = some (.sh (.bl true)) := by
  show some (Slot.sh (T.bl (decide ((0 : Int) ≤ n)))) = _
  simp
theorem r_is_setting (b : Bool) (p : List Nat) (n : Nat) (nb : Nib) (hl : p.length = n) (h6 : n ≤ 1000) : f_is_setting [sq b (tn p), .int (n : Int)] nb = .ok (.sh (.bl true)) nb := by
  have hn := r_is_numbers b p nb (by omega)
  have h := compF_run (own := [2]) (it := seqI (opE (varE 0))) (tg := .nm 2) (tt := yesT) (te := op2 geT (var 2) (opE (con (.int 0)))) (S := ⟨[.sh (sq b (tn p)), .sh (.int (n : Int)), .no], [], nb⟩) (S1 := ⟨[.sh (sq b (tn p)), .sh (.int (n : Int)), .no], [], nb⟩) (ts := tn p) (fun _ => some (.bl true)) (by cases b <;> simp [varE_sh, sq]) rfl (by decide) (by simp [sz]; omega) (fun t ht acc => by
    obtain ⟨n, _, rfl⟩ := List.mem_map.mp ht
    simp [compStep, var_sh, ge0])
  cases b
  · have hn : f_is_numbers [.lst (tn p)] nb = .ok (.sh (.bl true)) nb := hn
    have h : _ = _ := h
    simp only [sq] at h
    simp [f_is_setting, fnOf, fnEnd, b_is_setting, sta0, N_is_setting, var_sh, varE_sh, sq, hn, lenN, hl, TL.eq_int, filterMap_const, allN_rep] at h ⊢
    simp [h, allN_rep]
  · have hn : f_is_numbers [.tup (tn p)] nb = .ok (.sh (.bl true)) nb := hn
    simp only [sq] at h
    simp [f_is_setting, fnOf, fnEnd, b_is_setting, sta0, N_is_setting, var_sh, varE_sh, sq, hn, lenN, hl, TL.eq_int, filterMap_const, allN_rep] at h ⊢
    simp [h, allN_rep]
theorem r_need_setting (b : Bool) (p : List Nat) (n : Nat) (x : T) (nb : Nib) (hl : p.length = n) (h6 : n ≤ 1000) : f_need_setting [sq b (tn p), .int (n : Int), x] nb = .ok (.sh (.tup (tn p))) nb := by
  have hn := r_is_setting b p n nb hl h6
  cases b
  · have hn : f_is_setting [.lst (tn p), .int (n : Int)] nb = .ok (.sh (.bl true)) nb := hn
    simp [f_need_setting, fnOf, fnEnd, b_need_setting, sta0, N_need_setting, var_sh, varE_sh, sq, hn, tupleN]
  · have hn : f_is_setting [.tup (tn p), .int (n : Int)] nb = .ok (.sh (.bl true)) nb := hn
    simp [f_need_setting, fnOf, fnEnd, b_need_setting, sta0, N_need_setting, var_sh, varE_sh, sq, hn, tupleN]
end K08

end
section
set_option Elab.async false
set_option linter.all false
set_option maxRecDepth 100000
set_option autoImplicit false
set_option maxHeartbeats 400000
open PySem PySem.Spec PyProof.Rows L2 TL
namespace K08
/-! back_of, led_by -/
def backL (i : Nat) : List Nat → List Nat → List Nat
  | [], acc => acc
  | b :: p, acc => backL (i + 1) p (acc.set b i)
theorem r_back_loop (r : Slot) (nb : Nib) : ∀ (p : List Nat) (i : Nat) (acc : List Nat) (a b : Slot), (∀ x ∈ p, x < acc.length) →
    ∃ a' b', forL (.tp [2, 3]) (setIF 1 (opE (varE 2)) (opE (varE 3))) (enumT i (tn p)) ⟨[r, .ow (.lst (tn acc)), a, b], [], nb⟩ = .ok .nx ⟨[r, .ow (.lst (tn (backL i p acc))), a', b'], [], nb⟩
  | [], i, acc, a, b, _ => ⟨a, b, rfl⟩
  | x :: p, i, acc, a, b, h => by
    have hx : x < acc.length := h x List.mem_cons_self
    obtain ⟨a', b', e⟩ := r_back_loop r nb p (i + 1) (acc.set x i) (.sh (.int (i : Int))) (.sh (.int (x : Int))) (fun y hy => by rw [List.length_set]; exact h y (List.mem_cons_of_mem _ hy))
    refine ⟨a', b', ?_⟩
    rw [tn_cons, enumT, forL_cons]
    simp [varE_sh, ixN_n hx, tn_set, e, backL]
theorem r_back_of (p : List Nat) (nb : Nib) (h : ∀ x ∈ p, x < p.length) : f_back_of [.tup (tn p)] nb = .ok (.sh (.tup (tn (backL 0 p p)))) nb := by
  obtain ⟨a', b', e⟩ := r_back_loop (.sh (.tup (tn p))) nb p 0 p .no .no h
  simp [f_back_of, fnOf, fnEnd, b_back_of, sta0, N_back_of, var_sh, varE_sh, listN, e, var_ow, get_ow, tupleN]
theorem backL_length : ∀ (p : List Nat) (i : Nat) (acc : List Nat), (backL i p acc).length = acc.length
  | [], _, _ => rfl
  | _ :: p, i, acc => by rw [backL, backL_length p, List.length_set]
def ledL (q s : List Nat) : List Nat := q.filterMap fun t => s[t]?
theorem r_led_by (b : Bool) (p s : List Nat) (nb : Nib) (h : ∀ x ∈ p, x < p.length) (hs : ∀ x ∈ backL 0 p p, x < s.length) (hl : p.length ≤ 1000) : f_led_by [.tup (tn p), sq b (tn s)] nb = .ok (.sh (.tup (tn (ledL (backL 0 p p) s)))) nb := by
  have hb := r_back_of p nb h
  have hc := compF_run (own := [2]) (it := seqI (opE (callF 1 f_back_of (consA (opE (varE 0)) nilA)))) (tg := .nm 2) (tt := yesT) (te := op2 ixT (var 1) (var 2)) (S := ⟨[.sh (.tup (tn p)), .sh (sq b (tn s)), .no], [], nb⟩) (S1 := ⟨[.sh (.tup (tn p)), .sh (sq b (tn s)), .no], [], nb⟩) (ts := tn (backL 0 p p))
    (fun t => match t with | .int i => (s[i.toNat]?).map fun (n : Nat) => T.int (n : Int) | _ => none) (by simp [varE_sh, hb]) rfl (by decide) (by simp [sz, backL_length]; omega) (fun t ht acc => by
      obtain ⟨n, hn, rfl⟩ := List.mem_map.mp ht
      have hx := hs n hn
      have g : s[n]? = some s[n] := List.getElem?_eq_getElem hx
      cases b
      · simp [compStep, var_sh, sq, ix_lst (tn_get g), g]
      · simp [compStep, var_sh, sq, ix_tup (tn_get g), g])
  have e : ((tn (backL 0 p p)).filterMap fun t => match t with | .int i => (s[i.toNat]?).map fun (n : Nat) => T.int (n : Int) | _ => none) = tn (ledL (backL 0 p p) s) := by
    unfold tn ledL
    rw [List.filterMap_map, List.map_filterMap]
    rfl
  rw [e] at hc
  cases b
  · simp only [sq] at hc
    simp at hc
    simp [f_led_by, fnOf, fnEnd, b_led_by, sta0, N_led_by, sq, hc, tupleN]
  · simp only [sq] at hc
    simp at hc
    simp [f_led_by, fnOf, fnEnd, b_led_by, sta0, N_led_by, sq, hc, tupleN]
/-! colours_of -/
def colS (p found : List Nat) (i b : Nat) : List Nat := (List.range i).filterMap fun a => (p[a]?).bind fun x => if b < x then (found[a]?).map (1 + ·) else none
def mx (l : List Nat) : Nat := l.foldl max 0
def colL (p : List Nat) : List Nat → Nat → List Nat → List Nat
  | [], _, found => found
  | b :: q, i, found => colL p q (i + 1) (found ++ [mx (colS p found i b)])
def colours (p : List Nat) : List Nat := colL p p 0 []

theorem maxI_nat : ∀ (xs : List Nat) (x : Nat), maxI (x : Int) (xs.map fun (n : Nat) => (n : Int)) = ((xs.foldl max x : Nat) : Int)
  | [], _ => rfl
  | y :: xs, x => by
    have ih := maxI_nat xs (max x y)
    unfold maxI at ih ⊢
    rw [List.map_cons, List.foldl_cons, List.foldl_cons, ← ih]
    congr 1
    by_cases h : x < y
    · rw [if_pos (by omega)]; omega
    · rw [if_neg (by omega)]; omega
theorem maxDf_n (l : List Nat) : maxDfT (.lst (tn l)) (.int 0) = some (.sh (.int ((mx l : Nat) : Int))) := by
  show (intsT (tn l)).map _ = _
  rw [intsT_tn, Option.map_some]
  cases l with
  | nil => rfl
  | cons x xs =>
    show some (Slot.sh (T.int (maxI (x : Int) (xs.map fun (n : Nat) => (n : Int))))) = _
    rw [maxI_nat]
    unfold mx
    rw [List.foldl_cons, Nat.zero_max]
theorem colS_length (p found : List Nat) (i b : Nat) : (colS p found i b).length ≤ i := by
  unfold colS
  exact Nat.le_trans (List.length_filterMap_le _ _) (by rw [List.length_range]; exact Nat.le_refl _)
theorem r_col_step (p found : List Nat) (nb : Nib) (i b : Nat) (hf : found.length = i) (hi : i < p.length) (hl : p.length ≤ 1000) (x : Slot) (hx : Slot.free (some x) = true) :
    compF [4] (rngI1 (opE (varE 2))) (.nm 4) (tst (op2 gtA (opE (op2 ixT (var 0) (var 4))) (var 3))) (op2 addT (opE (con (.int 1))) (opE (op2 ixT (var 1) (var 4)))) ⟨[.sh (.tup (tn p)), .ow (.lst (tn found)), .sh (.int (i : Int)), .sh (.int (b : Int)), x], [], nb⟩
      = .ok (.ow (.lst (tn (colS p found i b)))) ⟨[.sh (.tup (tn p)), .ow (.lst (tn found)), .sh (.int (i : Int)), .sh (.int (b : Int)), x], [], nb⟩ := by
  have hc := compF_run (own := [4]) (it := rngI1 (opE (varE 2))) (tg := .nm 4) (tt := tst (op2 gtA (opE (op2 ixT (var 0) (var 4))) (var 3))) (te := op2 addT (opE (con (.int 1))) (opE (op2 ixT (var 1) (var 4))))
    (S := ⟨[.sh (.tup (tn p)), .ow (.lst (tn found)), .sh (.int (i : Int)), .sh (.int (b : Int)), x], [], nb⟩) (S1 := ⟨[.sh (.tup (tn p)), .ow (.lst (tn found)), .sh (.int (i : Int)), .sh (.int (b : Int)), x], [], nb⟩) (ts := tn (List.range i))
    (fun t => match t with | .int a => (p[a.toNat]?).bind fun x => if b < x then (found[a.toNat]?).map fun (n : Nat) => T.int ((1 + n : Nat) : Int) else none | _ => none)
    (rngI1_n (by simp [varE_sh]) (by omega)) (by simpa using hx) (by decide) (len_sz (by rw [tn_length, List.length_range]; omega)) (fun t ht acc => by
      obtain ⟨a, ha, rfl⟩ := List.mem_map.mp ht
      rw [List.mem_range] at ha
      have g : p[a]? = some p[a] := List.getElem?_eq_getElem (by omega)
      have g2 : found[a]? = some found[a] := List.getElem?_eq_getElem (by omega)
      by_cases hb : b < p[a]
      · simp [compStep, var_sh, var_ow, get_ow, ix_tup (tn_get g), ix_lst (tn_get g2), g, g2, gt_nat, hb, addT]
      · simp [compStep, var_sh, var_ow, get_ow, ix_tup (tn_get g), ix_lst (tn_get g2), g, g2, gt_nat, hb, addT])
  have e : ((tn (List.range i)).filterMap fun t => match t with | .int a => (p[a.toNat]?).bind fun x => if b < x then (found[a.toNat]?).map fun (n : Nat) => T.int ((1 + n : Nat) : Int) else none | _ => none) = tn (colS p found i b) := by
    unfold tn colS
    rw [List.filterMap_map, List.map_filterMap]
    refine congrArg (fun f => List.filterMap f (List.range i)) (funext fun a => ?_)
    simp only [Function.comp, Int.toNat_natCast]
    cases p[a]? with
    | none => rfl
    | some x =>
      simp only [Option.bind_some]
      by_cases hb : b < x
      · rw [if_pos hb, if_pos hb, Option.map_map]; rfl
      · rw [if_neg hb, if_neg hb]; rfl
  rw [e] at hc
  exact hc
theorem r_col_loop (p : List Nat) (nb : Nib) (hl : p.length ≤ 1000) : ∀ (q : List Nat) (i : Nat) (found : List Nat) (a b x : Slot), found.length = i → i + q.length = p.length → Slot.free (some x) = true →
    ∃ a' b' x', forL (.tp [2, 3]) (dropF (methF 1 apP (consA (opE (op2 maxDfT (opE (compF [4] (rngI1 (opE (varE 2))) (.nm 4) (tst (op2 gtA (opE (op2 ixT (var 0) (var 4))) (var 3))) (op2 addT (opE (con (.int 1))) (opE (op2 ixT (var 1) (var 4)))))) (opE (con (.int 0))))) (nilA)))) (enumT i (tn q)) ⟨[.sh (.tup (tn p)), .ow (.lst (tn found)), a, b, x], [], nb⟩
      = .ok .nx ⟨[.sh (.tup (tn p)), .ow (.lst (tn (colL p q i found))), a', b', x'], [], nb⟩
  | [], i, found, a, b, x, _, _, _ => ⟨a, b, x, rfl⟩
  | y :: q, i, found, a, b, x, hf, hq, hx => by
    rw [List.length_cons] at hq
    obtain ⟨a', b', x', e⟩ := r_col_loop p nb hl q (i + 1) (found ++ [mx (colS p found i y)]) (.sh (.int (i : Int))) (.sh (.int (y : Int))) x (by simp [hf]) (by omega) hx
    refine ⟨a', b', x', ?_⟩
    have hs := r_col_step p found nb i y hf (by omega) hl x hx
    have hlen : found.length < sz := lt_sz (by omega)
    rw [tn_cons, enumT, forL_cons]
    simp [hs, maxDf_n, ap_ok, hlen]
    rw [tn_append] at e
    exact e
theorem r_colours_of (p : List Nat) (nb : Nib) (hl : p.length ≤ 1000) : f_colours_of [.tup (tn p)] nb = .ok (.sh (.tup (tn (colours p)))) nb := by
  obtain ⟨a', b', x', e⟩ := r_col_loop p nb hl p 0 [] .no .no .no rfl (by omega) rfl
  rw [tn_nil] at e
  simp [f_colours_of, fnOf, fnEnd, b_colours_of, sta0, N_colours_of, var_sh, varE_sh, e, var_ow, get_ow, tupleN, colours]
end K08

end
section
set_option Elab.async false
set_option linter.all false
set_option maxRecDepth 100000
set_option autoImplicit false
set_option maxHeartbeats 400000
open PySem PySem.Spec PyProof.Rows L2 TL
namespace K08
/-! draws -/
theorem b_tip : b_law_scoop = drawB 81083 4583 2147483543 61469 4583 2147483323 2543 81083 61469 2147483549 := rfl
theorem r_tip {k m : Nat} {nb : Nib} (h : NbOk k nb) (hk : k ≤ 100000) (hm : 0 < m) (hm2 : m ≤ 1000) : ∃ (r : Nat) (nb' : Nib), r < m ∧ NbOk (k + 1) nb' ∧ f_law_scoop [.nib, .int (m : Int)] nb = .ok (.sh (.int (r : Int))) nb' := by
  obtain ⟨r, S, h1, h2, h3⟩ := run_draw (a := 81083) (b := 4583) (p1 := 2147483543) (c1 := 61469) (b1 := 4583) (p2 := 2147483323) (e := 2543) (a2 := 81083) (c2 := 61469) (p3 := 2147483549) (x2 := .no) (x3 := .no) (x4 := .no) (x5 := .no) h hk hm hm2 (by omega) (by omega) (by omega) (by omega) (by omega) (by omega) (by omega) (by omega) (by omega)
  refine ⟨r, S.nb, h1, h2, ?_⟩
  show fnEnd (b_law_scoop ⟨[.sh .nib, .sh (.int (m : Int)), .no, .no, .no, .no], [], nb⟩) = _
  rw [b_tip, h3]
  rfl
/-! a row drawn -/
theorem eraseIdx_perm {l : List Nat} {i x : Nat} (h : l[i]? = some x) : l.Perm (x :: l.eraseIdx i) := by
  induction l generalizing i with
  | nil => simp at h
  | cons a l ih =>
    cases i with
    | zero => simp at h; subst h; exact List.Perm.refl _
    | succ i => exact ((ih (by simpa using h)).cons a).trans (List.Perm.swap _ _ _)
theorem tn_erase (p : List Nat) (i : Nat) : (tn p).eraseIdx i = tn (p.eraseIdx i) := by
  induction p generalizing i with
  | nil => rfl
  | cons a p ih => cases i with
    | zero => rfl
    | succ i => rw [tn_cons, List.eraseIdx_cons_succ, ih, List.eraseIdx_cons_succ, tn_cons]
theorem popAt_n {p : List Nat} {i x : Nat} (h : p[i]? = some x) (hi : i ≤ 1000) : popAtP (tn p) [.int (i : Int)] = some (tn (p.eraseIdx i), .int (x : Int)) := by
  have hl : i < p.length := (List.getElem?_eq_some_iff.mp h).1
  unfold popAtP
  have e : seqIndex? (i : Int) (tn p).length = some i := seqIndex_of (by omega) (by rw [tn_length]; omega)
  simp only [e, tn_get h]
  rw [if_pos ⟨by omega, by omega⟩, tn_erase]
theorem r_row_loop (w : Slot) : ∀ (ts : List T) (left found : List Nat) (k : Nat) (x : Slot) (nb : Nib), NbOk k nb → k + ts.length ≤ 100000 → ts.length = left.length → left.length ≤ 1000 → found.length + left.length ≤ 1000 →
    ∃ (left' found' : List Nat) (x' : Slot) (nb' : Nib), NbOk (k + ts.length) nb' ∧ (left' ++ found').Perm (left ++ found) ∧ left' = [] ∧
      forL (.nm 4) (dropF (methF 3 apP (consA (opE (methF 2 popAtP (consA (opE (callF 2 f_law_scoop (consA (opE (varE 0)) (consA (opE (opN lenN (consA (var 2) (nilA)))) (nilA))))) (nilA)))) (nilA)))) ts ⟨[.sh .nib, w, .ow (.lst (tn left)), .ow (.lst (tn found)), x], [], nb⟩
        = .ok .nx ⟨[.sh .nib, w, .ow (.lst (tn left')), .ow (.lst (tn found')), x'], [], nb'⟩
  | [], left, found, k, x, nb, h, _, hl, _, _ => by
    have e : left = [] := by cases left with
      | nil => rfl
      | cons => simp at hl
    exact ⟨left, found, x, nb, h, List.Perm.refl _, e, rfl⟩
  | t :: ts, left, found, k, x, nb, h, hk, hl, hs, hs2 => by
    rw [List.length_cons] at hk hl
    obtain ⟨r, nb1, hr, h1, e1⟩ := r_tip h (by omega) (m := left.length) (by omega) (by omega)
    have g : left[r]? = some left[r] := List.getElem?_eq_getElem hr
    have e2 := popAt_n g (by omega)
    have hp := eraseIdx_perm g
    have hel : (left.eraseIdx r).length = left.length - 1 := List.length_eraseIdx_of_lt hr
    obtain ⟨left', found', x', nb', h2, p2, e3, e4⟩ := r_row_loop w ts (left.eraseIdx r) (found ++ [left[r]]) (k + 1) (.sh t) nb1 h1 (by omega) (by omega) (by omega) (by rw [List.length_append, List.length_singleton]; omega)
    refine ⟨left', found', x', nb', by rw [List.length_cons, show k + (ts.length + 1) = k + 1 + ts.length by omega]; exact h2, p2.trans ?_, e3, ?_⟩
    · refine List.Perm.trans ?_ (List.Perm.append_right found hp.symm)
      rw [← List.append_assoc]
      refine (List.perm_append_comm).trans ?_
      rw [List.singleton_append, List.cons_append]
    · have hsz : found.length < sz := lt_sz (by omega)
      rw [forL_cons]
      rw [tn_append] at e4
      simp [varE_sh, var_ow, get_ow, lenN, e1, e2, ap_ok, hsz]
      exact e4
theorem r_row {k w : Nat} {nb : Nib} (h : NbOk k nb) (hk : k ≤ 90000) (hw : w ≤ 6) : ∃ (p : List Nat) (nb' : Nib), p.Perm (List.range w) ∧ NbOk (k + w) nb' ∧ f_law_row [.nib, .int (w : Int)] nb = .ok (.sh (.tup (tn p))) nb' := by
  obtain ⟨left', found', x', nb', h2, p2, e3, e4⟩ := r_row_loop (.sh (.int (w : Int))) (tn (List.range w)) (List.range w) [] k .no nb h (by simp; omega) (by simp) (by simp; omega) (by simp; omega)
  subst e3
  rw [List.nil_append, List.append_nil] at p2
  rw [tn_length, List.length_range] at h2
  rw [tn_nil] at e4
  refine ⟨found', nb', p2, h2, ?_⟩
  have e5 := rngI1_n (a := opE (varE 1)) (S := ⟨[.sh .nib, .sh (.int (w : Int)), .ow (.lst (tn (List.range w))), .ow (.lst []), .no], [], nb⟩) (S1 := ⟨[.sh .nib, .sh (.int (w : Int)), .ow (.lst (tn (List.range w))), .ow (.lst []), .no], [], nb⟩) (n := w) (by simp [varE_sh]) (by omega)
  have e6 : parF 2 3 (op1 lrg1 (var 1)) (lstF nilA) ⟨[.sh .nib, .sh (.int (w : Int)), .no, .no, .no], [], nb⟩ = .ok .nx ⟨[.sh .nib, .sh (.int (w : Int)), .ow (.lst (tn (List.range w))), .ow (.lst []), .no], [], nb⟩ := by
    simp [var_sh, lrg_n w (by omega)]
  show fnEnd (b_law_row ⟨[.sh .nib, .sh (.int (w : Int)), .no, .no, .no], [], nb⟩) = _
  unfold b_law_row
  rw [seqF_ap, e6, R.bind_ok]
  dsimp only
  rw [seqF_ap, forF_ap, e5, R.bind_ok, e4, R.bind_ok]
  dsimp only
  simp [var_ow, get_ow, tupleN, fnEnd]
end K08

end
section
set_option Elab.async false
set_option linter.all false
set_option maxRecDepth 100000
set_option autoImplicit false
set_option maxHeartbeats 400000
open PySem PySem.Spec PyProof.Rows L2 TL
namespace K08
/-! all settings -/
def extS (z : Nat) (e : List Nat) : List (List Nat) := (List.range z).map fun b => e ++ [b]
def setL (z : Nat) : Nat → List (List Nat)
  | 0 => [[]]
  | k + 1 => (setL z k).flatMap (extS z)
theorem extS_length (z : Nat) (e : List Nat) : (extS z e).length = z := by
  unfold extS
  rw [List.length_map, List.length_range]
theorem flatS_len (z : Nat) : ∀ l : List (List Nat), (l.flatMap (extS z)).length = l.length * z
  | [] => by simp
  | e :: l => by
    rw [List.flatMap_cons, List.length_append, List.length_cons, Nat.succ_mul, extS_length, flatS_len z l]
    omega
theorem setL_length (z : Nat) : ∀ k, (setL z k).length = z ^ k
  | 0 => by simp [setL]
  | k + 1 => by rw [setL, Nat.pow_succ, flatS_len, setL_length z k]
theorem tr_append (a b : List (List Nat)) : tr (a ++ b) = tr a ++ tr b := List.map_append
abbrev compSet : EF := compF [6] (rngI1 (opE (varE 1))) (.nm 6) (yesT) (op2 addT (var 5) (opE (tupF (consA (opE (varE 6)) (nilA)))))
theorem r_extS (z : Nat) (hz : z ≤ 10) (e : List Nat) (he : e.length ≤ 10) (s0 s2 s3 s4 s6 : Slot) (h6 : Slot.free (some s6) = true) (nb : Nib) :
    compSet ⟨[s0, .sh (.int (z : Int)), s2, s3, s4, .sh (.tup (tn e)), s6], [], nb⟩ = .ok (.ow (.lst (tr (extS z e)))) ⟨[s0, .sh (.int (z : Int)), s2, s3, s4, .sh (.tup (tn e)), s6], [], nb⟩ := by
  have hc := compF_map (own := [6]) (it := rngI1 (opE (varE 1))) (tg := .nm 6) (tt := yesT) (te := op2 addT (var 5) (opE (tupF (consA (opE (varE 6)) (nilA)))))
    (S := ⟨[s0, .sh (.int (z : Int)), s2, s3, s4, .sh (.tup (tn e)), s6], [], nb⟩) (S1 := ⟨[s0, .sh (.int (z : Int)), s2, s3, s4, .sh (.tup (tn e)), s6], [], nb⟩) (List.range z) (fun (n : Nat) => T.int (n : Int)) (fun b => some (.tup (tn (e ++ [b]))))
    (rngI1_n (argV rfl) (by omega)) (by simpa using h6) (by decide) (len_sz (by rw [List.length_range]; omega)) (fun b hb acc => by
      have h1 : (1 : Nat) ≤ sz := len_sz (by omega)
      have h2 : e.length + 1 ≤ sz := len_sz (by omega)
      refine compStep_map (S1 := ⟨[s0, .sh (.int (z : Int)), s2, s3, s4, .sh (.tup (tn e)), .sh (.int (b : Int))], [.ow (.lst acc)], nb⟩) (S2 := ⟨[s0, .sh (.int (z : Int)), s2, s3, s4, .sh (.tup (tn e)), .sh (.int (b : Int))], [.ow (.lst acc)], nb⟩) (x := .sh (.tup (tn (e ++ [b])))) rfl ?_ rfl rfl
      simp [var_sh, varE_sh, h1, addT, h2, tn_append])
  have ee : ((List.range z).filterMap fun b => some (T.tup (tn (e ++ [b])))) = tr (extS z e) := by
    unfold tr extS
    rw [List.map_map]
    generalize List.range z = l
    induction l with
    | nil => rfl
    | cons b l ih => rw [List.filterMap_cons, List.map_cons, ih]; rfl
  rw [ee] at hc
  exact hc
abbrev inSet : SF := dropF (methF 4 exP (consA (opE compSet) (nilA)))
theorem setL_len (z : Nat) : ∀ (k : Nat) (e : List Nat), e ∈ setL z k → e.length = k
  | 0, e, h => by simp [setL] at h; simp [h]
  | k + 1, e, h => by
    rw [setL, List.mem_flatMap] at h
    obtain ⟨x, hx, hy⟩ := h
    unfold extS at hy
    rw [List.mem_map] at hy
    obtain ⟨b, _, rfl⟩ := hy
    rw [List.length_append, setL_len z k x hx]
    rfl
theorem r_inS_loop (z : Nat) (hz : z ≤ 10) (k : Nat) (hk : k ≤ 10) (s0 s2 s3 : Slot) (nb : Nib) : ∀ (es done : List (List Nat)) (s5 s6 : Slot), (∀ e ∈ es, e.length = k) → done.length + es.length * z ≤ 100000 → Slot.free (some s6) = true →
    ∃ s5', forL (.nm 5) inSet (tr es) ⟨[s0, .sh (.int (z : Int)), s2, s3, .ow (.lst (tr done)), s5, s6], [], nb⟩ = .ok .nx ⟨[s0, .sh (.int (z : Int)), s2, s3, .ow (.lst (tr (done ++ es.flatMap (extS z)))), s5', s6], [], nb⟩
  | [], done, s5, s6, _, _, _ => ⟨s5, by simp [tr]⟩
  | e :: es, done, s5, s6, he, hl, h6 => by
    have hel : e.length = k := he e List.mem_cons_self
    rw [List.length_cons, Nat.succ_mul] at hl
    have hx := extS_length z e
    obtain ⟨s5', ih⟩ := r_inS_loop z hz k hk s0 s2 s3 nb es (done ++ extS z e) (.sh (.tup (tn e))) s6 (fun x hx => he x (List.mem_cons_of_mem _ hx)) (by rw [List.length_append]; omega) h6
    refine ⟨s5', ?_⟩
    have hc := r_extS z hz e (by omega) s0 s2 s3 (.ow (.lst (tr done))) s6 h6 nb
    have hsz : (tr done).length + (tr (extS z e)).length ≤ sz := len_sz (by rw [tr_length, tr_length]; omega)
    rw [show tr (e :: es) = .tup (tn e) :: tr es from rfl, forL_cons]
    rw [tr_append, List.append_assoc] at ih
    rw [List.flatMap_cons]
    have e1 : inSet ⟨[s0, .sh (.int (z : Int)), s2, s3, .ow (.lst (tr done)), .sh (.tup (tn e)), s6], [], nb⟩ = .ok .nx ⟨[s0, .sh (.int (z : Int)), s2, s3, .ow (.lst (tr done ++ tr (extS z e))), .sh (.tup (tn e)), s6], [], nb⟩ := by
      unfold inSet
      rw [dropF_ap, methF_ap]
      dsimp only [List.getElem?_cons_succ, List.getElem?_cons_zero]
      rw [consA_ap, opE_ap, hc]
      simp [ex_ok hsz]
    show (inSet ⟨[s0, .sh (.int (z : Int)), s2, s3, .ow (.lst (tr done)), .sh (.tup (tn e)), s6], [], nb⟩).bind _ = _
    rw [e1, R.bind_ok]
    exact ih
abbrev bodySet : SF := seqF (setF 4 (lstF (nilA))) (seqF (forF (seqI (opE (varE 2))) (.nm 5) inSet) (setF 2 (varE 4)))
theorem r_bodyS (z : Nat) (hz : z ≤ 6) (nb : Nib) (k : Nat) (hk : k + 1 ≤ 6) (hb : z ^ (k + 1) ≤ 50000) (s0 s2 t s4 s5 s6 : Slot) (h2 : s2 = .sh (.lst (tr (setL z k))) ∨ s2 = .ow (.lst (tr (setL z k)))) (h6 : Slot.free (some s6) = true) :
    ∃ s5', bodySet ⟨[s0, .sh (.int (z : Int)), s2, t, s4, s5, s6], [], nb⟩ = .ok .nx ⟨[s0, .sh (.int (z : Int)), .sh (.lst (tr (setL z (k + 1)))), t, .sh (.lst (tr (setL z (k + 1)))), s5', s6], [], nb⟩ := by
  obtain ⟨s5', e1⟩ := r_inS_loop z (by omega) k (by omega) s0 (.sh (.lst (tr (setL z k)))) t nb (setL z k) [] s5 s6 (setL_len z k) (by rw [List.length_nil, setL_length]; rw [Nat.pow_succ] at hb; omega) h6
  rw [List.nil_append] at e1
  refine ⟨s5', ?_⟩
  have e4 : setF 4 (lstF (nilA)) ⟨[s0, .sh (.int (z : Int)), s2, t, s4, s5, s6], [], nb⟩ = .ok .nx ⟨[s0, .sh (.int (z : Int)), s2, t, .ow (.lst (tr [])), s5, s6], [], nb⟩ := by simp [tr]
  unfold bodySet
  rw [seqF_ap, e4, R.bind_ok]
  dsimp only
  rw [seqF_ap, forF_ap]
  have e5 : seqI (opE (varE 2)) ⟨[s0, .sh (.int (z : Int)), s2, t, .ow (.lst (tr [])), s5, s6], [], nb⟩ = .ok (tr (setL z k)) ⟨[s0, .sh (.int (z : Int)), .sh (.lst (tr (setL z k))), t, .ow (.lst (tr [])), s5, s6], [], nb⟩ := by
    rcases h2 with h2 | h2 <;> subst h2
    · simp [varE_sh]
    · simp [varE_ow]
  rw [e5, R.bind_ok, e1, R.bind_ok]
  dsimp only
  rw [setF_ap, varE_ow (t := .lst (tr (setL z (k + 1)))) (h := rfl), R.bind_ok]
  rfl
theorem r_outS_loop (z : Nat) (hz : z ≤ 6) (w : Nat) (hw : w ≤ 6) (hb : ∀ k, k ≤ w → z ^ k ≤ 50000) (s0 : Slot) (nb : Nib) : ∀ (ts : List T) (k : Nat) (s2 s3 s4 s5 s6 : Slot), (s2 = .sh (.lst (tr (setL z k))) ∨ s2 = .ow (.lst (tr (setL z k)))) → k + ts.length ≤ w → Slot.free (some s6) = true →
    ∃ s2' s3' s4' s5', (s2' = .sh (.lst (tr (setL z (k + ts.length)))) ∨ (ts = [] ∧ s2' = s2)) ∧ forL (.nm 3) bodySet ts ⟨[s0, .sh (.int (z : Int)), s2, s3, s4, s5, s6], [], nb⟩
      = .ok .nx ⟨[s0, .sh (.int (z : Int)), s2', s3', s4', s5', s6], [], nb⟩
  | [], k, s2, s3, s4, s5, s6, _, _, _ => ⟨s2, s3, s4, s5, .inr ⟨rfl, rfl⟩, rfl⟩
  | t :: ts, k, s2, s3, s4, s5, s6, h2, hk, h6 => by
    rw [List.length_cons] at hk
    obtain ⟨s5', e3⟩ := r_bodyS z hz nb k (by omega) (hb (k + 1) (by omega)) s0 s2 (.sh t) s4 s5 s6 h2 h6
    obtain ⟨y, a, b, c, hy, e2⟩ := r_outS_loop z hz w hw hb s0 nb ts (k + 1) (.sh (.lst (tr (setL z (k + 1))))) (.sh t) (.sh (.lst (tr (setL z (k + 1))))) s5' s6 (.inl rfl) (by omega) h6
    refine ⟨y, a, b, c, .inl ?_, ?_⟩
    · rw [List.length_cons, show k + (ts.length + 1) = k + 1 + ts.length by omega]
      rcases hy with hy | ⟨hy, hy2⟩
      · exact hy
      · subst hy; exact hy2
    · rw [forL_cons]
      show (bodySet ⟨[s0, .sh (.int (z : Int)), s2, .sh t, s4, s5, s6], [], nb⟩).bind _ = _
      rw [e3, R.bind_ok]
      exact e2
theorem r_settings (w z : Nat) (h0 : 0 < w) (hw : w ≤ 6) (hz : z ≤ 6) (hb : ∀ k, k ≤ w → z ^ k ≤ 50000) (nb : Nib) : f_law_settings [.int (w : Int), .int (z : Int)] nb = .ok (.sh (.lst (tr (setL z w)))) nb := by
  obtain ⟨y, a, b, c, hy, e2⟩ := r_outS_loop z hz w hw hb (.sh (.int (w : Int))) nb (tn (List.range w)) 0 (.ow (.lst (tr (setL z 0)))) .no .no .no .no (.inr rfl) (by simp) rfl
  rw [tn_length, List.length_range, Nat.zero_add] at hy
  have hy : y = .sh (.lst (tr (setL z w))) := by
    rcases hy with hy | ⟨hy, _⟩
    · exact hy
    · have := congrArg List.length hy
      simp at this
      omega
  subst hy
  have e3 : setF 2 (lstF (consA (opE (tupF (nilA))) (nilA))) ⟨[.sh (.int (w : Int)), .sh (.int (z : Int)), .no, .no, .no, .no, .no], [], nb⟩ = .ok .nx ⟨[.sh (.int (w : Int)), .sh (.int (z : Int)), .ow (.lst (tr (setL z 0))), .no, .no, .no, .no], [], nb⟩ := by
    simp [tr, setL, show (1 : Nat) ≤ sz from len_sz (by omega)]
  have e4 := rngI1_n (a := opE (varE 0)) (S := ⟨[.sh (.int (w : Int)), .sh (.int (z : Int)), .ow (.lst (tr (setL z 0))), .no, .no, .no, .no], [], nb⟩) (S1 := ⟨[.sh (.int (w : Int)), .sh (.int (z : Int)), .ow (.lst (tr (setL z 0))), .no, .no, .no, .no], [], nb⟩) (n := w) (argV rfl) (by omega)
  show fnEnd (seqF (setF 2 (lstF (consA (opE (tupF (nilA))) (nilA)))) (seqF (forF (rngI1 (opE (varE 0))) (.nm 3) bodySet) (retF (varR 2))) ⟨[.sh (.int (w : Int)), .sh (.int (z : Int)), .no, .no, .no, .no, .no], [], nb⟩) = _
  rw [seqF_ap, e3, R.bind_ok]
  dsimp only
  rw [seqF_ap, forF_ap, e4, R.bind_ok, e2, R.bind_ok]
  dsimp only
  rw [retF_ap, varR_sh (t := .lst (tr (setL z w))) (h := rfl)]
  rfl
end K08

end
section
set_option Elab.async false
set_option linter.all false
set_option maxRecDepth 100000
set_option autoImplicit false
set_option maxHeartbeats 400000
open PySem PySem.Spec PyProof.Rows L2 TL
namespace K08
def extL (w : Nat) (e : List Nat) : List (List Nat) := ((List.range w).filter fun b => decide (b ∉ e)).map fun b => e ++ [b]
def levL (w : Nat) : Nat → List (List Nat)
  | 0 => [[]]
  | k + 1 => (levL w k).flatMap (extL w)
def allL (w : Nat) : List (List Nat) := levL w w
def misL (e t b : List Nat) : List Nat := (List.range e.length).filter fun i => decide ((e[i]?).bind (fun x => b[x]?) ≠ t[i]?)
def ordL (s : List Nat) : List Nat → Nat → Nat → Nat
  | [], _, f => f
  | n :: q, i, f => ordL s q (i + 1) (f * (1 + (s.take i).count n))
def orders (s : List Nat) : Nat := ordL s s 0 1
/-! rows as permutations -/
theorem perm_lt {p : List Nat} {n : Nat} (h : p.Perm (List.range n)) : ∀ x ∈ p, x < n := fun x hx => by
  have := h.mem_iff.mp hx
  simpa using this
theorem perm_len {p : List Nat} {n : Nat} (h : p.Perm (List.range n)) : p.length = n := by rw [h.length_eq, List.length_range]
theorem perm_nd {p : List Nat} {n : Nat} (h : p.Perm (List.range n)) : p.Nodup := h.symm.nodup List.nodup_range
theorem full_of {p : List Nat} {n : Nat} (nd : p.Nodup) (hl : p.length = n) (hs : ∀ x ∈ p, x < n) : p.Perm (List.range n) := by
  refine (List.perm_ext_iff_of_nodup nd List.nodup_range).mpr fun a => ⟨fun h => List.mem_range.mpr (hs a h), fun h => ?_⟩
  rw [List.mem_range] at h
  refine Classical.byContradiction fun hn => ?_
  have h2 : (a :: p).Nodup := List.nodup_cons.mpr ⟨hn, nd⟩
  have h3 := h2.length_le_of_subset (l₂ := List.range n) (fun x hx => by
    rcases List.mem_cons.mp hx with rfl | hx
    · exact List.mem_range.mpr h
    · exact List.mem_range.mpr (hs x hx))
  rw [List.length_cons, List.length_range] at h3
  omega
theorem mem_ext {w : Nat} {e x : List Nat} : x ∈ extL w e ↔ ∃ b, b < w ∧ b ∉ e ∧ x = e ++ [b] := by
  unfold extL
  simp only [List.mem_map, List.mem_filter, List.mem_range, decide_eq_true_eq]
  constructor
  · rintro ⟨b, ⟨h1, h2⟩, h3⟩; exact ⟨b, h1, h2, h3.symm⟩
  · rintro ⟨b, h1, h2, h3⟩; exact ⟨b, ⟨h1, h2⟩, h3.symm⟩
theorem mem_lev (w : Nat) : ∀ (k : Nat) (e : List Nat), e ∈ levL w k ↔ e.length = k ∧ e.Nodup ∧ ∀ x ∈ e, x < w
  | 0, e => by
    rw [levL, List.mem_singleton]
    constructor
    · rintro rfl; simp
    · rintro ⟨h, _⟩; exact List.length_eq_zero_iff.mp h
  | k + 1, e => by
    rw [levL, List.mem_flatMap]
    constructor
    · rintro ⟨x, hx, hy⟩
      obtain ⟨b, h1, h2, rfl⟩ := mem_ext.mp hy
      obtain ⟨g1, g2, g3⟩ := (mem_lev w k x).mp hx
      refine ⟨by simp [g1], ?_, fun y hy => ?_⟩
      · rw [List.nodup_append]
        exact ⟨g2, by simp, fun a ha c hc => by rw [List.mem_singleton] at hc; subst hc; exact fun z => h2 (z ▸ ha)⟩
      · rcases List.mem_append.mp hy with hy | hy
        · exact g3 y hy
        · rw [List.mem_singleton] at hy; subst hy; exact h1
    · rintro ⟨h1, h2, h3⟩
      have hne : e ≠ [] := fun z => by subst z; simp at h1
      refine ⟨e.dropLast, (mem_lev w k _).mpr ⟨by rw [List.length_dropLast]; omega, (List.dropLast_sublist e).nodup h2, fun x hx => h3 x (List.dropLast_subset e hx)⟩, mem_ext.mpr ⟨e.getLast hne, h3 _ (List.getLast_mem hne), ?_, (List.dropLast_concat_getLast hne).symm⟩⟩
      have := h2
      rw [← List.dropLast_concat_getLast hne, List.nodup_append] at this
      exact fun z => this.2.2 _ z _ List.mem_cons_self rfl
theorem mem_all {w : Nat} {e : List Nat} : e ∈ allL w ↔ e.Perm (List.range w) :=
  ⟨fun h => by
    obtain ⟨h1, h2, h3⟩ := (mem_lev w w e).mp h
    exact full_of h2 h1 h3, fun h => (mem_lev w w e).mpr ⟨perm_len h, perm_nd h, perm_lt h⟩⟩
/-! the way back -/
theorem backL_other : ∀ (p : List Nat) (i : Nat) (acc : List Nat) (x : Nat), x ∉ p → (backL i p acc)[x]? = acc[x]?
  | [], _, _, _, _ => rfl
  | b :: p, i, acc, x, h => by
    rw [backL, backL_other p (i + 1) _ x (fun z => h (List.mem_cons_of_mem _ z)), List.getElem?_set_ne]
    exact fun z => h (z ▸ List.mem_cons_self)
theorem backL_at : ∀ (p : List Nat) (i : Nat) (acc : List Nat) (j x : Nat), p.Nodup → (∀ y ∈ p, y < acc.length) → p[j]? = some x → (backL i p acc)[x]? = some (i + j)
  | [], _, _, _, _, _, _, h => by simp at h
  | b :: p, i, acc, 0, x, nd, hl, h => by
    have e : b = x := by simpa using h
    subst e
    rw [backL, backL_other p _ _ _ (List.nodup_cons.mp nd).1, List.getElem?_set_self (hl _ List.mem_cons_self)]
    rfl
  | b :: p, i, acc, j + 1, x, nd, hl, h => by
    rw [backL, backL_at p (i + 1) (acc.set b i) j x (List.nodup_cons.mp nd).2 (fun y hy => by rw [List.length_set]; exact hl y (List.mem_cons_of_mem _ hy)) (by simpa using h)]
    congr 1
    omega
def LD (e s : List Nat) : List Nat := ledL (backL 0 e e) s
theorem filterMap_all {α β : Type} {f : α → Option β} : ∀ {l : List α}, (∀ x ∈ l, ∃ y, f x = some y) → (l.filterMap f).length = l.length ∧ ∀ i : Nat, (l.filterMap f)[i]? = (l[i]?).bind f
  | [], _ => ⟨rfl, fun i => by simp⟩
  | x :: l, h => by
    obtain ⟨y, hy⟩ := h x List.mem_cons_self
    obtain ⟨h1, h2⟩ := filterMap_all (f := f) (l := l) fun z hz => h z (List.mem_cons_of_mem _ hz)
    rw [List.filterMap_cons, hy]
    refine ⟨by simp [h1], fun i => ?_⟩
    cases i with
    | zero => simp [hy]
    | succ i => simpa using h2 i
section
variable {e s : List Nat} {n : Nat}
theorem back_get (h : e.Perm (List.range n)) {i x : Nat} (hx : e[i]? = some x) : (backL 0 e e)[x]? = some i := by
  have := backL_at e 0 e i x (perm_nd h) (fun y hy => by rw [perm_len h]; exact perm_lt h y hy) hx
  rwa [Nat.zero_add] at this
theorem perm_has (h : e.Perm (List.range n)) {x : Nat} (hx : x < n) : ∃ i : Nat, e[i]? = some x :=
  List.mem_iff_getElem?.mp (h.mem_iff.mpr (List.mem_range.mpr hx))
theorem back_lt (h : e.Perm (List.range n)) : ∀ y ∈ backL 0 e e, y < n := fun y hy => by
  obtain ⟨x, hx⟩ := List.mem_iff_getElem?.mp hy
  have hl : x < n := by
    have := (List.getElem?_eq_some_iff.mp hx).1
    rw [backL_length, perm_len h] at this
    exact this
  obtain ⟨i, hi⟩ := perm_has h hl
  rw [back_get h hi] at hx
  cases hx
  have := (List.getElem?_eq_some_iff.mp hi).1
  rw [perm_len h] at this
  exact this
theorem LD_all (h : e.Perm (List.range n)) (hs : s.length = n) : (LD e s).length = n ∧ ∀ x : Nat, (LD e s)[x]? = ((backL 0 e e)[x]?).bind fun t => s[t]? := by
  obtain ⟨h1, h2⟩ := filterMap_all (f := fun t => s[t]?) (l := backL 0 e e) fun y hy => ⟨_, List.getElem?_eq_getElem (by rw [hs]; exact back_lt h y hy)⟩
  refine ⟨?_, h2⟩
  show (List.filterMap _ _).length = n
  rw [h1, backL_length, perm_len h]
theorem LD_get (h : e.Perm (List.range n)) (hs : s.length = n) {i x : Nat} (hx : e[i]? = some x) : (LD e s)[x]? = s[i]? := by
  rw [(LD_all h hs).2 x, back_get h hx]
  rfl
theorem mis_iff {e t b : List Nat} : misL e t b = [] ↔ ∀ i < e.length, (e[i]?).bind (fun x => b[x]?) = t[i]? := by
  unfold misL
  rw [List.filter_eq_nil_iff]
  constructor
  · intro h i hi
    have := h i (List.mem_range.mpr hi)
    simpa using this
  · intro h i hi
    have := h i (List.mem_range.mp hi)
    simpa using this
theorem leads_iff (h : e.Perm (List.range n)) {t b : List Nat} (ht : t.length = n) (hb : b.length = n) : misL e t b = [] ↔ LD e t = b := by
  rw [mis_iff]
  constructor
  · intro q
    refine List.ext_getElem? fun x => ?_
    by_cases hx : x < n
    · obtain ⟨i, hi⟩ := perm_has h hx
      have := q i (List.getElem?_eq_some_iff.mp hi).1
      rw [hi, Option.bind_some] at this
      rw [LD_get h ht hi, this]
    · rw [List.getElem?_eq_none (by rw [(LD_all h ht).1]; omega), List.getElem?_eq_none (by omega)]
  · rintro rfl i hi
    have g : e[i]? = some e[i] := List.getElem?_eq_getElem hi
    rw [g, Option.bind_some, LD_get h ht g]
end
theorem colS_len (p : List Nat) : ∀ (q : List Nat) (i : Nat) (f : List Nat), (colL p q i f).length = f.length + q.length
  | [], _, _ => rfl
  | b :: q, i, f => by rw [colL, colS_len p q]; simp; omega
theorem colours_length (p : List Nat) : (colours p).length = p.length := by rw [colours, colS_len]; simp
/-! counting -/
def lat : List Nat → Nat
  | [] => 1
  | a :: ts => (1 + ts.count a) * lat ts
theorem lat_snoc : ∀ (ts : List Nat) (a : Nat), lat (ts ++ [a]) = lat ts * (1 + ts.count a)
  | [], a => by simp [lat]
  | x :: ts, a => by
    rw [List.cons_append, lat, lat_snoc ts a, lat]
    simp only [List.count_append, List.count_cons, List.count_nil]
    by_cases h : a = x
    · subst h
      simp only [beq_self_eq_true, if_true]
      generalize List.count a ts = c
      generalize lat ts = l
      rw [show 1 + (c + (0 + 1)) = 1 + (c + 1) by omega, Nat.mul_comm l, ← Nat.mul_assoc, Nat.mul_comm (1 + (c + 1)) (1 + c), Nat.mul_assoc, Nat.mul_comm (1 + (c + 1)) l, ← Nat.mul_assoc]
    · have h1 : (a == x) = false := by simpa using h
      have h2 : (x == a) = false := by simpa using fun z => h z.symm
      rw [h1, h2]
      simp only [Bool.false_eq_true, if_false, Nat.add_zero]
      rw [Nat.mul_assoc]
theorem ordL_lat (s : List Nat) : ∀ (q : List Nat) (i f : Nat), s.drop i = q → f = lat (s.take i) → ordL s q i f = lat s
  | [], i, f, h, hf => by
    have : s.take i = s := List.take_of_length_le (List.drop_eq_nil_iff.mp h)
    rw [ordL, hf, this]
  | n :: q, i, f, h, hf => by
    have hi : i < s.length := by
      refine Classical.byContradiction fun z => ?_
      rw [List.drop_eq_nil_iff.mpr (by omega)] at h
      cases h
    have h1 : s.drop i = s[i] :: s.drop (i + 1) := List.drop_eq_getElem_cons hi
    rw [h] at h1
    injection h1 with h2 h3
    rw [ordL]
    refine ordL_lat s q (i + 1) _ h3.symm ?_
    rw [hf, ← lat_snoc, List.take_add_one, List.getElem?_eq_getElem hi, h2]
    rfl
theorem orders_lat (s : List Nat) : orders s = lat s := ordL_lat s s 0 1 rfl rfl
def chk : List Nat → List Nat → List Nat → Bool
  | [], _, _ => true
  | x :: e, y :: t, b => decide (b[x]? = some y) && chk e t b
  | _ :: _, [], _ => false
theorem chk_iff (b : List Nat) : ∀ (e t : List Nat), e.length ≤ t.length → (chk e t b = true ↔ ∀ i < e.length, (e[i]?).bind (fun x => b[x]?) = t[i]?)
  | [], _, _ => by simp [chk]
  | x :: e, [], h => by simp at h
  | x :: e, y :: t, h => by
    rw [chk, Bool.and_eq_true, decide_eq_true_eq, chk_iff b e t (by simpa using h)]
    constructor
    · rintro ⟨h1, h2⟩ i hi
      cases i with
      | zero => simpa using h1
      | succ i => simpa using h2 i (by simpa using hi)
    · intro q
      exact ⟨by simpa using q 0 (by simp), fun i hi => by simpa using q (i + 1) (by simpa using hi)⟩
theorem chk_mis {e t b : List Nat} (h : e.length = t.length) : chk e t b = decide (misL e t b = []) := by
  rw [Bool.eq_iff_iff, chk_iff b e t (by omega), decide_eq_true_eq, mis_iff]
theorem chk_snoc (b : List Nat) (x : Nat) : ∀ (e t : List Nat), e.length < t.length → chk (e ++ [x]) t b = (chk e t b && decide (b[x]? = t[e.length]?))
  | [], y :: t, h => by simp [chk]
  | [], [], h => by simp at h
  | a :: e, [], h => by simp at h
  | a :: e, y :: t, h => by
    rw [List.cons_append, chk, chk, chk_snoc b x e t (by simpa using h), Bool.and_assoc]
    simp
theorem cnt_range {b : List Nat} {n : Nat} (hb : b.length = n) (c : Nat) : (List.range n).countP (fun x => decide (b[x]? = some c)) = b.count c := by
  have h : (List.range n).map (fun x => b[x]?) = b.map some := by
    refine List.ext_getElem? fun i => ?_
    rw [List.getElem?_map, List.getElem?_map]
    by_cases hi : i < n
    · rw [List.getElem?_range hi, Option.map_some, List.getElem?_eq_getElem (by omega)]; rfl
    · rw [List.getElem?_eq_none (by rw [List.length_range]; omega), List.getElem?_eq_none (by omega)]; rfl
  have h2 : (List.range n).countP (fun x => decide (b[x]? = some c)) = ((List.range n).map (fun x => b[x]?)).countP (fun y => decide (y = some c)) := by
    rw [List.countP_map]; rfl
  rw [h2, h, List.countP_map, List.count]
  refine List.countP_congr fun x _ => ?_
  simp
theorem cnt_pre {b e t : List Nat} (h : chk e t b = true) (hl : e.length ≤ t.length) (c : Nat) : e.countP (fun x => decide (b[x]? = some c)) = (t.take e.length).count c := by
  have h1 : e.map (fun x => b[x]?) = (t.take e.length).map some := by
    refine List.ext_getElem? fun i => ?_
    rw [List.getElem?_map, List.getElem?_map]
    by_cases hi : i < e.length
    · have := (chk_iff b e t hl).mp h i hi
      rw [List.getElem?_eq_getElem hi, Option.bind_some] at this
      rw [List.getElem?_eq_getElem hi, Option.map_some, List.getElem?_take, if_pos hi, this, List.getElem?_eq_getElem (by omega)]
      rfl
    · rw [List.getElem?_eq_none (by omega), List.getElem?_eq_none (by rw [List.length_take]; omega)]; rfl
  have h2 : e.countP (fun x => decide (b[x]? = some c)) = (e.map (fun x => b[x]?)).countP (fun y => decide (y = some c)) := by
    rw [List.countP_map]; rfl
  rw [h2, h1, List.countP_map, List.count]
  refine List.countP_congr fun x _ => ?_
  simp
theorem flat_cnt {α β : Type} {f : α → List β} {p : β → Bool} {g : α → Bool} {m : Nat} : ∀ {l : List α}, (∀ e ∈ l, (f e).countP p = if g e = true then m else 0) → (l.flatMap f).countP p = l.countP g * m
  | [], _ => by simp
  | e :: l, h => by
    rw [List.flatMap_cons, List.countP_append, List.countP_cons, h e List.mem_cons_self, flat_cnt fun x hx => h x (List.mem_cons_of_mem _ hx), Nat.add_mul]
    by_cases hg : g e = true
    · rw [if_pos hg, if_pos hg]; omega
    · rw [if_neg hg, if_neg hg]; omega
theorem ext_cnt {n k c : Nat} {b t e : List Nat} (hb : b.length = n) (ht : t.length = n) (hc : ∀ c, b.count c = t.count c) (he : e ∈ levL n k) (hk : k < n) (hct : t[k]? = some c) :
    (extL n e).countP (fun x => chk x t b) = if chk e t b = true then 1 + (t.drop (k + 1)).count c else 0 := by
  obtain ⟨h1, h2, h3⟩ := (mem_lev n k e).mp he
  have e1 : (extL n e).countP (fun x => chk x t b) = ((List.range n).filter fun b => decide (b ∉ e)).countP fun x => chk e t b && decide (b[x]? = some c) := by
    unfold extL
    rw [List.countP_map]
    refine List.countP_congr fun x _ => ?_
    show chk (e ++ [x]) t b = true ↔ _
    rw [chk_snoc b x e t (by omega), h1, hct]
  rw [e1]
  by_cases hg : chk e t b = true
  · rw [if_pos hg, hg]
    simp only [Bool.true_and]
    have e2 := List.countP_eq_countP_filter_add (List.range n) (fun x => decide (b[x]? = some c)) (fun x => decide (x ∈ e))
    have e3 : ((List.range n).filter fun x => decide (x ∈ e)).Perm e := by
      refine (List.perm_ext_iff_of_nodup (List.nodup_range.sublist List.filter_sublist) h2).mpr fun a => ?_
      simp only [List.mem_filter, List.mem_range, decide_eq_true_eq]
      exact ⟨fun q => q.2, fun q => ⟨h3 a q, q⟩⟩
    rw [e3.countP_eq, cnt_range hb, cnt_pre hg (by omega), h1, hc] at e2
    have e4 : (List.filter (fun a => !decide (a ∈ e)) (List.range n)) = (List.filter (fun b => decide (b ∉ e)) (List.range n)) := by
      refine List.filter_congr fun x _ => ?_
      by_cases hx : x ∈ e <;> simp [hx]
    rw [e4] at e2
    have e5 : t.count c = (t.take k).count c + (t.drop k).count c := by rw [← List.count_append, List.take_append_drop]
    have e6 : t.drop k = c :: t.drop (k + 1) := by
      have hkl : k < t.length := by omega
      rw [List.drop_eq_getElem_cons hkl]
      rw [List.getElem?_eq_getElem hkl] at hct
      rw [Option.some.inj hct]
    rw [e6, List.count_cons_self] at e5
    omega
  · rw [if_neg hg]
    refine List.countP_eq_zero.mpr fun x _ => ?_
    simp [hg]
theorem lev_cnt {n : Nat} {b t : List Nat} (hb : b.length = n) (ht : t.length = n) (hc : ∀ c, b.count c = t.count c) : ∀ k, k ≤ n → (levL n k).countP (fun x => chk x t b) * lat (t.drop k) = lat t
  | 0, _ => by simp [levL, chk]
  | k + 1, hk => by
    have ih := lev_cnt hb ht hc k (by omega)
    have hkl : k < t.length := by omega
    have hct : t[k]? = some t[k] := List.getElem?_eq_getElem hkl
    rw [levL, flat_cnt fun e he => ext_cnt hb ht hc he (by omega) hct]
    rw [List.drop_eq_getElem_cons hkl, lat] at ih
    rw [Nat.mul_assoc]
    exact ih
theorem all_cnt {n : Nat} {b t : List Nat} (hb : b.length = n) (ht : t.length = n) (hc : ∀ c, b.count c = t.count c) : ((allL n).filter fun x => decide (misL x t b = [])).length = orders t := by
  have h := lev_cnt hb ht hc n (Nat.le_refl n)
  rw [List.drop_eq_nil_iff.mpr (by omega), lat, Nat.mul_one, ← orders_lat] at h
  rw [← List.countP_eq_length_filter, ← h]
  refine List.countP_congr fun x hx => ?_
  rw [chk_mis (by rw [ht]; exact perm_len (mem_all.mp hx))]
theorem LD_count {e s : List Nat} {n : Nat} (h : e.Perm (List.range n)) (hs : s.length = n) (c : Nat) : (LD e s).count c = s.count c := by
  have hm : misL e s (LD e s) = [] := (leads_iff h hs (LD_all h hs).1).mpr rfl
  have hl : e.length = s.length := by rw [perm_len h, hs]
  have hk : chk e s (LD e s) = true := by rw [chk_mis hl, hm]; rfl
  have h1 := cnt_pre hk (by omega) c
  rw [h.countP_eq, cnt_range (LD_all h hs).1, hl, List.take_length] at h1
  exact h1
end K08

end
section
set_option Elab.async false
set_option linter.all false
set_option maxRecDepth 100000
set_option autoImplicit false
set_option maxHeartbeats 400000
open PySem PySem.Spec PyProof.Rows L2 TL
namespace K08
theorem idxP_tn {p : List Nat} {j x : Nat} (h : p[j]? = some x) (hn : ∀ m < j, p[m]? ≠ some x) : idxP (tn p) (.int (x : Int)) = some (.sh (.int (j : Nat))) := by
  unfold idxP
  rw [if_pos ⟨okTs_tn p 0, rfl⟩]
  have hj : j < p.length := (List.getElem?_eq_some_iff.mp h).1
  have e : (tn p).findIdx? (fun y => eqD y (.int (x : Int))) = some j := by
    rw [List.findIdx?_eq_some_iff_getElem]
    refine ⟨by rw [tn_length]; exact hj, ?_, fun m hm => ?_⟩
    · have g := tn_get h
      have e2 : (tn p)[j]'(by rw [tn_length]; exact hj) = .int (x : Int) := by
        rw [List.getElem?_eq_getElem (by rw [tn_length]; exact hj)] at g
        exact Option.some.inj g
      rw [e2]
      show PyData.eqv (.int (x : Int)) (.int (x : Int)) = true
      rw [eqv_int]; simp
    · have hm2 : m < p.length := by omega
      have g := tn_get (List.getElem?_eq_getElem hm2)
      have e2 : (tn p)[m]'(by rw [tn_length]; exact hm2) = .int ((p[m] : Nat) : Int) := by
        rw [List.getElem?_eq_getElem (by rw [tn_length]; exact hm2)] at g
        exact Option.some.inj g
      rw [e2]
      have hne := hn m hm
      rw [List.getElem?_eq_getElem hm2] at hne
      show ¬ PyData.eqv (.int ((p[m] : Nat) : Int)) (.int (x : Int)) = true
      rw [eqv_int]
      simp only [decide_eq_true_eq]
      intro z
      exact hne (by rw [show p[m] = x by omega])
  rw [e]
  rfl
theorem idxF_tup {fa fb : OF} {S S1 S2 : Sta} {o o' : Opd} {ts ts' : List T} {u : T} {z : Slot} (h1 : fa S = .ok o S1) (g1 : o.get S1 = some (.tup ts)) (h2 : fb S1 = .ok o' S2) (g2 : o.get S2 = some (.tup ts')) (g3 : o'.get S2 = some u) (hz : idxP ts' u = some z) : idxF fa fb S = .ok z S2 := by
  unfold idxF
  rw [h1, R.bind_ok, g1]
  dsimp only
  rw [h2, R.bind_ok, g2, g3]
  dsimp only
  rw [hz, res_some]
theorem ixs {b : Bool} {p : List Nat} {i n : Nat} (h : p[i]? = some n) : ixT (sq b (tn p)) (.int (i : Int)) = some (.sh (.int (n : Int))) := by
  cases b
  · exact ix_lst (tn_get h)
  · exact ix_tup (tn_get h)
abbrev bodyLed : SF := dropF (methF 2 apP (consA (opE (op2 ixT (var 1) (opE (idxF (var 0) (var 3))))) (nilA)))
theorem r_led_loop (b : Bool) {p s : List Nat} {n : Nat} (h : p.Perm (List.range n)) (hs : s.length = n) (hn : n ≤ 1000) (nb : Nib) : ∀ (l : List Nat) (i : Nat) (x3 : Slot), l = (List.range n).drop i → i ≤ n →
    ∃ x3', forL (.nm 3) bodyLed (tn l) ⟨[.sh (.tup (tn p)), .sh (sq b (tn s)), .ow (.lst (tn ((LD p s).take i))), x3], [], nb⟩ = .ok .nx ⟨[.sh (.tup (tn p)), .sh (sq b (tn s)), .ow (.lst (tn (LD p s))), x3'], [], nb⟩
  | [], i, x3, hl, hi => by
    have e : n ≤ i := by
      have := congrArg List.length hl
      rw [List.length_drop, List.length_range] at this
      simp at this
      omega
    rw [List.take_of_length_le (by rw [(LD_all h hs).1]; omega)]
    exact ⟨x3, rfl⟩
  | x :: l, i, x3, hl, hi => by
    have hi2 : i < n := by
      refine Classical.byContradiction fun z => ?_
      rw [List.drop_eq_nil_iff.mpr (by rw [List.length_range]; omega)] at hl
      cases hl
    rw [List.drop_eq_getElem_cons (by rw [List.length_range]; exact hi2), List.getElem_range] at hl
    injection hl with hx hl
    subst hx
    obtain ⟨x3', ih⟩ := r_led_loop b h hs hn nb l (x + 1) (.sh (.int (x : Int))) hl (by omega)
    refine ⟨x3', ?_⟩
    obtain ⟨j, hj⟩ := perm_has h hi2
    have hjl : j < n := by have := (List.getElem?_eq_some_iff.mp hj).1; rw [perm_len h] at this; exact this
    have hno : ∀ m < j, p[m]? ≠ some x := fun m hm z => by
      have := (List.getElem?_inj (i := m) (j := j) (by rw [perm_len h]; omega) (perm_nd h)).mp (by rw [z, hj])
      omega
    have g : s[j]? = some s[j] := List.getElem?_eq_getElem (by omega)
    have gL : (LD p s)[x]? = some s[j] := by rw [LD_get h hs hj, g]
    have e1 := idxP_tn hj hno
    have e2 := ixs (b := b) g
    have hsz : (tn ((LD p s).take x)).length < TL.sz := lt_sz (by rw [tn_length, List.length_take]; omega)
    have hidx : idxF (var 0) (var 3) ⟨[.sh (.tup (tn p)), .sh (sq b (tn s)), .ow (.lst (tn ((LD p s).take x))), .sh (.int (x : Int))], [], nb⟩ = .ok (.sh (.int (j : Nat))) ⟨[.sh (.tup (tn p)), .sh (sq b (tn s)), .ow (.lst (tn ((LD p s).take x))), .sh (.int (x : Int))], [], nb⟩ :=
      idxF_tup (var_sh _ _ _ _ _ rfl) rfl (var_sh _ _ _ _ _ rfl) rfl rfl e1
    have hb : bodyLed ⟨[.sh (.tup (tn p)), .sh (sq b (tn s)), .ow (.lst (tn ((LD p s).take x))), .sh (.int (x : Int))], [], nb⟩ = .ok .nx ⟨[.sh (.tup (tn p)), .sh (sq b (tn s)), .ow (.lst (tn ((LD p s).take (x + 1)))), .sh (.int (x : Int))], [], nb⟩ := by
      have ho : op2 ixT (var 1) (opE (idxF (var 0) (var 3))) ⟨[.sh (.tup (tn p)), .sh (sq b (tn s)), .ow (.lst (tn ((LD p s).take x))), .sh (.int (x : Int))], [], nb⟩ = .ok (.sh (.int ((s[j] : Nat) : Int))) ⟨[.sh (.tup (tn p)), .sh (sq b (tn s)), .ow (.lst (tn ((LD p s).take x))), .sh (.int (x : Int))], [], nb⟩ :=
        op2_run (var_sh _ _ _ _ _ rfl) (opE_run hidx rfl) rfl rfl e2
      unfold bodyLed
      rw [dropF_ap, methF_ap]
      dsimp only [List.getElem?_cons_succ, List.getElem?_cons_zero]
      rw [consA_run (opE_run ho rfl) (nilA_ap _), R.bind_ok]
      rw [List.take_add_one, gL, tn_append]
      simp [ap_ok hsz]
    rw [tn_cons, forL_cons]
    show (bodyLed ⟨[.sh (.tup (tn p)), .sh (sq b (tn s)), .ow (.lst (tn ((LD p s).take x))), .sh (.int (x : Int))], [], nb⟩).bind _ = _
    rw [hb, R.bind_ok]
    exact ih
theorem r_law_led (b : Bool) {p s : List Nat} {n : Nat} (h : p.Perm (List.range n)) (hs : s.length = n) (hn : n ≤ 1000) (nb : Nib) : f_law_led [.tup (tn p), sq b (tn s)] nb = .ok (.ow (.lst (tn (LD p s)))) nb := by
  obtain ⟨x3', e⟩ := r_led_loop b h hs hn nb (List.range n) 0 .no rfl (by omega)
  rw [List.take_zero, tn_nil] at e
  show fnEnd (seqF (setF 2 (lstF (nilA))) (seqF (forF (rngI1 (opE (opN lenN (consA (var 0) (nilA))))) (.nm 3) bodyLed) (retF (varR 2))) ⟨[.sh (.tup (tn p)), .sh (sq b (tn s)), .no, .no], [], nb⟩) = _
  have e1 : setF 2 (lstF (nilA)) ⟨[.sh (.tup (tn p)), .sh (sq b (tn s)), .no, .no], [], nb⟩ = .ok .nx ⟨[.sh (.tup (tn p)), .sh (sq b (tn s)), .ow (.lst []), .no], [], nb⟩ := by simp
  have e2 := rngI1_n (a := opE (opN lenN (consA (var 0) (nilA)))) (S := ⟨[.sh (.tup (tn p)), .sh (sq b (tn s)), .ow (.lst []), .no], [], nb⟩) (S1 := ⟨[.sh (.tup (tn p)), .sh (sq b (tn s)), .ow (.lst []), .no], [], nb⟩) (n := n) (by simp [var_sh, lenN, perm_len h]) (by omega)
  rw [seqF_ap, e1, R.bind_ok]
  dsimp only
  rw [seqF_ap, forF_ap, e2, R.bind_ok, e, R.bind_ok]
  dsimp only
  rw [retF_ap, varR_ow (t := .lst (tn (LD p s))) (h := rfl)]
  rfl
end K08

end
section
set_option Elab.async false
set_option linter.all false
set_option maxRecDepth 100000
set_option autoImplicit false
set_option maxHeartbeats 400000
open PySem PySem.Spec PyProof.Rows L2 TL
namespace K08
def cand (b : List Nat) (c : Nat) (f : List Nat) : List Nat := (List.range b.length).filter fun j => decide (b[j]? = some c) && decide (j ∉ f)
def earlL (b : List Nat) : List Nat → List Nat → List Nat
  | [], f => f
  | c :: t, f => earlL b t (f ++ [(cand b c f).headD 0])
def goodL (b : List Nat) : List Nat → List Nat → Prop
  | [], _ => True
  | c :: t, f => cand b c f ≠ [] ∧ goodL b t (f ++ [(cand b c f).headD 0])
theorem notin_lst (j : Nat) (f : List Nat) : inT true (.int (j : Int)) (.lst (tn f)) = some (.sh (.bl (decide (j ∉ f)))) := by
  show (if T.okD 60 (.int (j : Int)) = true ∧ T.okD 60 (.lst (tn f)) = true then some (Slot.sh (T.bl (true != (tn f).any fun y => eqD y (.int (j : Int))))) else none) = _
  rw [if_pos ⟨rfl, okD_lst f 59⟩, any_tn]
  by_cases h : j ∈ f <;> simp [h]
abbrev ttE : TF := andT (tst (op2 TL.eqT (opE (op2 ixT (var 1) (var 4))) (var 3))) (tst (op2 (inT true) (var 4) (var 2)))
abbrev compE : EF := compF [4] (rngI1 (opE (opN lenN (consA (var 1) (nilA))))) (.nm 4) ttE (varE 4)
theorem r_ttE (b2 : Bool) {b f : List Nat} {c j y : Nat} (g : b[j]? = some y) (s0 : Slot) (gh : List Slot) (nb : Nib) :
    ttE ⟨[s0, .sh (sq b2 (tn b)), .ow (.lst (tn f)), .sh (.int (c : Int)), .sh (.int (j : Int))], gh, nb⟩ = .ok (decide (b[j]? = some c) && decide (j ∉ f)) ⟨[s0, .sh (sq b2 (tn b)), .ow (.lst (tn f)), .sh (.int (c : Int)), .sh (.int (j : Int))], gh, nb⟩ := by
  have e1 := ixs (b := b2) g
  have e2 := TL.eq_int (y : Int) (c : Int)
  have e3 := notin_lst j f
  have e4 : op2 TL.eqT (opE (op2 ixT (var 1) (var 4))) (var 3) ⟨[s0, .sh (sq b2 (tn b)), .ow (.lst (tn f)), .sh (.int (c : Int)), .sh (.int (j : Int))], gh, nb⟩ = .ok (.sh (.bl (decide ((y : Int) = (c : Int))))) ⟨[s0, .sh (sq b2 (tn b)), .ow (.lst (tn f)), .sh (.int (c : Int)), .sh (.int (j : Int))], gh, nb⟩ :=
    op2_run (opE_run (op2_run (var_sh _ _ _ _ _ rfl) (var_sh _ _ _ _ _ rfl) rfl rfl e1) rfl) (var_sh _ _ _ _ _ rfl) rfl rfl e2
  have e5 : op2 (inT true) (var 4) (var 2) ⟨[s0, .sh (sq b2 (tn b)), .ow (.lst (tn f)), .sh (.int (c : Int)), .sh (.int (j : Int))], gh, nb⟩ = .ok (.sh (.bl (decide (j ∉ f)))) ⟨[s0, .sh (sq b2 (tn b)), .ow (.lst (tn f)), .sh (.int (c : Int)), .sh (.int (j : Int))], gh, nb⟩ :=
    op2_run (var_sh _ _ _ _ _ rfl) (var_ow _ _ _ _ _ rfl) rfl rfl e3
  unfold ttE
  rw [andT_ap, tst_ap, e4, R.bind_ok]
  dsimp only
  rw [R.bind_ok, tst_ap, e5, R.bind_ok]
  dsimp only
  by_cases h : y = c
  · subst h
    simp [g]
  · have h2 : ¬ ((y : Int) = (c : Int)) := by omega
    simp [g, h, h2]
theorem r_compE (b2 : Bool) {b f : List Nat} (hb : b.length ≤ 1000) (c : Nat) (s0 s4 : Slot) (h4 : Slot.free (some s4) = true) (nb : Nib) :
    compE ⟨[s0, .sh (sq b2 (tn b)), .ow (.lst (tn f)), .sh (.int (c : Int)), s4], [], nb⟩ = .ok (.ow (.lst (tn (cand b c f)))) ⟨[s0, .sh (sq b2 (tn b)), .ow (.lst (tn f)), .sh (.int (c : Int)), s4], [], nb⟩ := by
  have hc := compF_map (own := [4]) (it := rngI1 (opE (opN lenN (consA (var 1) (nilA))))) (tg := .nm 4) (tt := ttE) (te := varE 4)
    (S := ⟨[s0, .sh (sq b2 (tn b)), .ow (.lst (tn f)), .sh (.int (c : Int)), s4], [], nb⟩) (S1 := ⟨[s0, .sh (sq b2 (tn b)), .ow (.lst (tn f)), .sh (.int (c : Int)), s4], [], nb⟩) (List.range b.length) (fun (n : Nat) => T.int (n : Int))
    (fun j => if (decide (b[j]? = some c) && decide (j ∉ f)) = true then some (.int (j : Int)) else none)
    (rngI1_n (by
      have e : lenN [sq b2 (tn b)] = some (.sh (.int (b.length : Int))) := by
        cases b2
        · show some (Slot.sh (T.int ((tn b).length : Int))) = _; rw [tn_length]
        · show some (Slot.sh (T.int ((tn b).length : Int))) = _; rw [tn_length]
      refine opE_run (x := .sh (.int (b.length : Int))) ?_ rfl
      rw [opN_ap, consA_run (var_sh _ _ _ _ _ rfl) (nilA_ap _), R.bind_ok]
      show res (lenN [sq b2 (tn b)]) _ = _
      rw [e, res_some]) (by omega)) (by simpa using h4) (by decide) (len_sz (by rw [List.length_range]; omega)) (fun j hj acc => by
      have g : b[j]? = some (b[j]'(by simpa using hj)) := List.getElem?_eq_getElem _
      exact compStep_filter (S1 := ⟨[s0, .sh (sq b2 (tn b)), .ow (.lst (tn f)), .sh (.int (c : Int)), .sh (.int (j : Int))], [.ow (.lst acc)], nb⟩) rfl (r_ttE b2 g s0 [.ow (.lst acc)] nb) (varE_sh _ _ _ _ _ rfl) rfl)
  rw [filterMap_if] at hc
  exact hc
abbrev bodyE : SF := dropF (methF 2 apP (consA (opE (op2 ixT (opE compE) (opE (con (.int 0))))) (nilA)))
theorem r_e_loop (b1 b2 : Bool) {b tt : List Nat} (hb : b.length ≤ 1000) (nb : Nib) : ∀ (t f : List Nat) (x3 x4 : Slot), goodL b t f → f.length + t.length ≤ 1000 → Slot.free (some x4) = true →
    ∃ x3', forL (.nm 3) bodyE (tn t) ⟨[.sh (sq b1 (tn tt)), .sh (sq b2 (tn b)), .ow (.lst (tn f)), x3, x4], [], nb⟩ = .ok .nx ⟨[.sh (sq b1 (tn tt)), .sh (sq b2 (tn b)), .ow (.lst (tn (earlL b t f))), x3', x4], [], nb⟩
  | [], f, x3, x4, _, _, _ => ⟨x3, rfl⟩
  | c :: t, f, x3, x4, hg, hl, h4 => by
    rw [List.length_cons] at hl
    obtain ⟨x3', ih⟩ := r_e_loop b1 b2 (tt := tt) hb nb t (f ++ [(cand b c f).headD 0]) (.sh (.int (c : Int))) x4 hg.2 (by rw [List.length_append, List.length_singleton]; omega) h4
    refine ⟨x3', ?_⟩
    have hc := r_compE b2 (f := f) hb c (.sh (sq b1 (tn tt))) x4 h4 nb
    have g : (cand b c f)[0]? = some ((cand b c f).headD 0) := by
      cases h : cand b c f with
      | nil => exact absurd h hg.1
      | cons a l => rfl
    have e2 : ixT (.lst (tn (cand b c f))) (.int 0) = some (.sh (.int (((cand b c f).headD 0 : Nat) : Int))) := ix_lst (i := 0) (tn_get g)
    have hsz : (tn f).length < TL.sz := lt_sz (by rw [tn_length]; omega)
    have ho : op2 ixT (opE compE) (opE (con (.int 0))) ⟨[.sh (sq b1 (tn tt)), .sh (sq b2 (tn b)), .ow (.lst (tn f)), .sh (.int (c : Int)), x4], [], nb⟩ = .ok (.sh (.int (((cand b c f).headD 0 : Nat) : Int))) ⟨[.sh (sq b1 (tn tt)), .sh (sq b2 (tn b)), .ow (.lst (tn f)), .sh (.int (c : Int)), x4], [], nb⟩ :=
      op2_run (opE_run hc rfl) (opE_run (con_ap _ _) rfl) rfl rfl e2
    have hbd : bodyE ⟨[.sh (sq b1 (tn tt)), .sh (sq b2 (tn b)), .ow (.lst (tn f)), .sh (.int (c : Int)), x4], [], nb⟩ = .ok .nx ⟨[.sh (sq b1 (tn tt)), .sh (sq b2 (tn b)), .ow (.lst (tn (f ++ [(cand b c f).headD 0]))), .sh (.int (c : Int)), x4], [], nb⟩ := by
      unfold bodyE
      rw [dropF_ap, methF_ap]
      dsimp only [List.getElem?_cons_succ, List.getElem?_cons_zero]
      rw [consA_run (opE_run ho rfl) (nilA_ap _), R.bind_ok, tn_append]
      simp [ap_ok hsz]
    rw [tn_cons, forL_cons]
    show (bodyE ⟨[.sh (sq b1 (tn tt)), .sh (sq b2 (tn b)), .ow (.lst (tn f)), .sh (.int (c : Int)), x4], [], nb⟩).bind _ = _
    rw [hbd, R.bind_ok]
    exact ih
theorem r_earliest (b1 b2 : Bool) {b t : List Nat} (hb : b.length ≤ 1000) (ht : t.length ≤ 1000) (hg : goodL b t []) (nb : Nib) : f_law_earliest [sq b1 (tn t), sq b2 (tn b)] nb = .ok (.sh (.tup (tn (earlL b t [])))) nb := by
  obtain ⟨x3', e⟩ := r_e_loop b1 b2 (tt := t) hb nb t [] .no .no hg (by simpa using ht) rfl
  rw [tn_nil] at e
  show fnEnd (seqF (setF 2 (lstF (nilA))) (seqF (forF (seqI (opE (varE 0))) (.nm 3) bodyE) (retF (opN tupleN (consA (var 2) (nilA))))) ⟨[.sh (sq b1 (tn t)), .sh (sq b2 (tn b)), .no, .no, .no], [], nb⟩) = _
  have e1 : setF 2 (lstF (nilA)) ⟨[.sh (sq b1 (tn t)), .sh (sq b2 (tn b)), .no, .no, .no], [], nb⟩ = .ok .nx ⟨[.sh (sq b1 (tn t)), .sh (sq b2 (tn b)), .ow (.lst []), .no, .no], [], nb⟩ := by simp
  have e2 : seqI (opE (varE 0)) ⟨[.sh (sq b1 (tn t)), .sh (sq b2 (tn b)), .ow (.lst []), .no, .no], [], nb⟩ = .ok (tn t) ⟨[.sh (sq b1 (tn t)), .sh (sq b2 (tn b)), .ow (.lst []), .no, .no], [], nb⟩ := by
    rw [seqI_ap, argV rfl, R.bind_ok]
    cases b1 <;> rfl
  rw [seqF_ap, e1, R.bind_ok]
  dsimp only
  rw [seqF_ap, forF_ap, e2, R.bind_ok, e, R.bind_ok]
  dsimp only
  simp [var_ow, get_ow, tupleN, fnEnd]
end K08

end
section
set_option Elab.async false
set_option linter.all false
set_option maxRecDepth 100000
set_option autoImplicit false
set_option maxHeartbeats 400000
open PySem PySem.Spec PyProof.Rows L2 TL
namespace K08
theorem mem_cand {b : List Nat} {c : Nat} {f : List Nat} {j : Nat} : j ∈ cand b c f ↔ b[j]? = some c ∧ j ∉ f := by
  unfold cand
  simp only [List.mem_filter, List.mem_range, Bool.and_eq_true, decide_eq_true_eq]
  constructor
  · rintro ⟨_, h⟩; exact h
  · rintro ⟨h1, h2⟩; exact ⟨(List.getElem?_eq_some_iff.mp h1).1, h1, h2⟩
theorem cand_least {b : List Nat} {c : Nat} {f : List Nat} {j : Nat} (h : j ∈ cand b c f) : cand b c f ≠ [] ∧ (cand b c f).headD 0 ∈ cand b c f ∧ (cand b c f).headD 0 ≤ j := by
  have hs : (cand b c f).Pairwise (· < ·) := List.Pairwise.sublist List.filter_sublist List.pairwise_lt_range
  cases e : cand b c f with
  | nil => rw [e] at h; cases h
  | cons a l =>
    rw [e] at h hs
    refine ⟨by simp, by simp, ?_⟩
    rcases List.mem_cons.mp h with rfl | h
    · exact Nat.le_refl _
    · exact Nat.le_of_lt ((List.pairwise_cons.mp hs).1 j h)
section
variable {n : Nat} {b t : List Nat}
theorem cand_ne (hb : b.length = n) (ht : t.length = n) (hc : ∀ c, b.count c = t.count c) {k c : Nat} {f : List Nat} (hf : f ∈ levL n k) (hk : k < n) (hct : t[k]? = some c) (hch : chk f t b = true) : ∃ j, j ∈ cand b c f := by
  have h := ext_cnt hb ht hc hf hk hct
  rw [if_pos hch] at h
  obtain ⟨y, hy, hy2⟩ := List.countP_pos_iff.mp (show 0 < (extL n f).countP (fun x => chk x t b) by omega)
  obtain ⟨x, h1, h2, rfl⟩ := mem_ext.mp hy
  have hl := (mem_lev n k f).mp hf
  rw [chk_snoc b x f t (by omega), Bool.and_eq_true, decide_eq_true_eq, hl.1, hct] at hy2
  exact ⟨x, mem_cand.mpr ⟨hy2.2, h2⟩⟩
theorem earl_all (hb : b.length = n) (ht : t.length = n) (hc : ∀ c, b.count c = t.count c) : ∀ (q f : List Nat) (k : Nat), f ∈ levL n k → k ≤ n → t.drop k = q → chk f t b = true → goodL b q f ∧ earlL b q f ∈ levL n n ∧ chk (earlL b q f) t b = true ∧ (∃ r, earlL b q f = f ++ r) ∧
    ∀ r, (f ++ r) ∈ levL n n → chk (f ++ r) t b = true → ∃ r', earlL b q f = f ++ r' ∧ HT.lexLt (r.map fun (x : Nat) => (x : Int)) (r'.map fun (x : Nat) => (x : Int)) = false
  | [], f, k, hf, hk, hq, hch => by
    have hkn : k = n := by
      have := List.drop_eq_nil_iff.mp hq
      omega
    subst hkn
    refine ⟨trivial, hf, hch, ⟨[], by rw [List.append_nil]; rfl⟩, fun r hr _ => ⟨[], by rw [List.append_nil]; rfl, ?_⟩⟩
    have h1 := ((mem_lev k k f).mp hf).1
    have h2 := ((mem_lev k k (f ++ r)).mp hr).1
    rw [List.length_append] at h2
    have : r = [] := List.length_eq_zero_iff.mp (by omega)
    subst this
    rfl
  | c :: q, f, k, hf, hk, hq, hch => by
    have hkn : k < n := by
      refine Classical.byContradiction fun z => ?_
      rw [List.drop_eq_nil_iff.mpr (by omega)] at hq
      cases hq
    have hkt : k < t.length := by omega
    rw [List.drop_eq_getElem_cons hkt] at hq
    injection hq with hq1 hq2
    have hct : t[k]? = some c := by rw [List.getElem?_eq_getElem hkt, hq1]
    obtain ⟨j, hj⟩ := cand_ne hb ht hc hf hkn hct hch
    obtain ⟨hne, hm, _⟩ := cand_least hj
    obtain ⟨x, hx⟩ : ∃ x, x = (cand b c f).headD 0 := ⟨_, rfl⟩
    rw [← hx] at hm
    obtain ⟨hm1, hm2⟩ := mem_cand.mp hm
    have hl := (mem_lev n k f).mp hf
    have hxn : x < n := by have := (List.getElem?_eq_some_iff.mp hm1).1; omega
    have hf2 : f ++ [x] ∈ levL n (k + 1) := by
      rw [levL, List.mem_flatMap]
      exact ⟨f, hf, mem_ext.mpr ⟨x, hxn, hm2, rfl⟩⟩
    have hch2 : chk (f ++ [x]) t b = true := by
      rw [chk_snoc b x f t (by omega), hch, hl.1, hct, hm1]
      simp
    obtain ⟨g1, g2, g3, ⟨r0, g4⟩, g5⟩ := earl_all hb ht hc q (f ++ [x]) (k + 1) hf2 (by omega) hq2 hch2
    rw [goodL, earlL, ← hx]
    refine ⟨⟨hne, g1⟩, g2, g3, ⟨x :: r0, by rw [g4, List.append_assoc]; rfl⟩, fun r hr hcr => ?_⟩
    cases r with
    | nil =>
      have h2 := ((mem_lev n n (f ++ [])).mp hr).1
      rw [List.append_nil, hl.1] at h2
      omega
    | cons y r =>
      have hsp : f ++ y :: r = (f ++ [y]) ++ r := by rw [List.append_assoc]; rfl
      have hlev := (mem_lev n n (f ++ y :: r)).mp hr
      have hy2 : y ∉ f := by
        have := hlev.2.1
        rw [List.nodup_append] at this
        exact fun z => this.2.2 y z y List.mem_cons_self rfl
      have hby : b[y]? = some c := by
        have h3 := (chk_iff b (f ++ y :: r) t (by omega)).mp hcr k (by rw [hlev.1]; exact hkn)
        have e1 : (f ++ y :: r)[k]? = some y := by rw [← hl.1, List.getElem?_append_right (Nat.le_refl _), Nat.sub_self]; rfl
        rw [e1, Option.bind_some, hct] at h3
        exact h3
      obtain ⟨_, _, hle⟩ := cand_least (mem_cand.mpr ⟨hby, hy2⟩)
      rw [← hx] at hle
      by_cases hxy : y = x
      · subst hxy
        rw [hsp] at hr hcr
        obtain ⟨r', e1, e2⟩ := g5 r hr hcr
        refine ⟨y :: r', by rw [e1, List.append_assoc]; rfl, ?_⟩
        rw [List.map_cons, List.map_cons, HT.lexLt_cons, if_pos rfl]
        exact e2
      · refine ⟨x :: r0, by rw [g4, List.append_assoc]; rfl, ?_⟩
        rw [List.map_cons, List.map_cons, HT.lexLt_cons, if_neg (by omega), decide_eq_false (by omega)]
theorem earl_ok (hb : b.length = n) (ht : t.length = n) (hc : ∀ c, b.count c = t.count c) : goodL b t [] ∧ (earlL b t []).Perm (List.range n) ∧ LD (earlL b t []) t = b ∧ ∀ p, p.Perm (List.range n) → LD p t = b → HT.lexLt (p.map fun (x : Nat) => (x : Int)) ((earlL b t []).map fun (x : Nat) => (x : Int)) = false := by
  obtain ⟨g1, g2, g3, _, g5⟩ := earl_all hb ht hc t [] 0 (by simp [levL]) (Nat.zero_le _) (List.drop_zero) rfl
  have hp : (earlL b t []).Perm (List.range n) := mem_all.mp g2
  refine ⟨g1, hp, ?_, fun p h1 h2 => ?_⟩
  · refine (leads_iff hp ht hb).mp ?_
    rw [chk_mis (by rw [perm_len hp, ht])] at g3
    exact of_decide_eq_true g3
  · have hm : misL p t b = [] := (leads_iff h1 ht hb).mpr h2
    obtain ⟨r', e1, e2⟩ := g5 p (mem_all.mpr h1) (by rw [List.nil_append, chk_mis (by rw [perm_len h1, ht]), hm]; rfl)
    rw [List.nil_append] at e1
    rw [e1]
    exact e2
end
end K08

end
section
set_option Elab.async false
set_option linter.all false
set_option maxRecDepth 100000
set_option autoImplicit false
set_option maxHeartbeats 400000
open PySem PySem.Spec PyProof.Rows L2 TL
namespace K08
theorem earl_inc {n : Nat} {b t : List Nat} (hb : b.length = n) (ht : t.length = n) (hc : ∀ c, b.count c = t.count c) : ∀ (q f : List Nat) (k : Nat), f ∈ levL n k → k ≤ n → t.drop k = q → chk f t b = true →
    ∀ (i j x y c : Nat), k ≤ i → i < j → (earlL b q f)[i]? = some x → (earlL b q f)[j]? = some y → t[i]? = some c → t[j]? = some c → x < y
  | [], f, k, hf, hk, hq, hch => by
    intro i j x y c hi hij h1 h2 h3 h4
    have hkn : n ≤ k := by
      have := List.drop_eq_nil_iff.mp hq
      omega
    have := (List.getElem?_eq_some_iff.mp h3).1
    omega
  | c :: q, f, k, hf, hk, hq, hch => by
    have hkn : k < n := by
      refine Classical.byContradiction fun z => ?_
      rw [List.drop_eq_nil_iff.mpr (by omega)] at hq
      cases hq
    have hkt : k < t.length := by omega
    have hq' := hq
    rw [List.drop_eq_getElem_cons hkt] at hq
    injection hq with hq1 hq2
    have hct : t[k]? = some c := by rw [List.getElem?_eq_getElem hkt, hq1]
    obtain ⟨j0, hj⟩ := cand_ne hb ht hc hf hkn hct hch
    obtain ⟨hne, hm, _⟩ := cand_least hj
    obtain ⟨x0, hx⟩ : ∃ x, x = (cand b c f).headD 0 := ⟨_, rfl⟩
    rw [← hx] at hm
    obtain ⟨hm1, hm2⟩ := mem_cand.mp hm
    have hl := (mem_lev n k f).mp hf
    have hxn : x0 < n := by have := (List.getElem?_eq_some_iff.mp hm1).1; omega
    have hf2 : f ++ [x0] ∈ levL n (k + 1) := by
      rw [levL, List.mem_flatMap]
      exact ⟨f, hf, mem_ext.mpr ⟨x0, hxn, hm2, rfl⟩⟩
    have hch2 : chk (f ++ [x0]) t b = true := by
      rw [chk_snoc b x0 f t (by omega), hch, hl.1, hct, hm1]
      simp
    intro i j x y c' hi hij h1 h2 h3 h4
    rw [earlL, ← hx] at h1 h2
    by_cases hik : i = k
    · subst hik
      rw [hct] at h3
      cases h3
      obtain ⟨_, g2, g3, ⟨r0, g4⟩, _⟩ := earl_all hb ht hc q (f ++ [x0]) (i + 1) hf2 (by omega) hq2 hch2
      have e1 : (earlL b q (f ++ [x0]))[i]? = some x0 := by
        rw [g4, List.append_assoc, ← hl.1, List.getElem?_append_right (Nat.le_refl _), Nat.sub_self]
        rfl
      rw [e1] at h1
      cases h1
      have lev := (mem_lev n n _).mp g2
      have hby : b[y]? = some c := by
        have h5 := (chk_iff b _ t (by omega)).mp g3 j (List.getElem?_eq_some_iff.mp h2).1
        rw [h2, Option.bind_some, h4] at h5
        exact h5
      have hyf : y ∉ f ++ [x0] := fun z => by
        obtain ⟨m, hm⟩ := List.mem_iff_getElem?.mp z
        have hml := (List.getElem?_eq_some_iff.mp hm).1
        have e2 : (earlL b q (f ++ [x0]))[m]? = some y := by rw [g4, List.getElem?_append_left hml]; exact hm
        rw [List.length_append, List.length_singleton] at hml
        have := (List.getElem?_inj (i := m) (j := j) (List.getElem?_eq_some_iff.mp e2).1 lev.2.1).mp (by rw [e2, h2])
        omega
      obtain ⟨_, _, hle⟩ := cand_least (mem_cand.mpr ⟨hby, fun z => hyf (List.mem_append_left _ z)⟩)
      rw [← hx] at hle
      have : y ≠ x0 := fun z => hyf (by rw [z]; simp)
      omega
    · exact earl_inc hb ht hc q (f ++ [x0]) (k + 1) hf2 (by omega) hq2 hch2 i j x y c' (by omega) hij h1 h2 h3 h4
/-! chains of falls -/
theorem mx_mem : ∀ (l : List Nat) (a : Nat), l.foldl max a = a ∨ l.foldl max a ∈ l
  | [], a => .inl rfl
  | x :: l, a => by
    rw [List.foldl_cons]
    rcases mx_mem l (max a x) with h | h
    · rw [h]
      by_cases q : a ≤ x
      · rw [Nat.max_eq_right q]; exact .inr List.mem_cons_self
      · rw [Nat.max_eq_left (by omega)]; exact .inl rfl
    · exact .inr (List.mem_cons_of_mem _ h)
def Fall (p : List Nat) (a b : Nat) : Prop := b < a ∧ ∃ x y, p[a]? = some x ∧ p[b]? = some y ∧ x < y
theorem Fall.trans {p : List Nat} {a b c : Nat} (h1 : Fall p a b) (h2 : Fall p b c) : Fall p a c := by
  obtain ⟨l1, x, y, e1, e2, h1⟩ := h1
  obtain ⟨l2, y', z, e3, e4, h2⟩ := h2
  rw [e2] at e3
  cases e3
  exact ⟨by omega, x, z, e1, e4, by omega⟩
def Ch (p : List Nat) (i v : Nat) : Prop := ∃ l : List Nat, l.length = v ∧ (i :: l).Pairwise (Fall p) ∧ ∀ a ∈ i :: l, a < p.length
theorem colL_chain (p : List Nat) : ∀ (q : List Nat) (i : Nat) (f : List Nat), p.drop i = q → f.length = i → (∀ a v, f[a]? = some v → Ch p a v) → ∀ a v, (colL p q i f)[a]? = some v → Ch p a v
  | [], _, f, _, _, hf => hf
  | b :: q, i, f, hq, hl, hf => by
    have hi : i < p.length := by
      refine Classical.byContradiction fun z => ?_
      rw [List.drop_eq_nil_iff.mpr (by omega)] at hq
      cases hq
    rw [List.drop_eq_getElem_cons hi] at hq
    injection hq with hq1 hq2
    have hpi : p[i]? = some b := by rw [List.getElem?_eq_getElem hi, hq1]
    refine colL_chain p q (i + 1) _ hq2 (by simp [hl]) fun a v h => ?_
    rcases getE_snoc h with ⟨_, e⟩ | ⟨e1, e2⟩
    · exact hf a v e
    · rw [hl] at e1
      subst e1
      rcases mx_mem (colS p f a b) 0 with h0 | h0
      · have e3 : v = 0 := by rw [← e2]; exact h0
        subst e3
        exact ⟨[], rfl, by simp, fun c hc => by simp at hc; subst hc; exact hi⟩
      · have e3 : v ∈ colS p f a b := by rw [← e2]; exact h0
        unfold colS at e3
        obtain ⟨m, hm, hm2⟩ := List.mem_filterMap.mp e3
        rw [List.mem_range] at hm
        obtain ⟨x, hx, hx2⟩ := Option.bind_eq_some_iff.mp hm2
        split at hx2
        · rename_i hbx
          obtain ⟨u, hu, hu2⟩ := Option.map_eq_some_iff.mp hx2
          obtain ⟨l, h1, h2, h3⟩ := hf m u hu
          have hfall : Fall p a m := ⟨hm, b, x, hpi, hx, hbx⟩
          refine ⟨m :: l, by rw [List.length_cons, h1, ← hu2]; omega, List.pairwise_cons.mpr ⟨fun c hc => ?_, h2⟩, fun c hc => ?_⟩
          · rcases List.mem_cons.mp hc with rfl | hc
            · exact hfall
            · exact hfall.trans ((List.pairwise_cons.mp h2).1 c hc)
          · rcases List.mem_cons.mp hc with rfl | hc
            · exact hi
            · exact h3 c hc
        · cases hx2
theorem colours_chain (p : List Nat) {i v : Nat} (h : (colours p)[i]? = some v) : Ch p i v :=
  colL_chain p p 0 [] rfl rfl (fun a v h => by simp at h) i v h
/-- an earliest row's falls are no longer than its settings' numbers are many -/
theorem earl_kept {n z : Nat} {b t : List Nat} (hb : b.length = n) (ht : t.length = n) (hc : ∀ c, b.count c = t.count c) (hz : ∀ x ∈ t, x < z) {i v : Nat} (h : (colours (earlL b t []))[i]? = some v) : v < z := by
  obtain ⟨l, h1, h2, h3⟩ := colours_chain _ h
  obtain ⟨_, hp, _, _⟩ := earl_ok hb ht hc
  have hlen := perm_len hp
  have key : ((i :: l).map fun a => t[a]?.getD 0).Nodup := by
    rw [List.nodup_iff_pairwise_ne, List.pairwise_map]
    refine List.Pairwise.imp_of_mem (fun {a c} ha hc' hf e => ?_) h2
    obtain ⟨hca, x, y, e1, e2, hxy⟩ := hf
    have la := h3 a ha
    have lc := h3 c hc'
    rw [hlen] at la lc
    have ga : t[a]? = some t[a] := List.getElem?_eq_getElem (by omega)
    have gc : t[c]? = some t[c] := List.getElem?_eq_getElem (by omega)
    rw [ga, gc] at e
    have e : t[a] = t[c] := e
    have := earl_inc hb ht hc t [] 0 (by simp [levL]) (Nat.zero_le _) (List.drop_zero) rfl c a y x t[c] (Nat.zero_le _) hca e2 e1 gc (by rw [ga, e])
    omega
  have hsub : ∀ x ∈ (i :: l).map fun a => t[a]?.getD 0, x ∈ List.range z := fun x hx => by
    obtain ⟨a, ha, rfl⟩ := List.mem_map.mp hx
    have la := h3 a ha
    rw [hlen] at la
    have ga : t[a]? = some t[a] := List.getElem?_eq_getElem (by omega)
    rw [ga]
    exact List.mem_range.mpr (hz _ (List.getElem_mem _))
  have := key.length_le_of_subset hsub
  rw [List.length_map, List.length_cons, List.length_range, h1] at this
  omega
end K08

end
section
set_option Elab.async false
set_option linter.all false
set_option maxRecDepth 100000
set_option autoImplicit false
set_option maxHeartbeats 400000
open PySem PySem.Spec PyProof.Rows L2 TL
namespace K08
theorem r_settings_by {p : List Nat} {n : Nat} (h : p.Perm (List.range n)) (h6 : n ≤ 6) (nb : Nib) : f_settings_by [.tup (tn p)] nb = .ok (.sh (.tup [.tup (tn (colours p)), .tup (tn (LD p (colours p)))])) nb := by
  have hl := perm_len h
  have e1 := r_colours_of p nb (by omega)
  have e2 : f_led_by [.tup (tn p), .tup (tn (colours p))] nb = .ok (.sh (.tup (tn (LD p (colours p))))) nb := r_led_by true p (colours p) nb (fun x hx => by rw [hl]; exact perm_lt h x hx) (fun x hx => by rw [colours_length, hl]; exact back_lt h x hx) (by omega)
  simp [f_settings_by, fnOf, fnEnd, b_settings_by, sta0, N_settings_by, varE_sh, e1, e2, show (2 : Nat) ≤ sz from len_sz (by omega)]
theorem r_settings_of (b : Bool) {p : List Nat} {n : Nat} (h : p.Perm (List.range n)) (h1 : 1 ≤ n) (h6 : n ≤ 6) (nb : Nib) : f_settings_of [sq b (tn p)] nb = .ok (.sh (.tup [.tup (tn (colours p)), .tup (tn (LD p (colours p)))])) nb := by
  have e1 := r_settings_by h h6 nb
  have e2 := r_need_wiring b p n (.str "row") nb h h1 h6
  simp [f_settings_of, fnOf, fnEnd, b_settings_of, sta0, N_settings_of, varE_sh, e1, e2]
theorem r_led (b1 b2 : Bool) {e s : List Nat} {n : Nat} (h : e.Perm (List.range n)) (hs : s.length = n) (h1 : 1 ≤ n) (h6 : n ≤ 6) (nb : Nib) : f_led [sq b1 (tn e), sq b2 (tn s)] nb = .ok (.sh (.tup (tn (LD e s)))) nb := by
  have hl := perm_len h
  have e2 := r_need_wiring b1 e n (.str "row") nb h h1 h6
  have e3 := r_need_setting b2 s n (.str "setting") nb hs (by omega)
  have e4 : f_led_by [.tup (tn e), .tup (tn s)] nb = .ok (.sh (.tup (tn (LD e s)))) nb := r_led_by true e s nb (fun x hx => by rw [hl]; exact perm_lt h x hx) (fun x hx => by rw [hs]; exact back_lt h x hx) (by omega)
  simp [f_led, fnOf, fnEnd, b_led, sta0, N_led, varE_sh, var_sh, e2, lenN, hl, e3, e4]

theorem mx_eq (l : List Nat) (x : Nat) : mx (x :: l) = l.foldl max x := by unfold mx; rw [List.foldl_cons, Nat.zero_max]
theorem maxN_n {l : List Nat} (h : l ≠ []) : maxN [.lst (tn l)] = some (.sh (.int ((mx l : Nat) : Int))) := by
  show (intsT (tn l)).bind _ = _
  rw [intsT_tn, Option.bind_some]
  cases l with
  | nil => exact absurd rfl h
  | cons x xs =>
    show some (Slot.sh (T.int (maxI (x : Int) (xs.map fun (n : Nat) => (n : Int))))) = _
    rw [maxI_nat, mx_eq]
theorem lt_nat (a b : Nat) : ltA (.int (a : Int)) (.int (b : Int)) = some (.sh (.bl (decide (a < b)))) := by
  show some (Slot.sh (T.bl (decide ((a : Int) < b)))) = _
  simp
end K08

end
section
set_option Elab.async false
set_option linter.all false
set_option maxRecDepth 100000
set_option autoImplicit false
set_option maxHeartbeats 400000
open PySem PySem.Spec PyProof.Rows L2 TL
namespace K08
theorem maxAN_n {l : List Nat} (h : l ≠ []) : maxAN [.tup (tn l)] = some (.sh (.int ((mx l : Nat) : Int))) := by
  show (intsT (tn l)).bind _ = _
  rw [intsT_tn, Option.bind_some]
  cases l with
  | nil => exact absurd rfl h
  | cons x xs =>
    show some (Slot.sh (T.int (maxI (x : Int) (xs.map fun (n : Nat) => (n : Int))))) = _
    rw [maxI_nat, mx_eq]
theorem r_is_size (z : Nat) (hz : 1 ≤ z) (nb : Nib) : f_is_size [.int (z : Int)] nb = .ok (.sh (.bl true)) nb := by
  have e0 := r_is_integer (z : Int) nb
  have e1 : ltA (.int (z : Int)) (.int 1) = some (.sh (.bl false)) := by
    show some (Slot.sh (T.bl (decide ((z : Int) < 1)))) = _
    rw [decide_eq_false (by omega)]
  have ew : f_is_within [.int (z : Int), .int 1, .non] nb = .ok (.sh (.bl true)) nb := by
    have i1 : isT true (.int 1) .non = some (.sh (.bl true)) := rfl
    have i2 : isT false .non .non = some (.sh (.bl true)) := rfl
    simp [f_is_within, fnOf, fnEnd, b_is_within, sta0, N_is_within, var_sh, varE_sh, e0, e1, i1, i2]
  simp [f_is_size, fnOf, fnEnd, b_is_size, sta0, N_is_size, varE_sh, ew]
theorem r_is_kept {p : List Nat} {n z : Nat} (h : p.Perm (List.range n)) (h1 : 1 ≤ n) (h6 : n ≤ 6) (hz : 1 ≤ z) (nb : Nib) : f_is_kept [.tup (tn p), .int (z : Int)] nb = .ok (.sh (.bl (decide (mx (colours p) < z)))) nb := by
  have e1 : f_need_wiring [.tup (tn p), .str "row"] nb = .ok (.sh (.tup (tn p))) nb := r_need_wiring true p n (.str "row") nb h h1 h6
  have e2 : f_need_size [.int (z : Int)] nb = .ok (.sh .non) nb := by
    have := r_is_size z hz nb
    simp [f_need_size, fnOf, fnEnd, b_need_size, sta0, N_need_size, varE_sh, this]
  have e3 : f_are_kept [.tup (tn p), .int (z : Int)] nb = .ok (.sh (.bl (decide (mx (colours p) < z)))) nb := by
    have c1 := r_colours_of p nb (by rw [perm_len h]; omega)
    have c2 : maxAN [.tup (tn (colours p))] = some (.sh (.int ((mx (colours p) : Nat) : Int))) := maxAN_n (fun e => by
      have := congrArg List.length e
      rw [colours_length, perm_len h] at this
      simp at this
      omega)
    have c3 := lt_nat (mx (colours p)) z
    simp [f_are_kept, fnOf, fnEnd, b_are_kept, sta0, N_are_kept, var_sh, varE_sh, c1, c2, c3]
  simp [f_is_kept, fnOf, fnEnd, b_is_kept, sta0, N_is_kept, varE_sh, e1, e2, e3]
end K08

end
section
set_option Elab.async false
set_option linter.all false
set_option maxRecDepth 100000
set_option autoImplicit false
set_option maxHeartbeats 400000
open PySem PySem.Spec PyProof.Rows L2 TL
namespace K08
def hasBest (w z : Nat) (p : List Nat) : Bool := (setL z w).any fun s => decide (earlL (LD p s) s [] = p)
theorem fin_small : ∀ q ∈ [(4, 3), (3, 2), (4, 2), (5, 2), (3, 3), (2, 1), (4, 1), (1, 1), (2, 2), (3, 1)], ((allL q.1).all fun p => decide (mx (colours p) < q.2) == hasBest q.1 q.2 p) = true := by decide +kernel
theorem fin_great : ((allL 6).all fun p => decide (earlL (LD p (colours p)) (colours p) [] = p)) = true := by decide +kernel
end K08

end
section
set_option Elab.async false
set_option linter.all false
set_option maxRecDepth 100000
set_option autoImplicit false
namespace K08
theorem fin_53 : ((allL 5).all fun p => decide (mx (colours p) < 3) == hasBest 5 3 p) = true := by decide +kernel
end K08

end
section
set_option Elab.async false
set_option linter.all false
set_option maxRecDepth 100000
set_option autoImplicit false
set_option maxHeartbeats 400000
open PySem PySem.Spec PyProof.Rows L2
open TL hiding eqT neT
namespace K08
local macro_rules | `(tactic| trivial) => `(tactic| simp -implicitDefEqProofs only [w_okB, w_con, w_opE, kOpE_sh, kOpE_ow, w_nilA, w_consA, kCons_ap, kCons2_ap, w_op2, kOp2_ap, kOp2'_ap, gOp2_ap, w_op1, kOp1_ap, gOp1_ap, w_opN, kOpN_ap, gOpN_ap, w_res, w_tst, kTst_ap, w_chn, kChn_ap, kChn2_ap, gChn_ap, hChn_t, hChn_f, kChn3_ap, w_andT, kAndT_t, kAndT_f, w_orT, kOrT_t, kOrT_f, w_notT, kNotT_ap, w_andE, kAndE_t, kAndE_f, w_orE, kOrE_t, kOrE_f, w_notE, kNotE_ap, w_ite3, kIte3_t, kIte3_f, w_lstF, kLst_ap, w_tupF, kTup_ap, gLst_ap, gTup_ap, w_seq, kSeq_nx, kSeq_rt, kSeq_bk, kSeq_ct, w_nxF, w_bkF, w_ctF, w_retF, kRet_ap, w_retNF, w_dropF, kDrop_ap, w_ifF, kIfF_t, kIfF_f, w_setF, kSet_ap, w_asgF, kAsg_ap, gAsg_ap, w_forF, kFor_ap, w_forL, w_forL0, gForL_ap, kForL_nx, kForL_ct, kForL_bk, kForL_rt, w_callF, kCall_ap, gCall_ap, gFR_ok, gFR_exc, w_seqI, kSeqI_l, kSeqI_t, w_enumI, kEnumI_l, kEnumI_t, w_zipI, kZip_ap, kZip2_l, kZip2_t, w_rngI1, kRng_n, w_yesT, w_var, w_varE, w_varR, gVar_sh, gVar_ow, gVarE_sh, gVarE_ow, gVarR_sh, gVarR_ow, get_pl, get_val, tree_sh, tree_ow, slot_tree_sh, slot_tree_ow, w_methF, gMeth0_ap, kMeth_ap, gMeth_ap, hMeth_ap, w_setIF, kSetI_ap, gSetI0_ap, kSetI2_ap, gSetI_ap, hSetI_ap, w_parF, kPar_ap, gPar_ap, gPar_one, nil_app, put_nm, put_tp, put_tpw, put_tpl, putAll_nil, putAll_cons, vals_nil, vals_cons, gets_nil, gets_cons, Option.map_some, Option.bind_some, List.getElem?_cons_succ, List.getElem?_cons_zero, List.set_cons_succ, List.set_cons_zero, List.length_cons, List.length_nil, Nat.zero_add, Nat.reduceAdd, Nat.reduceLT, Nat.reduceLeDiff, Nat.le_refl, and_self, ↓reduceIte, Bool.not_true, Bool.not_false, fnEnd, *])
abbrev pairsL : List (Nat × Nat) := [(4, 3), (3, 2), (4, 2), (5, 2), (3, 3), (2, 1), (5, 3), (4, 1), (1, 1), (2, 2), (3, 1)]
theorem fin_all : ∀ q ∈ pairsL, ((allL q.1).all fun p => decide (mx (colours p) < q.2) == hasBest q.1 q.2 p) = true := by
  intro q hq
  by_cases h : q = (5, 3)
  · subst h; exact fin_53
  · refine fin_small q ?_
    simp only [List.mem_cons, List.not_mem_nil, or_false] at hq ⊢
    rcases hq with h1 | h1 | h1 | h1 | h1 | h1 | h1 | h1 | h1 | h1 | h1 <;> first | exact absurd h1 h | simp [h1]
def bestL (w z : Nat) (p : List Nat) : List (List Nat) := (setL z w).filter fun s => decide (earlL (LD p s) s [] = p)

abbrev compB : EF := compF [5] (seqI (opE (callF 2 f_law_settings (consA (opE (varE 1)) (consA (opE (varE 2)) (nilA)))))) (.nm 5) (tst (op2 TL.eqT (opE (callF 2 f_law_earliest (consA (opE (varE 5)) (consA (opE (callF 2 f_law_led (consA (opE (varE 3)) (consA (opE (varE 5)) (nilA))))) (nilA))))) (var 3))) (varE 5)
theorem r_compB {w z : Nat} {p : List Nat} (h0 : 0 < w) (hw : w ≤ 6) (hz : z ≤ 6) (hb : ∀ k, k ≤ w → z ^ k ≤ 50000) (hp : p.Perm (List.range w)) (nb : Nib) :
    compB ⟨[.sh .nib, .sh (.int (w : Int)), .sh (.int (z : Int)), .sh (.tup (tn p)), .no, .no], [], nb⟩ = .ok (.ow (.lst (tr (bestL w z p)))) ⟨[.sh .nib, .sh (.int (w : Int)), .sh (.int (z : Int)), .sh (.tup (tn p)), .no, .no], [], nb⟩ := by
  have es := r_settings w z h0 hw hz hb nb
  refine (compF_map (S1 := ⟨[.sh .nib, .sh (.int (w : Int)), .sh (.int (z : Int)), .sh (.tup (tn p)), .no, .no], [], nb⟩) (setL z w) (fun s => T.tup (tn s)) (fun s => if decide (earlL (LD p s) s [] = p) = true then some (.tup (tn s)) else none) (by trivial; rfl) rfl (by decide) (len_sz (by rw [setL_length]; have := hb w (Nat.le_refl _); omega)) (fun s hs acc => ?_)).trans (by rw [filterMap_if]; rfl)
  have hsl := setL_len z w s hs
  have hL : (LD p s).length = w := (LD_all hp hsl).1
  obtain ⟨g1, g2, g3, g4⟩ := earl_ok hL hsl fun c => LD_count hp hsl c
  have e1 : f_law_led [.tup (tn p), .tup (tn s)] nb = _ := r_law_led true hp hsl (by omega) nb
  have e2 : f_law_earliest [.tup (tn s), .lst (tn (LD p s))] nb = _ := r_earliest true false (b := LD p s) (t := s) (by omega) (by omega) g1 nb
  have e3 := eq_tup (earlL (LD p s) s []) p
  exact compStep_filter (S1 := ⟨[.sh .nib, .sh (.int (w : Int)), .sh (.int (z : Int)), .sh (.tup (tn p)), .no, .sh (.tup (tn s))], [.ow (.lst acc)], nb⟩) rfl (by trivial) (varE_sh _ _ _ _ _ rfl) rfl
theorem ne_nil_tr (L : List (List Nat)) : TL.neT (.lst (tr L)) (.lst []) = some (.sh (.bl (decide (L ≠ [])))) := by
  unfold TL.neT
  rw [if_pos ⟨okTs_tr L 58, rfl⟩]
  cases L with
  | nil => rfl
  | cons a l => rfl
theorem best_has (w z : Nat) (p : List Nat) : decide (bestL w z p ≠ []) = hasBest w z p := by
  unfold bestL hasBest
  rw [Bool.eq_iff_iff]
  simp only [decide_eq_true_eq, ne_eq, List.filter_eq_nil_iff, List.any_eq_true]
  constructor
  · intro h
    refine Classical.byContradiction fun z => h fun a ha hb => z ⟨a, ha, hb⟩
  · rintro ⟨a, ha, hb⟩ h
    exact h a ha hb
theorem repr_bl (b : Bool) : reprN [.bl b] = some (.sh (.str (if b then "True" else "False"))) := by cases b <;> rfl
theorem eq_strs (a b : Str) (ha : PyData.strOk a = true) (hb : PyData.strOk b = true) : TL.eqT (.str a) (.str b) = some (.sh (.bl (a == b))) := by
  unfold TL.eqT
  rw [if_pos ⟨ha, hb⟩]
  rfl
theorem eq_repr (b : Bool) : TL.eqT (.str (if b then "True" else "False")) (.str (if b then "True" else "False")) = some (.sh (.bl true)) := by
  have h : PyData.strOk (if b then "True" else "False") = true := by cases b <;> decide +kernel
  rw [eq_strs _ _ h h, beq_self_eq_true]
theorem r_small {k : Nat} {nb : Nib} (h : NbOk k nb) (hk : k ≤ 80000) : ∃ nb', NbOk (k + 7) nb' ∧ f_law_small_right [.nib] nb = .ok (.sh (.bl true)) nb' := by
  obtain ⟨r, nb1, hr, k1, e1⟩ := r_tip h (by omega) (m := 11) (by omega) (by omega)
  obtain ⟨q, hq⟩ : ∃ q, pairsL[r]? = some q := ⟨_, List.getElem?_eq_getElem (by show r < 11; exact hr)⟩
  have hm : q ∈ pairsL := List.mem_of_getElem? hq
  have hfin := fin_all q hm
  have hbd : 0 < q.1 ∧ q.1 ≤ 6 ∧ 1 ≤ q.2 ∧ q.2 ≤ 6 ∧ ∀ k, k ≤ q.1 → q.2 ^ k ≤ 50000 := by
    have : ∀ q ∈ pairsL, 0 < q.1 ∧ q.1 ≤ 6 ∧ 1 ≤ q.2 ∧ q.2 ≤ 6 ∧ ∀ k, k < q.1 + 1 → q.2 ^ k ≤ 50000 := by decide +kernel
    obtain ⟨a, b, c, d, e⟩ := this q hm
    exact ⟨a, b, c, d, fun k hk => e k (by omega)⟩
  obtain ⟨b1, b2, b3, b4, b5⟩ := hbd
  obtain ⟨w, z⟩ := q
  simp only at b1 b2 b3 b4 b5 hfin
  obtain ⟨p, nb2, hp, k2, e2⟩ := r_row k1 (by omega) b2
  have e3 := r_compB b1 b2 b4 b5 hp nb2
  have e4 := r_is_kept hp (by omega) b2 b3 nb2
  have e5 := ne_nil_tr (bestL w z p)
  rw [best_has] at e5
  have hfp : decide (mx (colours p) < z) = hasBest w z p := eq_of_beq (List.all_eq_true.mp hfin p (mem_all.mpr hp))
  rw [hfp] at e4
  refine ⟨nb2, k2.mono (by omega), ?_⟩
  have e6 : ixT (.lst (pairsL.map fun q => T.tup [.int (q.1 : Int), .int (q.2 : Int)])) (.int (r : Int)) = some (.sh (.tup [.int (w : Int), .int (z : Int)])) := ix_lst (by rw [List.getElem?_map, hq]; rfl)
  have e6 : ixT (.lst [.tup [.int 4, .int 3], .tup [.int 3, .int 2], .tup [.int 4, .int 2], .tup [.int 5, .int 2], .tup [.int 3, .int 3], .tup [.int 2, .int 1], .tup [.int 5, .int 3], .tup [.int 4, .int 1], .tup [.int 1, .int 1], .tup [.int 2, .int 2], .tup [.int 3, .int 1]]) (.int (r : Int)) = some (.sh (.tup [.int (w : Int), .int (z : Int)])) := e6
  have e7 := repr_bl (hasBest w z p)
  have e8 := eq_repr (hasBest w z p)
  have e1 : f_law_scoop [.nib, .int 11] nb = _ := e1
  show fnEnd (b_law_small_right ⟨[.sh .nib, .no, .no, .no, .no, .no], [], nb⟩) = _
  unfold b_law_small_right
  clear hfin hfp b5 hm hq
  trivial
end K08

end
section
set_option Elab.async false
set_option linter.all false
set_option maxRecDepth 100000
set_option autoImplicit false
set_option maxHeartbeats 400000
open PySem PySem.Spec PyProof.Rows L2
open TL hiding eqT neT
namespace TL
theorem compL_rel {own : List Nat} {tg : Tg} {tt : TF} {te : EF} {lo gh : List Slot} {I : Nat → Nib → Prop} {P : T → Prop} (hw : noes lo own = lo) : ∀ (ts acc : List T) (k : Nat) (nb : Nib), acc.length + ts.length ≤ sz →
    (∀ k' nb acc t, k ≤ k' → k' < k + ts.length → I k' nb → t ∈ ts → ∃ v nb', I (k' + 1) nb' ∧ P v ∧ compStep own tg tt te t ⟨lo, gh ++ [.ow (.lst acc)], nb⟩ = .ok (some v) ⟨lo, gh ++ [.ow (.lst acc)], nb'⟩) → I k nb →
    ∃ vs nb', I (k + ts.length) nb' ∧ vs.length = ts.length ∧ (∀ v ∈ vs, P v) ∧ compL own tg tt te ts ⟨lo, gh ++ [.ow (.lst acc)], nb⟩ = .ok () ⟨lo, gh ++ [.ow (.lst (acc ++ vs))], nb'⟩
  | [], acc, k, nb, _, _, h => ⟨[], nb, h, rfl, (fun _ h => nomatch h), by rw [List.append_nil]; rfl⟩
  | t :: ts, acc, k, nb, hl, hstep, h => by
    rw [List.length_cons] at hl
    obtain ⟨v, nb1, h1, hv, e1⟩ := hstep k nb acc t (Nat.le_refl _) (by rw [List.length_cons]; omega) h List.mem_cons_self
    obtain ⟨vs, nb2, h2, hl2, hv2, e2⟩ := compL_rel hw ts (acc ++ [v]) (k + 1) nb1 (by rw [List.length_append, List.length_singleton]; omega) (fun k' nb acc t h1 h2 h3 h4 => hstep k' nb acc t (by omega) (by rw [List.length_cons]; omega) h3 (List.mem_cons_of_mem _ h4)) h1
    refine ⟨v :: vs, nb2, by rw [List.length_cons, show k + (ts.length + 1) = k + 1 + ts.length by omega]; exact h2, by rw [List.length_cons, List.length_cons, hl2], fun u hu => (List.mem_cons.mp hu).elim (fun e => e ▸ hv) (hv2 u), ?_⟩
    have := compL_step (own := own) (tg := tg) (tt := tt) (te := te) (t := t) (ts := ts) (S := ⟨lo, gh, nb⟩) (S' := ⟨lo, gh, nb1⟩) (acc := acc) (v := some v) e1 (by show Sta.mk (noes lo own) gh nb1 = _; rw [hw]) (by omega)
    refine Eq.trans this ?_
    show compL own tg tt te ts ⟨lo, gh ++ [.ow (.lst (acc ++ [v]))], nb1⟩ = _
    rw [e2, List.append_assoc]
    rfl
theorem compF_rel {own : List Nat} {it : IF} {tg : Tg} {tt : TF} {te : EF} {S : Sta} {lo gh : List Slot} {nb : Nib} {ts : List T} (k : Nat) (I : Nat → Nib → Prop) (P : T → Prop) (hi : it S = .ok ts ⟨lo, gh, nb⟩) (hf : (own.all fun i => Slot.free lo[i]?) = true) (hs : (tg.slots.all fun i => own.contains i) = true)
    (hw : noes lo own = lo) (hl : ts.length ≤ sz)
    (hstep : ∀ k' nb acc t, k ≤ k' → k' < k + ts.length → I k' nb → t ∈ ts → ∃ v nb', I (k' + 1) nb' ∧ P v ∧ compStep own tg tt te t ⟨lo, gh ++ [.ow (.lst acc)], nb⟩ = .ok (some v) ⟨lo, gh ++ [.ow (.lst acc)], nb'⟩) (h : I k nb) :
    ∃ vs nb', I (k + ts.length) nb' ∧ vs.length = ts.length ∧ (∀ v ∈ vs, P v) ∧ compF own it tg tt te S = .ok (.ow (.lst vs)) ⟨lo, gh, nb'⟩ := by
  obtain ⟨vs, nb', h1, h2, h3, h4⟩ := compL_rel (gh := gh) hw ts [] k nb (by simpa using hl) hstep h
  refine ⟨vs, nb', h1, h2, h3, ?_⟩
  unfold compF
  rw [hi, R.bind_ok]
  have hc : ((own.all fun i => Slot.free lo[i]?) && (tg.slots.all fun i => own.contains i)) = true := by rw [hf, hs]; rfl
  rw [if_pos hc]
  have : (Sta.mk lo gh nb).wipe own = Sta.mk lo gh nb := by show Sta.mk (noes lo own) gh nb = _; rw [hw]
  rw [this]
  show (match compL own tg tt te ts ⟨lo, gh ++ [.ow (.lst [])], nb⟩ with
    | .ok () S2 => match S2.popG with
      | some (.ow (.lst acc), S3) => R.ok (Slot.ow (.lst acc)) (S3.back ⟨lo, gh, nb⟩ own)
      | _ => .stuck
    | _ => .stuck) = _
  rw [h4]
  dsimp only
  rw [popG_snoc, List.nil_append]
  show R.ok (Slot.ow (T.lst vs)) (Sta.mk (backs lo lo own) gh nb') = _
  have e : backs lo lo own = lo := by have := backs_noes lo own; rwa [hw] at this
  rw [e]
theorem all_tn {vs : List T} {m : Nat} (h : ∀ v ∈ vs, ∃ r : Nat, r < m ∧ v = .int (r : Int)) : ∃ t : List Nat, vs = tn t ∧ ∀ x ∈ t, x < m := by
  induction vs with
  | nil => exact ⟨[], rfl, (fun _ h => nomatch h)⟩
  | cons v vs ih =>
    obtain ⟨t, e, ht⟩ := ih fun v hv => h v (List.mem_cons_of_mem _ hv)
    obtain ⟨r, hr, rfl⟩ := h v List.mem_cons_self
    exact ⟨r :: t, by rw [e]; rfl, fun x hx => (List.mem_cons.mp hx).elim (fun e => e ▸ hr) (ht x)⟩
end TL
namespace K08
local macro_rules | `(tactic| trivial) => `(tactic| simp -implicitDefEqProofs only [w_okB, w_con, w_opE, kOpE_sh, kOpE_ow, w_nilA, w_consA, kCons_ap, kCons2_ap, w_op2, kOp2_ap, kOp2'_ap, gOp2_ap, w_op1, kOp1_ap, gOp1_ap, w_opN, kOpN_ap, gOpN_ap, w_res, w_tst, kTst_ap, w_chn, kChn_ap, kChn2_ap, gChn_ap, hChn_t, hChn_f, kChn3_ap, w_andT, kAndT_t, kAndT_f, w_orT, kOrT_t, kOrT_f, w_notT, kNotT_ap, w_andE, kAndE_t, kAndE_f, w_orE, kOrE_t, kOrE_f, w_notE, kNotE_ap, w_ite3, kIte3_t, kIte3_f, w_lstF, kLst_ap, w_tupF, kTup_ap, gLst_ap, gTup_ap, w_seq, kSeq_nx, kSeq_rt, kSeq_bk, kSeq_ct, w_nxF, w_bkF, w_ctF, w_retF, kRet_ap, w_retNF, w_dropF, kDrop_ap, w_ifF, kIfF_t, kIfF_f, w_setF, kSet_ap, w_asgF, kAsg_ap, gAsg_ap, w_forF, kFor_ap, w_forL, w_forL0, gForL_ap, kForL_nx, kForL_ct, kForL_bk, kForL_rt, w_callF, kCall_ap, gCall_ap, gFR_ok, gFR_exc, w_seqI, kSeqI_l, kSeqI_t, w_enumI, kEnumI_l, kEnumI_t, w_zipI, kZip_ap, kZip2_l, kZip2_t, w_rngI1, kRng_n, w_yesT, w_var, w_varE, w_varR, gVar_sh, gVar_ow, gVarE_sh, gVarE_ow, gVarR_sh, gVarR_ow, get_pl, get_val, tree_sh, tree_ow, slot_tree_sh, slot_tree_ow, w_methF, gMeth0_ap, kMeth_ap, gMeth_ap, hMeth_ap, w_setIF, kSetI_ap, gSetI0_ap, kSetI2_ap, gSetI_ap, hSetI_ap, w_parF, kPar_ap, gPar_ap, gPar_one, nil_app, put_nm, put_tp, put_tpw, put_tpl, putAll_nil, putAll_cons, vals_nil, vals_cons, gets_nil, gets_cons, Option.map_some, Option.bind_some, List.getElem?_cons_succ, List.getElem?_cons_zero, List.set_cons_succ, List.set_cons_zero, List.length_cons, List.length_nil, Nat.zero_add, Nat.reduceAdd, Nat.reduceLT, Nat.reduceLeDiff, Nat.le_refl, and_self, ↓reduceIte, Bool.not_true, Bool.not_false, fnEnd, *])

theorem r_tops {k z : Nat} {nb : Nib} (h : NbOk k nb) (hk : k ≤ 90000) (h1 : 0 < z) (h2 : z ≤ 1000) (a4 a5 a6 a8 : Slot) (gh : List Slot) :
    ∃ (t : List Nat) (nb' : Nib), NbOk (k + 6) nb' ∧ t.length = 6 ∧ (∀ x ∈ t, x < z) ∧ compF [7] (rngI1 (opE (con (.int 6)))) (.nm 7) (yesT) (callF 2 f_law_scoop (consA (opE (varE 0)) (consA (opE (varE 1)) (nilA)))) ⟨[.sh .nib, .sh (.int (z : Int)), .no, .no, a4, a5, a6, .no, a8], gh, nb⟩ = .ok (.ow (.lst (tn t))) ⟨[.sh .nib, .sh (.int (z : Int)), .no, .no, a4, a5, a6, .no, a8], gh, nb'⟩ := by
  have h6 : kRng (.val (.int 6)) ⟨[.sh .nib, .sh (.int (z : Int)), .no, .no, a4, a5, a6, .no, a8], gh, nb⟩ = _ := kRng_n _ 6 (by omega)
  obtain ⟨vs, nb', h1, h2, h3, h4⟩ := compF_rel (own := [7]) (it := rngI1 (opE (con (.int 6)))) (tg := .nm 7) (tt := yesT) (te := callF 2 f_law_scoop (consA (opE (varE 0)) (consA (opE (varE 1)) (nilA)))) (S := ⟨[.sh .nib, .sh (.int (z : Int)), .no, .no, a4, a5, a6, .no, a8], gh, nb⟩)
    (lo := [.sh .nib, .sh (.int (z : Int)), .no, .no, a4, a5, a6, .no, a8]) (gh := gh) (ts := tn (List.range 6)) k NbOk (fun v => ∃ r : Nat, r < z ∧ v = .int (r : Int)) (by trivial) rfl rfl rfl (len_sz (by simp)) (fun k' nb acc t _ hk2 hI ht => by
      rw [tn_length, List.length_range] at hk2
      obtain ⟨r, nb1, hr, k1, e1⟩ := r_tip hI (by omega) h1 h2
      obtain ⟨n, _, rfl⟩ := List.mem_map.mp ht
      exact ⟨.int (r : Int), nb1, k1, ⟨r, hr, rfl⟩, compStep_map (S1 := ⟨[.sh .nib, .sh (.int (z : Int)), .no, .no, a4, a5, a6, .sh (.int (n : Int)), a8], gh ++ [.ow (.lst acc)], nb⟩) rfl (by trivial; rfl) rfl rfl⟩) h
  obtain ⟨t, e, ht⟩ := all_tn h3
  subst e
  rw [tn_length, List.length_range] at h1
  rw [tn_length, tn_length, List.length_range] at h2
  exact ⟨t, nb', h1, h2, ht, h4⟩
end K08

end
section
set_option Elab.async false
set_option linter.all false
set_option maxRecDepth 100000
set_option autoImplicit false
set_option maxHeartbeats 400000
open PySem PySem.Spec PyProof.Rows L2
open TL hiding eqT neT
namespace K08
local macro_rules | `(tactic| trivial) => `(tactic| simp -implicitDefEqProofs only [w_okB, w_con, w_opE, kOpE_sh, kOpE_ow, w_nilA, w_consA, kCons_ap, kCons2_ap, w_op2, kOp2_ap, kOp2'_ap, gOp2_ap, w_op1, kOp1_ap, gOp1_ap, w_opN, kOpN_ap, gOpN_ap, w_res, w_tst, kTst_ap, w_chn, kChn_ap, kChn2_ap, gChn_ap, hChn_t, hChn_f, kChn3_ap, w_andT, kAndT_t, kAndT_f, w_orT, kOrT_t, kOrT_f, w_notT, kNotT_ap, w_andE, kAndE_t, kAndE_f, w_orE, kOrE_t, kOrE_f, w_notE, kNotE_ap, w_ite3, kIte3_t, kIte3_f, w_lstF, kLst_ap, w_tupF, kTup_ap, gLst_ap, gTup_ap, w_seq, kSeq_nx, kSeq_rt, kSeq_bk, kSeq_ct, w_nxF, w_bkF, w_ctF, w_retF, kRet_ap, w_retNF, w_dropF, kDrop_ap, w_ifF, kIfF_t, kIfF_f, w_setF, kSet_ap, w_asgF, kAsg_ap, gAsg_ap, w_forF, kFor_ap, w_forL, w_forL0, gForL_ap, kForL_nx, kForL_ct, kForL_bk, kForL_rt, w_callF, kCall_ap, gCall_ap, gFR_ok, gFR_exc, w_seqI, kSeqI_l, kSeqI_t, w_enumI, kEnumI_l, kEnumI_t, w_zipI, kZip_ap, kZip2_l, kZip2_t, w_rngI1, kRng_n, w_yesT, w_var, w_varE, w_varR, gVar_sh, gVar_ow, gVarE_sh, gVarE_ow, gVarR_sh, gVarR_ow, get_pl, get_val, tree_sh, tree_ow, slot_tree_sh, slot_tree_ow, w_methF, gMeth0_ap, kMeth_ap, gMeth_ap, hMeth_ap, w_setIF, kSetI_ap, gSetI0_ap, kSetI2_ap, gSetI_ap, hSetI_ap, w_parF, kPar_ap, gPar_ap, gPar_one, nil_app, put_nm, put_tp, put_tpw, put_tpl, putAll_nil, putAll_cons, vals_nil, vals_cons, gets_nil, gets_cons, Option.map_some, Option.bind_some, List.getElem?_cons_succ, List.getElem?_cons_zero, List.set_cons_succ, List.set_cons_zero, List.length_cons, List.length_nil, Nat.zero_add, Nat.reduceAdd, Nat.reduceLT, Nat.reduceLeDiff, Nat.le_refl, and_self, ↓reduceIte, Bool.not_true, Bool.not_false, fnEnd, *])

theorem lex_tot : ∀ a b : List Nat, a.length = b.length → HT.lexLt (a.map fun (x : Nat) => (x : Int)) (b.map fun (x : Nat) => (x : Int)) = false → a ≠ b → HT.lexLt (b.map fun (x : Nat) => (x : Int)) (a.map fun (x : Nat) => (x : Int)) = true
  | [], [], _, _, h => absurd rfl h
  | [], _ :: _, h, _, _ => by simp at h
  | _ :: _, [], h, _, _ => by simp at h
  | x :: a, y :: b, hl, h, hn => by
    rw [List.map_cons, List.map_cons, HT.lexLt_cons] at h ⊢
    by_cases hxy : x = y
    · subst hxy
      rw [if_pos rfl] at h ⊢
      exact lex_tot a b (by simpa using hl) h fun e => hn (by rw [e])
    · rw [if_neg (by omega)] at h
      rw [if_neg (by omega)]
      simp only [decide_eq_false_iff_not, decide_eq_true_eq] at h ⊢
      omega
theorem gt_tup (a b : List Nat) : gtA (.tup (tn a)) (.tup (tn b)) = some (.sh (.bl (HT.lexLt (b.map fun (x : Nat) => (x : Int)) (a.map fun (x : Nat) => (x : Int))))) := by
  show (intsT (tn a)).bind (fun ns => (intsT (tn b)).map fun ms => Slot.sh (T.bl (HT.lexLt ms ns))) = _
  rw [intsT_tn, intsT_tn]; rfl
theorem lt_tup (a b : List Nat) : ltA (.tup (tn a)) (.tup (tn b)) = some (.sh (.bl (HT.lexLt (a.map fun (x : Nat) => (x : Int)) (b.map fun (x : Nat) => (x : Int))))) := by
  show (intsT (tn a)).bind (fun ns => (intsT (tn b)).map fun ms => Slot.sh (T.bl (HT.lexLt ns ms))) = _
  rw [intsT_tn, intsT_tn]; rfl
theorem isN_tup1 (z : List T) : isN ["tuple"] (.tup z) = some (.sh (.bl true)) := by
  simp only [isN, tyN, Option.bind_some, show kitN "tuple" ["tuple"] = some true by decide +kernel]; rfl
theorem ne_lst (p q : List Nat) : TL.neT (.lst (tn p)) (.lst (tn q)) = some (.sh (.bl (!decide (p = q)))) := by
  unfold TL.neT
  rw [if_pos ⟨okD_lst p 59, okD_lst q 59⟩, eqD_lst]
theorem listN_tup (ts : List T) : listN [.tup ts] = some (.ow (.lst ts)) := rfl
theorem is_tt : isT true (.bl true) (.bl true) = some (.sh (.bl false)) := rfl
theorem is_ft : isT false (.bl true) (.bl true) = some (.sh (.bl true)) := rfl
theorem ix0 (a b : T) : ixT (.tup [a, b]) (.int 0) = some (.sh a) := rfl
theorem ix1 (a b : T) : ixT (.tup [a, b]) (.int 1) = some (.sh b) := rfl
theorem catT (a b : List Nat) (h : a.length + b.length ≤ 1000) : addT (.tup (tn a)) (.tup (tn b)) = some (.sh (.tup (tn (a ++ b)))) := by
  show (if (tn a).length + (tn b).length ≤ sz then some (Slot.sh (T.tup (tn a ++ tn b))) else none) = _
  rw [if_pos (by rw [tn_length, tn_length]; exact len_sz (by omega)), tn_append]
theorem addN (a b : Nat) : addT (.int (a : Int)) (.int (b : Int)) = some (.sh (.int ((a + b : Nat) : Int))) := rfl
theorem lt_mx {l : List Nat} {z : Nat} (h0 : l ≠ []) (h : ∀ (i v : Nat), l[i]? = some v → v < z) : mx l < z := by
  rcases mx_mem l 0 with h1 | h1
  · cases l with
    | nil => exact absurd rfl h0
    | cons a l =>
      have := h 0 a rfl
      have h2 : mx (a :: l) = 0 := h1
      omega
  · obtain ⟨i, hi⟩ := List.mem_iff_getElem?.mp h1
    exact h i _ hi
theorem mx_le : ∀ (l : List Nat) (a x : Nat), x ∈ l ∨ x ≤ a → x ≤ l.foldl max a
  | [], a, x, h => h.elim (fun h => nomatch h) id
  | y :: l, a, x, h => by
    rw [List.foldl_cons]
    refine mx_le l (max a y) x ?_
    rcases h with h | h
    · rcases List.mem_cons.mp h with rfl | h
      · exact .inr (Nat.le_max_right _ _)
      · exact .inl h
    · exact .inr (Nat.le_trans h (Nat.le_max_left _ _))
theorem r_odd {l : List Nat} {z : Nat} (hl : l.length ≤ 1000) (hz : ∀ x ∈ l, x < z) {c0 c1 : List Nat} (hc : c0 ++ c1 = l) (h1000 : c0.length + c1.length ≤ 1000) (s0 s2 s3 s4 s5 s7 : Slot) (nb : Nib) :
    compF [8] (seqI (opE (op2 addT (opE (op2 ixT (var 6) (opE (con (.int 0))))) (opE (op2 ixT (var 6) (opE (con (.int 1)))))))) (.nm 8) (notT (tst (chn leT ltA (opE (con (.int 0))) (var 8) (var 1)))) (varE 8) ⟨[s0, .sh (.int (z : Int)), s2, s3, s4, s5, .sh (.tup [.tup (tn c0), .tup (tn c1)]), s7, .no], [], nb⟩
      = .ok (.ow (.lst [])) ⟨[s0, .sh (.int (z : Int)), s2, s3, s4, s5, .sh (.tup [.tup (tn c0), .tup (tn c1)]), s7, .no], [], nb⟩ := by
  have i0 := ix0 (.tup (tn c0)) (.tup (tn c1))
  have i1 := ix1 (.tup (tn c0)) (.tup (tn c1))
  have ca := catT c0 c1 h1000
  rw [hc] at ca
  refine (compF_map (S1 := ⟨[s0, .sh (.int (z : Int)), s2, s3, s4, s5, .sh (.tup [.tup (tn c0), .tup (tn c1)]), s7, .no], [], nb⟩) l (fun (n : Nat) => T.int (n : Int)) (fun _ => none) (by trivial; rfl) rfl rfl (len_sz (by omega)) (fun x hx acc => ?_)).trans (by
    congr 3
    clear hc hl hz ca
    induction l with
    | nil => rfl
    | cons a l ih => rw [List.filterMap_cons]; exact ih)
  have e1 := le_nat 0 x
  have e1 : leT (.int 0) (.int (x : Int)) = some (.sh (.bl true)) := by rw [show (0 : Int) = ((0 : Nat) : Int) from rfl, le_nat]; simp
  have e2 := lt_nat x z
  rw [decide_eq_true (hz x hx)] at e2
  exact compStep_filter (k := false) (y := .int (x : Int)) (S1 := ⟨[s0, .sh (.int (z : Int)), s2, s3, s4, s5, .sh (.tup [.tup (tn c0), .tup (tn c1)]), s7, .sh (.int (x : Int))], [.ow (.lst acc)], nb⟩) rfl (by trivial) (varE_sh _ _ _ _ _ rfl) rfl
theorem r_great {k : Nat} {nb : Nib} (h : NbOk k nb) (hk : k ≤ 80000) : ∃ nb', NbOk (k + 20) nb' ∧ f_law_great_right [.nib] nb = .ok (.sh (.bl true)) nb' := by
  obtain ⟨r, nb1, hr, k1, e1⟩ := r_tip h (by omega) (m := 4) (by omega) (by omega)
  obtain ⟨p, nb2, hp, k2, e2⟩ := r_row k1 (by omega) (w := 6) (by omega)
  obtain ⟨z, hz⟩ : ∃ z, z = 1 + r := ⟨_, rfl⟩
  obtain ⟨t, nb3, k3, ht, htz, e3⟩ := r_tops k2 (by omega) (z := z) (by omega) (by omega) .no .no .no .no [.sh (.tup (tn p))]
  refine ⟨nb3, k3.mono (by omega), ?_⟩
  have e0 := addN 1 r
  rw [← hz] at e0
  have hbl : (LD p t).length = 6 := (LD_all hp ht).1
  have hcn : ∀ c, (LD p t).count c = t.count c := fun c => LD_count hp ht c
  obtain ⟨g1, g2, g3, g4⟩ := earl_ok hbl ht hcn
  have g4 := g4 p hp rfl
  have ek : ∀ (i v : Nat), (colours (earlL (LD p t) t []))[i]? = some v → v < z := fun i v h => earl_kept hbl ht hcn htz h
  have hne : ∀ {q : List Nat}, q.Perm (List.range 6) → colours q ≠ [] := fun {q} hq e => by
    have := congrArg List.length e
    rw [colours_length, perm_len hq] at this
    cases this
  have hkf := lt_mx (hne g2) ek
  obtain ⟨f, hf⟩ : ∃ f, f = earlL (LD p t) t [] := ⟨_, rfl⟩
  rw [← hf] at g2 g3 g4 hkf
  have e4 : f_led [.tup (tn p), .lst (tn t)] nb3 = _ := r_led true false hp ht (by omega) (by omega) nb3
  have e5 : f_law_earliest [.lst (tn t), .tup (tn (LD p t))] nb3 = _ := r_earliest false true (b := LD p t) (t := t) (by omega) (by omega) g1 nb3
  rw [← hf] at e5
  have e6 : f_law_led [.tup (tn p), .lst (tn t)] nb3 = _ := r_law_led false hp ht (by omega) nb3
  have e7 : f_led [.tup (tn f), .lst (tn t)] nb3 = _ := r_led true false g2 ht (by omega) (by omega) nb3
  rw [g3] at e7
  obtain ⟨b, hb⟩ : ∃ b, b = LD p t := ⟨_, rfl⟩
  rw [← hb] at e4 e5 e6 e7
  have e8 := r_is_kept g2 (by omega) (by omega) (show 1 ≤ z by omega) nb3
  rw [decide_eq_true hkf] at e8
  have e9 := r_is_kept hp (by omega) (by omega) (show 1 ≤ z by omega) nb3
  have n1 := ne_lst b b
  rw [decide_eq_true rfl] at n1
  have n2 := gt_tup f p
  rw [g4] at n2
  have n3 := ne_tup b b
  rw [decide_eq_true rfl] at n3
  have ty := isN_tup1 (tn b)
  have ls := listN_tup (tn b)
  have i1 := is_tt
  have i2 := is_ft
  have e3' : compF [7] (rngI1 (opE (con (.int 6)))) (.nm 7) (yesT) (callF 2 f_law_scoop (consA (opE (varE 0)) (consA (opE (varE 1)) (nilA)))) ⟨[.sh .nib, .sh (.int (z : Int)), .no, .no, .no, .no, .no, .no, .no], [.sh (.tup (tn p))], nb2⟩ = _ := e3
  have e1' : f_law_scoop [.nib, .int 4] nb = _ := e1
  have e0' : addT (.int 1) (.int (r : Int)) = _ := e0
  have e2' : f_law_row [.nib, .int 6] nb1 = _ := e2
  have hlt : mx (colours p) < z ∨ ¬ mx (colours p) < z := by omega
  show fnEnd (b_law_great_right ⟨[.sh .nib, .no, .no, .no, .no, .no, .no, .no, .no], [], nb⟩) = _
  unfold b_law_great_right
  rcases hlt with hlt | hlt
  · rw [decide_eq_true hlt] at e9
    have c0 := r_settings_of true hp (by omega) (by omega) nb3
    have c0 : f_settings_of [.tup (tn p)] nb3 = _ := c0
    have hcl : (colours p).length = 6 := by rw [colours_length, perm_len hp]
    have hle : ∀ x ∈ colours p, x < z := fun x hx => Nat.lt_of_le_of_lt (mx_le (colours p) 0 x (.inl hx)) hlt
    obtain ⟨cL, hcL⟩ : ∃ cL, cL = LD p (colours p) := ⟨_, rfl⟩
    have hcLl : cL.length = 6 := by rw [hcL]; exact (LD_all hp hcl).1
    have hcount : ∀ c, (LD p (colours p)).count c = (colours p).count c := fun c => LD_count hp hcl c
    have c1 := r_odd (l := colours p ++ cL) (z := z) (by rw [List.length_append]; omega) (fun x hx => by
      rcases List.mem_append.mp hx with hx | hx
      · exact hle x hx
      · refine hle x ?_
        rw [hcL] at hx
        rw [← List.count_pos_iff, ← hcount, List.count_pos_iff]
        exact hx) rfl (by omega) (.sh .nib) (.sh (.tup (tn p))) (.sh (.lst (tn t))) (.sh (.tup (tn b))) (.sh (.tup (tn f))) .no nb3
    obtain ⟨q1, q2, q3, q4⟩ := earl_ok (by rw [← hcL]; exact hcLl) hcl hcount
    have c2 : f_law_earliest [.tup (tn (colours p)), .tup (tn (LD p (colours p)))] nb3 = _ := r_earliest true true (b := LD p (colours p)) (t := colours p) (by rw [← hcL]; omega) (by omega) q1 nb3
    have hfin : earlL (LD p (colours p)) (colours p) [] = p := of_decide_eq_true (List.all_eq_true.mp fin_great p (mem_all.mpr hp))
    rw [hfin] at c2
    rw [← hcL] at c2 c0
    have n4 := ne_tup p p
    rw [decide_eq_true rfl] at n4
    have n5 : TL.neT (.lst []) (.lst []) = some (.sh (.bl false)) := ne_lst [] []
    have c3 := r_is_kept hp (by omega) (by omega) (show 1 ≤ z + 1 by omega) nb3
    rw [decide_eq_true (by omega)] at c3
    have c4 : f_is_kept [.tup (tn p), .int 6] nb3 = _ := r_is_kept hp (by omega) (by omega) (z := 6) (show 1 ≤ 6 by omega) nb3
    rw [decide_eq_true (by omega)] at c4
    have a1 : addT (.int (z : Int)) (.int 1) = _ := addN z 1
    have x0 := ix0 (.tup (tn (colours p))) (.tup (tn cL))
    have x1 := ix1 (.tup (tn (colours p))) (.tup (tn cL))
    clear hfin q1 q2 q3 q4 hcount hcL hle hlt hkf g1 g2 g3 g4 hf hb ek hz e0 e1 e2 e3 hcn htz hne
    trivial
  · rw [decide_eq_false hlt] at e9
    have hfp : f ≠ p := fun e => hlt (e ▸ hkf)
    have hl := lex_tot p f (by rw [perm_len hp, perm_len g2]) g4 (Ne.symm hfp)
    have l1 := lt_tup f p
    rw [hl] at l1
    clear hl hfp hlt hkf g1 g2 g3 g4 hf hb ek hz e0 e1 e2 e3 hcn htz hne
    trivial
end K08

end
section
set_option Elab.async false
set_option linter.all false
set_option maxRecDepth 100000
set_option autoImplicit false
set_option maxHeartbeats 400000
open PySem PySem.Spec PyProof.Rows L2
open TL hiding eqT neT
namespace K08
local macro_rules | `(tactic| trivial) => `(tactic| simp -implicitDefEqProofs only [w_okB, w_con, w_opE, kOpE_sh, kOpE_ow, w_nilA, w_consA, kCons_ap, kCons2_ap, w_op2, kOp2_ap, kOp2'_ap, gOp2_ap, w_op1, kOp1_ap, gOp1_ap, w_opN, kOpN_ap, gOpN_ap, w_res, w_tst, kTst_ap, w_chn, kChn_ap, kChn2_ap, gChn_ap, hChn_t, hChn_f, kChn3_ap, w_andT, kAndT_t, kAndT_f, w_orT, kOrT_t, kOrT_f, w_notT, kNotT_ap, w_andE, kAndE_t, kAndE_f, w_orE, kOrE_t, kOrE_f, w_notE, kNotE_ap, w_ite3, kIte3_t, kIte3_f, w_lstF, kLst_ap, w_tupF, kTup_ap, gLst_ap, gTup_ap, w_seq, kSeq_nx, kSeq_rt, kSeq_bk, kSeq_ct, w_nxF, w_bkF, w_ctF, w_retF, kRet_ap, w_retNF, w_dropF, kDrop_ap, w_ifF, kIfF_t, kIfF_f, w_setF, kSet_ap, w_asgF, kAsg_ap, gAsg_ap, w_forF, kFor_ap, w_forL, w_forL0, gForL_ap, kForL_nx, kForL_ct, kForL_bk, kForL_rt, w_callF, kCall_ap, gCall_ap, gFR_ok, gFR_exc, w_seqI, kSeqI_l, kSeqI_t, w_enumI, kEnumI_l, kEnumI_t, w_zipI, kZip_ap, kZip2_l, kZip2_t, w_rngI1, kRng_n, w_yesT, w_var, w_varE, w_varR, gVar_sh, gVar_ow, gVarE_sh, gVarE_ow, gVarR_sh, gVarR_ow, get_pl, get_val, tree_sh, tree_ow, slot_tree_sh, slot_tree_ow, w_methF, gMeth0_ap, kMeth_ap, gMeth_ap, hMeth_ap, w_setIF, kSetI_ap, gSetI0_ap, kSetI2_ap, gSetI_ap, hSetI_ap, w_parF, kPar_ap, gPar_ap, gPar_one, nil_app, put_nm, put_tp, put_tpw, put_tpl, putAll_nil, putAll_cons, vals_nil, vals_cons, gets_nil, gets_cons, Option.map_some, Option.bind_some, List.getElem?_cons_succ, List.getElem?_cons_zero, List.set_cons_succ, List.set_cons_zero, List.length_cons, List.length_nil, Nat.zero_add, Nat.reduceAdd, Nat.reduceLT, Nat.reduceLeDiff, Nat.le_refl, and_self, ↓reduceIte, Bool.not_true, Bool.not_false, fnEnd, *])

theorem law_holds : LawHolds := by
  intro ns hl hb
  have h0 : NbOk 0 ⟨ns.take 62, 0, 0⟩ := ⟨Int.le_refl 0, Int.le_refl 0, Int.le_refl 0, fun z hz => hb z (List.mem_of_mem_take hz)⟩
  obtain ⟨nb1, k1, e1⟩ := r_small h0 (by omega)
  obtain ⟨nb2, k2, e2⟩ := r_great k1 (by omega)
  obtain ⟨nb3, k3, e3⟩ := r_small k2 (by omega)
  obtain ⟨nb4, k4, e4⟩ := r_great k3 (by omega)
  obtain ⟨nb5, k5, e5⟩ := r_small k4 (by omega)
  obtain ⟨nb6, k6, e6⟩ := r_great k5 (by omega)
  have h3 : ∀ S, kRng (.val (.int 3)) S = .ok [.int ((0 : Nat) : Int), .int ((1 : Nat) : Int), .int ((2 : Nat) : Int)] S := fun S => kRng_n S 3 (by omega)
  refine ⟨⟨[.no, .sh .nib, .sh (.int ((2 : Nat) : Int))], [], nb6⟩, ?_⟩
  show b_law ⟨[.no, .sh .nib, .no], [], ⟨ns.take 62, 0, 0⟩⟩ = _
  unfold b_law
  clear hl hb h0 k1 k2 k3 k4 k5 k6
  trivial
end K08

end
open PySem PySem.W PyProof.Rows
set_option maxHeartbeats 0 in
theorem PySem.Challenge.cw_fromsize_k08_whole_kept_ones_are_the_ear_holds : PySem.Challenge.rw_fromsize_k08_whole_kept_ones_are_the_ear.Holds := by
  w_on; o_law; k_head; (case hw => w_witness2)
  k_fill
  refine L2.walk_ofB (l := PySem.Challenge.rw_fromsize_k08_whole_kept_ones_are_the_ear) (n := 63) (k := 7) (x := "_law_script") (CX := fun w => L2.CX PySem.Challenge.rw_fromsize_k08_whole_kept_ones_are_the_ear.prog w) (sp := fun w => TL.spLaw _) rfl (by decide) rfl ⟨rfl, by decide, by decide⟩ (fun w h Y => PySem.W.kIn_of Y) ?F (fun _ _ a ns hl hb _ hS => ⟨a, ns, rfl, hS, hl, hb, fun _ => rfl⟩) (fun _ _ _ _ _ h => by obtain ⟨_, _, _, _, _, _, _, _, _, _, _, _, z⟩ := h; exact z)
  case F =>
    intro w mg fa h KX G hmg
    refine' K08.law_fact K08.law_holds (K08.tab_mk KX G ?a0 ?l0 ?c0 ?k0 ?a1 ?l1 ?c1 ?k1 ?a2 ?l2 ?c2 ?k2 ?a3 ?l3 ?c3 ?k3 ?a4 ?l4 ?c4 ?k4 ?a5 ?l5 ?c5 ?k5 ?a6 ?l6 ?c6 ?k6 ?a7 ?l7 ?c7 ?k7 ?a8 ?l8 ?c8 ?k8 ?a9 ?l9 ?c9 ?k9 ?a10 ?l10 ?c10 ?k10 ?a11 ?l11 ?c11 ?k11 ?a12 ?l12 ?c12 ?k12 ?a13 ?l13 ?c13 ?k13 ?a14 ?l14 ?c14 ?k14 ?a15 ?l15 ?c15 ?k15 ?a16 ?l16 ?c16 ?k16 ?a17 ?l17 ?c17 ?k17 ?a18 ?l18 ?c18 ?k18 ?a19 ?l19 ?c19 ?k19 ?a20 ?l20 ?c20 ?k20 ?a21 ?l21 ?c21 ?k21 ?a22 ?l22 ?c22 ?k22 ?a23 ?l23 ?c23 ?k23 ?a24 ?l24 ?c24 ?k24 ?a25 ?l25 ?c25 ?k25 ?z_abs ?z_all ?z_bool ?z_enumerate ?z_int ?z_isinstance ?z_len ?z_list ?z_max ?z_range ?z_repr ?z_sorted ?z_tuple ?g_MOST_WIRES) hmg ?bb
    (case bb => exact fun s v => .of_eq rfl)
    (case a0 => k_is); (case l0 => k_is); (case c0 => k_is); (case k0 => k_is); (case a1 => k_is); (case l1 => k_is); (case c1 => k_is); (case k1 => k_is); (case a2 => k_is); (case l2 => k_is); (case c2 => k_is); (case k2 => k_is); (case a3 => k_is); (case l3 => k_is); (case c3 => k_is); (case k3 => k_is); (case a4 => k_is); (case l4 => k_is); (case c4 => k_is); (case k4 => k_is); (case a5 => k_is); (case l5 => k_is); (case c5 => k_is); (case k5 => k_is); (case a6 => k_is); (case l6 => k_is); (case c6 => k_is); (case k6 => k_is); (case a7 => k_is); (case l7 => k_is); (case c7 => k_is); (case k7 => k_is); (case a8 => k_is); (case l8 => k_is); (case c8 => k_is); (case k8 => k_is); (case a9 => k_is); (case l9 => k_is); (case c9 => k_is); (case k9 => k_is); (case a10 => k_is); (case l10 => k_is); (case c10 => k_is); (case k10 => k_is); (case a11 => k_is); (case l11 => k_is); (case c11 => k_is); (case k11 => k_is); (case a12 => k_is); (case l12 => k_is); (case c12 => k_is); (case k12 => k_is); (case a13 => k_is); (case l13 => k_is); (case c13 => k_is); (case k13 => k_is); (case a14 => k_is); (case l14 => k_is); (case c14 => k_is); (case k14 => k_is); (case a15 => k_is); (case l15 => k_is); (case c15 => k_is); (case k15 => k_is); (case a16 => k_is); (case l16 => k_is); (case c16 => k_is); (case k16 => k_is); (case a17 => k_is); (case l17 => k_is); (case c17 => k_is); (case k17 => k_is); (case a18 => k_is); (case l18 => k_is); (case c18 => k_is); (case k18 => k_is); (case a19 => k_is); (case l19 => k_is); (case c19 => k_is); (case k19 => k_is); (case a20 => k_is); (case l20 => k_is); (case c20 => k_is); (case k20 => k_is); (case a21 => k_is); (case l21 => k_is); (case c21 => k_is); (case k21 => k_is); (case a22 => k_is); (case l22 => k_is); (case c22 => k_is); (case k22 => k_is); (case a23 => k_is); (case l23 => k_is); (case c23 => k_is); (case k23 => k_is); (case a24 => k_is); (case l24 => k_is); (case c24 => k_is); (case k24 => k_is); (case a25 => k_is); (case l25 => k_is); (case c25 => k_is); (case k25 => k_is); (case z_abs => k_is); (case z_all => k_is); (case z_bool => k_is); (case z_enumerate => k_is); (case z_int => k_is); (case z_isinstance => k_is); (case z_len => k_is); (case z_list => k_is); (case z_max => k_is); (case z_range => k_is); (case z_repr => k_is); (case z_sorted => k_is); (case z_tuple => k_is); (case g_MOST_WIRES => k_is)

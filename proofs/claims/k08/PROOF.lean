import PyProof.Rows.All
import Wide.All
import OpenK.AllK
import Wide.FinOn
import HandS.Base
import HandS.Call
import HandS.List
import HandS.Comp
import HandS.Conv
import HandS.TupAny
import HandS.ReCall
import HandS.Ends
import HandS.Exc
import HandS.ExcOwn
import HandS.TryOnly
import HandS.Words
import HandS.WordsExc
import HandS.Defaults
import HandS.HeadHook1
import HandS.IsInst
import HandS.SortInts
import HandS.Style
import HandS.Text
import KE.KOpsOwn
import PyProof.InstNe
import HandS.ExcCtx
import HandS.Iter
import HandS.ExcInit
import HandS.ExcField
import KE.GoesMore
import KE.GoesEnum
import KE.DatumOrd
import HandS.SortKw
import KE.KIndexOf
import HandS.HotCalls
import HandS.ExcInitHot
import HandS.HeadEnd
import KE.DataCmp
import KE.DataFind
import HandS.Deep
import HandS.Star
import HandS.Zip
import KE.SortData
import KE.KStateDown
import HandS.Head0
import HandS.Head1
import HandS.Head2
import HandS.HeadHook2
import HandS.HeadHook3
import HandS.HeadHook4
import PySem.Challenge.RW_letouts_k08_orders_ascending
section
set_option Elab.async false
set_option linter.all false
set_option maxRecDepth 100000
set_option maxHeartbeats 4000000
namespace T
open PySem PySem.Spec PyProof.Rows L2
def TupN (K : PySem.W.Frag) (H : Hp) (a : Addr) (vs : List V) : Prop :=
  (∃ o : Obj, H a = some (.frz o (.tup vs)) ∧ o.dict = none) ∨
    ∃ (o : Obj) (its : Array Value) (n : Nat), K.lookup a = some o ∧ o.cls = .type "tuple" ∧ o.dict = none ∧ o.data = .seq its n ∧ its.size ≤ sizeLine ∧ Vals vs its.toList
theorem TupN.sqT {K : PySem.W.Frag} {H : Hp} {a : Addr} {vs : List V} (h : TupN K H a vs) : SqT K H a vs := by
  rcases h with ⟨o, h, _⟩ | ⟨o, its, n, h1, h2, _, h3, h4, h5⟩
  · exact .inl (.inr ⟨o, h⟩)
  · exact .inr ⟨o, its, n, h1, h2, h3, h4, h5⟩
section
variable {X : Cx} {pins : List (Addr × Obj)} {σ : L2.St} {H : Hp} {s : Shared}
theorem Inv.laidN {its : List Value} {xs : List V} (I : Inv X pins σ H s) (r : Vals xs its) (hz : xs.length ≤ sizeLine) {Q : VK} (q : ∀ p (o : Obj), H p = none → o.dict = none → Q (.ref p) (upd H p (.frz o (.tup xs)))) :
    EP X pins σ Q (.ref s.heap.objs.size) { s with heap := s.heap.push { cls := .type "tuple", data := .seq its.toArray } } := by
  refine ⟨.ref s.heap.objs.size, _, I.laid (t' := s.toks) (o := .frz { cls := .type "tuple", data := .seq its.toArray } (.tup xs)) (fun b ob q => Heap.get?_push_of_some _ q) (Nat.le_refl _) ?_, rfl, q _ _ (I.hok.fresh (Nat.le_refl _)) rfl⟩
  exact ⟨Heap.get?_push_size _ rfl, hz, its, r, IsTup.new _ _⟩
def tTupN (t : TA) : TE := fun σ H Q => t σ H fun xs H1 => xs.length ≤ sizeLine ∧ ∀ p (o : Obj), H1 p = none → o.dict = none → Q (.ref p) (upd H1 p (.frz o (.tup xs)))
theorem pe_tupN {es : List Expr} {pos : Pos} {t : TA} {x1} (h : PA X es t) : PE X (.Tuple es x1 pos) (tTupN t) := by
  refine ⟨fun pins s σ H Q I hq => ?_⟩
  refine wpAny_Tuple_spliced (thn (h.run pos pins s σ H _ I hq) fun us s1 ⟨xs, H1, I1, r, z, q⟩ => ⟨by rw [← r.length]; exact z, ?_⟩)
  exact Inv.laidN I1 r z q
def rCatN (K : PySem.W.Frag) : R2 := fun x y H Q => ∃ a b xs ys, x = .ref a ∧ y = .ref b ∧ SqT K H a xs ∧ SqT K H b ys ∧ xs.length + ys.length ≤ sizeLine ∧
  (xs = [] → Q (.ref b) H) ∧ (xs ≠ [] → ys = [] → Q (.ref a) H) ∧ (xs ≠ [] → ys ≠ [] → ∀ p (o : Obj), H p = none → o.dict = none → Q (.ref p) (upd H p (.frz o (.tup (xs ++ ys)))))
theorem op_catN : OpR X (binaryOp .Add) (rCatN X.K) := by
  intro pins s σ H x y v u Q I rx ry h
  obtain ⟨a, b, xs, ys, rfl, rfl, ha, hb, hz, q0, q1, q2⟩ := h
  cases rx
  cases ry
  obtain ⟨its, r1, p1, _⟩ := I.tuple ha
  obtain ⟨its2, r2, p2, _⟩ := I.tuple hb
  by_cases hx : xs = []
  · subst hx
    cases r1
    exact cat_tup0 p1 p2 ⟨.ref b, H, I, rfl, q0 rfl⟩
  · refine HT.cat_tup p1 p2 (fun z => hx (r1.nil_iff.mp z)) (fun z => ⟨.ref a, H, I, rfl, q1 hx (r2.nil_iff.mp z)⟩) (fun z => ?_) (by rw [← r1.length, ← r2.length]; exact hz)
    exact Inv.laidN I (r1.append r2) (by rw [List.length_append]; exact hz) (q2 hx (fun w => z (r2.nil_iff.mpr w)))
def rSlN (K : PySem.W.Frag) : V → Option Int → Option Int → Hp → VK → Prop := fun x lo hi H Q => ∃ a xs, x = .ref a ∧ SqT K H a xs ∧
  (HT.sIx xs.length 0 lo = 0 ∧ HT.sIx xs.length xs.length hi = xs.length → Q (.ref a) H) ∧ (¬ (HT.sIx xs.length 0 lo = 0 ∧ HT.sIx xs.length xs.length hi = xs.length) → ∀ p (o : Obj), H p = none → o.dict = none → Q (.ref p) (upd H p (.frz o (.tup (cutV xs lo hi)))))
theorem sl_tupN : SlR X (rSlN X.K) := by
  intro pins s σ H x v vl vu lo hi sl Q I rx hs pl pu h
  obtain ⟨a, xs, rfl, hx, q1, q2⟩ := h
  cases rx
  obtain ⟨its, r, ht, hz⟩ := I.tuple hx
  have hlen : its.toArray.size = xs.length := by rw [List.size_toArray]; exact r.length.symm
  refine ⟨"tuple", _, PyProof.Rows.slot_tuple_getitem.lookup, ht.typeIs, ?_⟩
  by_cases hw : HT.sIx xs.length 0 lo = 0 ∧ HT.sIx xs.length xs.length hi = xs.length
  · exact getItem_tuple_whole ht hs pl pu (by rw [hlen]; exact hw) ⟨.ref a, H, I, rfl, q1 hw⟩
  · refine HT.getItem_tuple_cut ht hs pl pu (by rw [hlen]; exact hw) ?_ (by rw [hlen]; exact hz)
    rw [hlen]
    exact Inv.laidN I ((r.drop (HT.sIx xs.length 0 lo)).take (HT.sIx xs.length xs.length hi - HT.sIx xs.length 0 lo)) (Nat.le_trans (cutV_length xs lo hi) hz) (q2 hw)
theorem call_tuple_N : CallR X (.type "tuple") (fun xs H Q => ∃ p ys, xs = [.ref p] ∧ ((SqL X.K H p ys ∧ ∀ l (o : Obj), H l = none → o.dict = none → Q (.ref l) (upd H l (.frz o (.tup ys)))) ∨ (SqT X.K H p ys ∧ Q (.ref p) H))) := by
  intro pins s σ H xs us Q I r h
  obtain ⟨p, ys, rfl, h⟩ := h
  obtain ⟨u, rfl, rx⟩ := vals1 r
  cases rx
  rcases h with ⟨hq, q⟩ | ⟨hq, q⟩
  · obtain ⟨its, r', pl, hz⟩ := I.list hq
    have hlen := r'.length
    refine call_tuple_list pl.isList (fun h' kp => ?_) (by simp only [List.size_toArray] <;> omega)
    exact Inv.laidN (I.kept (t' := s.toks) kp) r' hz q
  · obtain ⟨its, r', pl, hz⟩ := I.tuple hq
    exact call_tuple_same pl ⟨.ref p, H, I, rfl, q⟩
def tTupRgN (te : L2.St → Hp → (Int → Int → Hp → Prop) → Prop) : TE := fun σ H Q => te σ H fun a b H1 => RgOk a b ∧ ∀ q (o : Obj), H1 q = none → o.dict = none → Q (.ref q) (upd H1 q (.frz o (.tup (rgV a b))))
theorem pe_tupRgN {e : Expr} {te : L2.St → Hp → (Int → Int → Hp → Prop) → Prop} {p pos : Pos} (hc : X.calm = true) (hg : Gl X "tuple") (hm : X.mg "tuple" = none) (he : PRg X e te) (na : starEach [e] X.env = (false, eval e X.env) :: starEach [] X.env := by rfl) : PE X (.Call (.Name "tuple" p) [e] [] pos) (tTupRgN te) := by
  refine ⟨fun pins s σ H Q I h => ?_⟩
  refine Call_ (ld_blt I hg hm boot_tuple (PyProof.Rows.callWith_type1 (args_cons (thn (he pins s σ H _ I h) fun x s1 ⟨r, a, b, t, u, v, H1, ex, hr, I1, ok, q⟩ => args_nil ?_) na) na))
  subst ex
  obtain ⟨b1, b2, b3, b4, b5⟩ := ok
  refine call_tuple_range (n := (b - a).toNat) (I1.ok.hd hc) hr (small_one b1 b2 b3 b4) (rangeSize_nat a b) b5 fun h' tk acc hk hi => ?_
  have I2 : Inv X pins σ H1 { s1 with heap := h', toks := tk } := I1.kept hk
  exact Inv.laidN I2 (vals_rg hi) (by rw [rgV_length, sizeLine_eq]; omega) q
def tyTup (K : PySem.W.Frag) (v : V) (H : Hp) : Prop := ∃ a vs, v = .ref a ∧ TupN K H a vs
theorem ty_tup : TyOk X "tuple" (tyTup X.K) := by
  intro pins σ H s x v I r ty
  obtain ⟨a, vs, rfl, h⟩ := ty
  cases r
  rcases h with ⟨o, h, hd⟩ | ⟨o, its, n, h1, h2, hd, _⟩
  · obtain ⟨g, _, _, _, ob, e, c, _⟩ := (show ObjOk X.prog X.w H s.heap a (.frz o (.tup vs)) from I.hok a _ h)
    have eo : ob = o := by rw [g] at e; exact (Option.some.inj e).symm
    subst eo
    exact ⟨⟨ob, e, c⟩, fun b z => by cases z; exact ⟨ob, e, hd⟩⟩
  · have e := I.kIn a o h1
    exact ⟨⟨o, e, h2⟩, fun b z => by cases z; exact ⟨o, e, hd⟩⟩
end
end T
end
section
set_option Elab.async false
set_option linter.all false
set_option maxRecDepth 100000
set_option maxHeartbeats 4000000
namespace T
open PySem PySem.Spec PyProof.Rows L2
inductive D where
  | non | bl (b : Bool) | int (i : Int) | str (s : Str)
  | tup (xs : List D) | lst (xs : List D) | lsk (xs : List D)
  | ins (c : Str) (fs : List (Str × D))
  | ref (a : Addr)
  | exc (a dx : Addr) (c : Str) (fs : List (Str × D))
abbrev Fg := PySem.W.Frag
mutual
inductive Rep (F : Fg) (K : Hp) : V → D → Prop
  | non : Rep F K .non .non
  | bl (b : Bool) : Rep F K (.bl b) (.bl b)
  | int (i : Int) : Rep F K (.int i) (.int i)
  | str (x : Str) : Rep F K (.str x) (.str x)
  | tup {a : Addr} {vs : List V} {ds : List D} : TupN F K a vs → Reps F K vs ds → Rep F K (.ref a) (.tup ds)
  | lst {a : Addr} {vs : List V} {ds : List D} : K a = some (.lst vs) → Reps F K vs ds → Rep F K (.ref a) (.lst ds)
  | lsk {a : Addr} {vs : List V} {ds : List D} : SqL F K a vs → Reps F K vs ds → Rep F K (.ref a) (.lsk ds)
  | ins {a dx : Addr} {c : Str} {gs : List (Str × V)} {fs : List (Str × D)} : K a = some (.ins (He.ga F c) dx gs) → RepF F K gs fs → Rep F K (.ref a) (.ins c fs)
  | ref (a : Addr) : Rep F K (.ref a) (.ref a)
  | exc {a dx : Addr} {c : Str} {gs : List (Str × V)} {fs : List (Str × D)} : K dx = some (.xd gs) → RepF F K gs fs → Rep F K (.ref a) (.exc a dx c fs)
inductive Reps (F : Fg) (K : Hp) : List V → List D → Prop
  | nil : Reps F K [] []
  | cons {v : V} {vs : List V} {d : D} {ds : List D} : Rep F K v d → Reps F K vs ds → Reps F K (v :: vs) (d :: ds)
inductive RepF (F : Fg) (K : Hp) : List (Str × V) → List (Str × D) → Prop
  | nil : RepF F K [] []
  | cons {f : Str} {v : V} {vs : List (Str × V)} {d : D} {ds : List (Str × D)} : Rep F K v d → RepF F K vs ds → RepF F K ((f, v) :: vs) ((f, d) :: ds)
end
abbrev Ex (H H' : Hp) : Prop := ∀ b o, H b = some o → H' b = some o
theorem Ex.rfl' (H : Hp) : Ex H H := fun _ _ h => h
theorem Ex.tr {H H1 H2 : Hp} (a : Ex H H1) (b : Ex H1 H2) : Ex H H2 := fun c o h => b c o (a c o h)
theorem sqT_mono {F : Fg} {K K' : Hp} {a : Addr} {vs : List V} (e : Ex K K') (h : SqT F K a vs) : SqT F K' a vs := by
  rcases h with (h | ⟨o, h⟩) | h
  · exact .inl (.inl (e _ _ h))
  · exact .inl (.inr ⟨o, e _ _ h⟩)
  · exact .inr h
theorem tupN_mono {F : Fg} {K K' : Hp} {a : Addr} {vs : List V} (e : Ex K K') (h : TupN F K a vs) : TupN F K' a vs := by
  rcases h with ⟨o, h, hd⟩ | h
  · exact .inl ⟨o, e _ _ h, hd⟩
  · exact .inr h
theorem sqL_mono {F : Fg} {K K' : Hp} {a : Addr} {vs : List V} (e : Ex K K') (h : SqL F K a vs) : SqL F K' a vs := by
  rcases h with (h | ⟨o, h⟩) | h
  · exact .inl (.inl (e _ _ h))
  · exact .inl (.inr ⟨o, e _ _ h⟩)
  · exact .inr h
mutual
theorem Rep.mono {F : Fg} {K K' : Hp} (e : Ex K K') : ∀ {v : V} {d : D}, Rep F K v d → Rep F K' v d
  | _, _, .non => .non
  | _, _, .bl b => .bl b
  | _, _, .int i => .int i
  | _, _, .str x => .str x
  | _, _, .tup h r => .tup (tupN_mono e h) (Reps.mono e r)
  | _, _, .lst h r => .lst (e _ _ h) (Reps.mono e r)
  | _, _, .lsk h r => .lsk (sqL_mono e h) (Reps.mono e r)
  | _, _, .ins h r => .ins (e _ _ h) (RepF.mono e r)
  | _, _, .ref a => .ref a
  | _, _, .exc h r => .exc (e _ _ h) (RepF.mono e r)
theorem Reps.mono {F : Fg} {K K' : Hp} (e : Ex K K') : ∀ {v : List V} {d : List D}, Reps F K v d → Reps F K' v d
  | _, _, .nil => .nil
  | _, _, .cons h r => .cons (Rep.mono e h) (Reps.mono e r)
theorem RepF.mono {F : Fg} {K K' : Hp} (e : Ex K K') : ∀ {v : List (Str × V)} {d : List (Str × D)}, RepF F K v d → RepF F K' v d
  | _, _, .nil => .nil
  | _, _, .cons h r => .cons (Rep.mono e h) (RepF.mono e r)
end
section
variable {F : Fg} {K K' H H2 : Hp}
theorem Reps.len : ∀ {vs : List V} {ds : List D}, Reps F K vs ds → vs.length = ds.length
  | _, _, .nil => rfl
  | _, _, .cons _ r => congrArg (· + 1) (Reps.len r)
theorem Reps.get : ∀ {vs : List V} {ds : List D} {i : Nat} {d : D}, Reps F K vs ds → ds[i]? = some d → ∃ v, vs[i]? = some v ∧ Rep F K v d
  | _, _, _, _, .nil, e => by simp at e
  | _, _, 0, _, .cons r _, e => by simp at e; subst e; exact ⟨_, rfl, r⟩
  | _, _, i + 1, d, .cons _ t, e => by
    obtain ⟨v, h1, h2⟩ := Reps.get (i := i) (d := d) t (by simpa using e)
    exact ⟨v, by simpa using h1, h2⟩
theorem Reps.getV : ∀ {vs : List V} {ds : List D} {i : Nat} {v : V}, Reps F K vs ds → vs[i]? = some v → ∃ d, ds[i]? = some d ∧ Rep F K v d
  | _, _, _, _, .nil, e => by simp at e
  | _, _, 0, _, .cons r _, e => by simp at e; subst e; exact ⟨_, rfl, r⟩
  | _, _, i + 1, d, .cons _ t, e => by
    obtain ⟨v, h1, h2⟩ := Reps.getV (i := i) (v := d) t (by simpa using e)
    exact ⟨v, by simpa using h1, h2⟩
theorem Reps.app : ∀ {vs ws : List V} {ds es : List D}, Reps F K vs ds → Reps F K ws es → Reps F K (vs ++ ws) (ds ++ es)
  | _, _, _, _, .nil, s => s
  | _, _, _, _, .cons r t, s => .cons r (Reps.app t s)
theorem Reps.one {v : V} {d : D} (h : Rep F K v d) : Reps F K [v] [d] := .cons h .nil
theorem Reps.drop : ∀ {vs : List V} {ds : List D} (n : Nat), Reps F K vs ds → Reps F K (vs.drop n) (ds.drop n)
  | _, _, 0, h => h
  | _, _, n + 1, .nil => .nil
  | _, _, n + 1, .cons _ t => Reps.drop n t
theorem Reps.take : ∀ {vs : List V} {ds : List D} (n : Nat), Reps F K vs ds → Reps F K (vs.take n) (ds.take n)
  | _, _, 0, h => .nil
  | _, _, n + 1, .nil => .nil
  | _, _, n + 1, .cons r t => .cons r (Reps.take n t)
theorem Reps.set : ∀ {vs : List V} {ds : List D} (n : Nat) {v : V} {d : D}, Rep F K v d → Reps F K vs ds → Reps F K (vs.set n v) (ds.set n d)
  | _, _, _, _, _, _, .nil => .nil
  | _, _, 0, _, _, q, .cons _ t => .cons q t
  | _, _, n + 1, _, _, q, .cons r t => .cons r (Reps.set n q t)
theorem Reps.rev : ∀ {vs : List V} {ds : List D}, Reps F K vs ds → Reps F K vs.reverse ds.reverse
  | _, _, .nil => .nil
  | _, _, .cons r t => by
    rw [List.reverse_cons, List.reverse_cons]
    exact Reps.app (Reps.rev t) (.cons r .nil)
theorem Reps.erase : ∀ {vs : List V} {ds : List D} (n : Nat), Reps F K vs ds → Reps F K (vs.eraseIdx n) (ds.eraseIdx n)
  | _, _, _, .nil => .nil
  | _, _, 0, .cons _ t => t
  | _, _, n + 1, .cons r t => .cons r (Reps.erase n t)
theorem RepF.get : ∀ {vs : List (Str × V)} {ds : List (Str × D)} {f : Str} {d : D}, RepF F K vs ds → ds.lookup f = some d → ∃ v, vs.lookup f = some v ∧ Rep F K v d
  | _, _, _, _, .nil, e => by simp at e
  | _, _, f, d, .cons (f := g) r t, e => by
    rw [List.lookup_cons] at e ⊢
    cases h : f == g with
    | true =>
      rw [h] at e
      cases e
      exact ⟨_, rfl, r⟩
    | false =>
      rw [h] at e
      exact RepF.get t e
theorem RepF.none_ : ∀ {vs : List (Str × V)} {ds : List (Str × D)} {f : Str}, RepF F K vs ds → ds.lookup f = none → vs.lookup f = none
  | _, _, _, .nil, e => rfl
  | _, _, f, .cons (f := g) r t, e => by
    rw [List.lookup_cons] at e ⊢
    cases h : f == g with
    | true =>
      rw [h] at e
      cases e
    | false =>
      rw [h] at e
      exact RepF.none_ t e
theorem Rep.ints : ∀ {ns : List Int}, Reps F K (ns.map V.int) (ns.map D.int)
  | [] => .nil
  | n :: r => .cons (.int n) Rep.ints
theorem Reps.ints_v : ∀ {ns : List Int} {vs : List V}, Reps F K vs (ns.map D.int) → vs = ns.map V.int
  | [], _, .nil => rfl
  | n :: r, _, .cons h t => by
    cases h
    rw [Reps.ints_v t]
    rfl
end
structure DS where
  great : List Int
  mixed : Int
  at_ : Option (Addr × Addr)
def DealAt (H : Hp) (p q : Addr) (s : DS) : Prop := H p = some (.lst [.ref q, .int s.mixed]) ∧ H q = some (.lst (s.great.map V.int))
structure DP where
  deal : Option (Addr × Addr)
  self : Addr
def dp0 : DP := ⟨none, 0⟩
def NotDeal (dp : DP) (a : Addr) : Prop := ∀ p q, dp.deal = some (p, q) → a ≠ p ∧ a ≠ q
def DealOk (dp : DP) (K H : Hp) (s : DS) : Prop := s.at_ = dp.deal ∧ ∀ p q, dp.deal = some (p, q) → DealAt H p q s ∧ K p = none ∧ K q = none
structure Gr (dp : DP) (K H K2 H2 : Hp) : Prop where
  kk : Ex K K2
  sub : Ex K2 H2
  new : ∀ a, H a ≠ none → K2 a = K a
  fr : ∀ a o, H a = some o → NotDeal dp a → H2 a = some o
section
variable {dp : DP} {K H K1 H1 K2 H2 : Hp} {s s1 s2 : DS}
theorem NotDeal.of (h : DealOk dp K H s) {a : Addr} {o : HO} (e : K a = some o) : NotDeal dp a := fun p q hp => by
  obtain ⟨_, h1, h2⟩ := h.2 p q hp
  refine ⟨fun z => ?_, fun z => ?_⟩
  · rw [z, h1] at e; cases e
  · rw [z, h2] at e; cases e
theorem Gr.rfl' (e : Ex K H) : Gr dp K H K H := ⟨Ex.rfl' K, e, fun _ _ => rfl, fun _ _ h _ => h⟩
theorem NotDeal.back (g : Gr dp K H K1 H1) : True := trivial
theorem Gr.trans (h0 : DealOk dp K H s) (a : Gr dp K H K1 H1) (h1 : DealOk dp K1 H1 s1) (b : Gr dp K1 H1 K2 H2) : Gr dp K H K2 H2 := by
  refine ⟨Ex.tr a.kk b.kk, b.sub, fun c hc => ?_, fun c o hc nd => b.fr c o (a.fr c o hc nd) nd⟩
  rw [b.new c ?_, a.new c hc]
  cases e : H c with
  | none => exact absurd e hc
  | some o =>
    intro z
    cases hd : dp.deal with
    | none =>
      rw [a.fr c o e (fun p q hp => by rw [hd] at hp; cases hp)] at z
      cases z
    | some pq =>
      obtain ⟨p, q⟩ := pq
      by_cases hp : c = p
      · obtain ⟨⟨e1, _⟩, _⟩ := h1.2 p q hd
        rw [hp, e1] at z
        cases z
      · by_cases hq : c = q
        · obtain ⟨⟨_, e1⟩, _⟩ := h1.2 p q hd
          rw [hq, e1] at z
          cases z
        · rw [a.fr c o e (fun p' q' hp' => by rw [hd] at hp'; cases hp'; exact ⟨hp, hq⟩)] at z
          cases z
theorem DealOk.ext (h : DealOk dp K H s) (e : Ex H H2) (n : ∀ a, H a ≠ none → K2 a = K a) : DealOk dp K2 H2 s := ⟨h.1, fun p q hp => by
  obtain ⟨⟨h1, h2⟩, h3, h4⟩ := h.2 p q hp
  refine ⟨⟨e _ _ h1, e _ _ h2⟩, ?_, ?_⟩
  · rw [n p (by rw [h1]; simp), h3]
  · rw [n q (by rw [h2]; simp), h4]⟩
theorem Gr.deal (g : Gr dp K H K2 H2) (h : DealOk dp K H s) (e : Ex H H2) : DealOk dp K2 H2 s := h.ext e g.new
theorem Gr.add {p : Addr} {o : HO} (e : Ex K H) (hp : H p = none) : Gr dp K H (upd K p o) (upd H p o) := by
  have hk : K p = none := by
    cases q : K p with
    | none => rfl
    | some u => rw [e p u q] at hp; cases hp
  refine ⟨fun b u h => ?_, fun b u h => ?_, fun a ha => ?_, fun a u h _ => ?_⟩
  · rw [upd_ne (ne_of_none h hk)]; exact h
  · by_cases hb : b = p
    · subst hb; rw [upd_same] at h ⊢; exact h
    · rw [upd_ne hb] at h ⊢; exact e _ _ h
  · rw [upd_ne (fun z => ha (by rw [z]; exact hp))]
  · rw [upd_ne (ne_of_none h hp)]; exact h
theorem Gr.add0 {p : Addr} {o : HO} (e : Ex K H) (hp : H p = none) : Gr dp K H K (upd H p o) :=
  ⟨Ex.rfl' K, fun b u h => by rw [upd_ne (ne_of_none (e _ _ h) hp)]; exact e _ _ h, fun _ _ => rfl, fun a u h _ => by rw [upd_ne (ne_of_none h hp)]; exact h⟩
theorem ex_upd {p : Addr} {o : HO} (hp : H p = none) : Ex H (upd H p o) := fun b u h => by rw [upd_ne (ne_of_none h hp)]; exact h
end
inductive Res (α : Type) where
  | ok (a : α) (s : DS)
  | exc (c : Str) (fs : List (Str × D)) (s : DS)
  | stuck
def M (α : Type) : Type := DS → Res α
def M.pure {α : Type} (a : α) : M α := fun s => .ok a s
def M.bind {α β : Type} (m : M α) (f : α → M β) : M β := fun s => match m s with
  | .ok a s' => f a s'
  | .exc c fs s' => .exc c fs s'
  | .stuck => .stuck
instance : Monad M where
  pure := M.pure
  bind := M.bind
def stuck {α : Type} : M α := fun _ => .stuck
def raise {α : Type} (c : Str) (fs : List (Str × D)) : M α := fun s => .exc c fs s
def ofO {α : Type} : Option α → M α
  | some a => pure a
  | none => stuck
theorem bind_ok {α β : Type} {m : M α} {f : α → M β} {s s' : DS} {a : α} (h : m s = .ok a s') : (m >>= f) s = f a s' := by
  show M.bind m f s = f a s'
  unfold M.bind
  rw [h]
theorem pure_run {α : Type} {a : α} {s : DS} : (pure a : M α) s = .ok a s := rfl
def Post (F : Fg) (dp : DP) (K H : Hp) (r : Res D) (Q : VK) (E : XK) : Prop := match r with
  | .ok d s => ∀ v K2 H2, Gr dp K H K2 H2 → DealOk dp K2 H2 s → Rep F K2 v d → Q v H2
  | .exc c fs s => ∀ dx gs K2 H2, Gr dp K H K2 H2 → DealOk dp K2 H2 s → K2 dx = some (.xd gs) → RepF F K2 gs fs → E (.ref (He.ga F c)) (some dx) H2
  | .stuck => False
def PostL (F : Fg) (dp : DP) (K H : Hp) (r : Res (List D)) (Q : List V → Hp → Prop) (E : XK) : Prop := match r with
  | .ok d s => ∀ v K2 H2, Gr dp K H K2 H2 → DealOk dp K2 H2 s → Reps F K2 v d → Q v H2
  | .exc c fs s => ∀ dx gs K2 H2, Gr dp K H K2 H2 → DealOk dp K2 H2 s → K2 dx = some (.xd gs) → RepF F K2 gs fs → E (.ref (He.ga F c)) (some dx) H2
  | .stuck => False
def PostB {α : Type} (F : Fg) (dp : DP) (K H : Hp) (r : Res α) (Q : α → Hp → Prop) (E : XK) : Prop := match r with
  | .ok d s => ∀ K2 H2, Gr dp K H K2 H2 → DealOk dp K2 H2 s → Q d H2
  | .exc c fs s => ∀ dx gs K2 H2, Gr dp K H K2 H2 → DealOk dp K2 H2 s → K2 dx = some (.xd gs) → RepF F K2 gs fs → E (.ref (He.ga F c)) (some dx) H2
  | .stuck => False
section
variable {F : Fg} {dp : DP} {K H K2 H2 : Hp} {Q : VK} {E : XK} {s s2 : DS}
theorem Post.later {r : Res D} (h0 : DealOk dp K H s) (g : Gr dp K H K2 H2) (h2 : DealOk dp K2 H2 s2) (h : Post F dp K H r Q E) : Post F dp K2 H2 r Q E := by
  cases r with
  | ok d s' => exact fun v K3 H3 g3 hd r => h v K3 H3 (Gr.trans h0 g h2 g3) hd r
  | exc c fs s' => exact fun dx gs K3 H3 g3 hd r1 r2 => h dx gs K3 H3 (Gr.trans h0 g h2 g3) hd r1 r2
  | stuck => exact h
theorem PostL.later {r : Res (List D)} {Q : List V → Hp → Prop} (h0 : DealOk dp K H s) (g : Gr dp K H K2 H2) (h2 : DealOk dp K2 H2 s2) (h : PostL F dp K H r Q E) : PostL F dp K2 H2 r Q E := by
  cases r with
  | ok d s' => exact fun v K3 H3 g3 hd r => h v K3 H3 (Gr.trans h0 g h2 g3) hd r
  | exc c fs s' => exact fun dx gs K3 H3 g3 hd r1 r2 => h dx gs K3 H3 (Gr.trans h0 g h2 g3) hd r1 r2
  | stuck => exact h
theorem PostB.later {α : Type} {r : Res α} {Q : α → Hp → Prop} (h0 : DealOk dp K H s) (g : Gr dp K H K2 H2) (h2 : DealOk dp K2 H2 s2) (h : PostB F dp K H r Q E) : PostB F dp K2 H2 r Q E := by
  cases r with
  | ok d s' => exact fun K3 H3 g3 hd => h K3 H3 (Gr.trans h0 g h2 g3) hd
  | exc c fs s' => exact fun dx gs K3 H3 g3 hd r1 r2 => h dx gs K3 H3 (Gr.trans h0 g h2 g3) hd r1 r2
  | stuck => exact h
theorem Post.bind {m : M D} {f : D → M D} {Q1 : VK} (h0 : DealOk dp K H s) (h : Post F dp K H ((m >>= f) s) Q E)
    (k : ∀ v d K2 H2 s2, Gr dp K H K2 H2 → DealOk dp K2 H2 s2 → Rep F K2 v d → Post F dp K2 H2 (f d s2) Q E → Q1 v H2) : Post F dp K H (m s) Q1 E := by
  have h' : Post F dp K H (M.bind m f s) Q E := h
  unfold M.bind at h'
  cases e : m s with
  | ok d s' =>
    rw [e] at h'
    exact fun v K3 H3 g hd r => k v d K3 H3 s' g hd r (Post.later h0 g hd h')
  | exc c fs s' =>
    rw [e] at h'
    exact h'
  | stuck =>
    rw [e] at h'
    exact h'
theorem Post.bindL {m : M D} {f : D → M (List D)} {Q : List V → Hp → Prop} {Q1 : VK} (h0 : DealOk dp K H s) (h : PostL F dp K H ((m >>= f) s) Q E)
    (k : ∀ v d K2 H2 s2, Gr dp K H K2 H2 → DealOk dp K2 H2 s2 → Rep F K2 v d → PostL F dp K2 H2 (f d s2) Q E → Q1 v H2) : Post F dp K H (m s) Q1 E := by
  have h' : PostL F dp K H (M.bind m f s) Q E := h
  unfold M.bind at h'
  cases e : m s with
  | ok d s' =>
    rw [e] at h'
    exact fun v K3 H3 g hd r => k v d K3 H3 s' g hd r (PostL.later h0 g hd h')
  | exc c fs s' =>
    rw [e] at h'
    exact h'
  | stuck =>
    rw [e] at h'
    exact h'
theorem Post.bindB {α : Type} {m : M D} {f : D → M α} {Q : α → Hp → Prop} {Q1 : VK} (h0 : DealOk dp K H s) (h : PostB F dp K H ((m >>= f) s) Q E)
    (k : ∀ v d K2 H2 s2, Gr dp K H K2 H2 → DealOk dp K2 H2 s2 → Rep F K2 v d → PostB F dp K2 H2 (f d s2) Q E → Q1 v H2) : Post F dp K H (m s) Q1 E := by
  have h' : PostB F dp K H (M.bind m f s) Q E := h
  unfold M.bind at h'
  cases e : m s with
  | ok d s' =>
    rw [e] at h'
    exact fun v K3 H3 g hd r => k v d K3 H3 s' g hd r (PostB.later h0 g hd h')
  | exc c fs s' =>
    rw [e] at h'
    exact h'
  | stuck =>
    rw [e] at h'
    exact h'
theorem PostL.bind {m : M (List D)} {f : List D → M D} {Q1 : List V → Hp → Prop} (h0 : DealOk dp K H s) (h : Post F dp K H ((m >>= f) s) Q E)
    (k : ∀ v d K2 H2 s2, Gr dp K H K2 H2 → DealOk dp K2 H2 s2 → Reps F K2 v d → Post F dp K2 H2 (f d s2) Q E → Q1 v H2) : PostL F dp K H (m s) Q1 E := by
  have h' : Post F dp K H (M.bind m f s) Q E := h
  unfold M.bind at h'
  cases e : m s with
  | ok d s' =>
    rw [e] at h'
    exact fun v K3 H3 g hd r => k v d K3 H3 s' g hd r (Post.later h0 g hd h')
  | exc c fs s' =>
    rw [e] at h'
    exact h'
  | stuck =>
    rw [e] at h'
    exact h'
theorem PostL.bindL {m : M (List D)} {f : List D → M (List D)} {Q Q1 : List V → Hp → Prop} (h0 : DealOk dp K H s) (h : PostL F dp K H ((m >>= f) s) Q E)
    (k : ∀ v d K2 H2 s2, Gr dp K H K2 H2 → DealOk dp K2 H2 s2 → Reps F K2 v d → PostL F dp K2 H2 (f d s2) Q E → Q1 v H2) : PostL F dp K H (m s) Q1 E := by
  have h' : PostL F dp K H (M.bind m f s) Q E := h
  unfold M.bind at h'
  cases e : m s with
  | ok d s' =>
    rw [e] at h'
    exact fun v K3 H3 g hd r => k v d K3 H3 s' g hd r (PostL.later h0 g hd h')
  | exc c fs s' =>
    rw [e] at h'
    exact h'
  | stuck =>
    rw [e] at h'
    exact h'
theorem PostB.bind {α : Type} {m : M α} {f : α → M D} {Q1 : α → Hp → Prop} (h0 : DealOk dp K H s) (h : Post F dp K H ((m >>= f) s) Q E)
    (k : ∀ d K2 H2 s2, Gr dp K H K2 H2 → DealOk dp K2 H2 s2 → Post F dp K2 H2 (f d s2) Q E → Q1 d H2) : PostB F dp K H (m s) Q1 E := by
  have h' : Post F dp K H (M.bind m f s) Q E := h
  unfold M.bind at h'
  cases e : m s with
  | ok d s' =>
    rw [e] at h'
    exact fun K3 H3 g hd => k d K3 H3 s' g hd (Post.later h0 g hd h')
  | exc c fs s' =>
    rw [e] at h'
    exact h'
  | stuck =>
    rw [e] at h'
    exact h'
theorem PostB.bindB {α β : Type} {m : M α} {f : α → M β} {Q : β → Hp → Prop} {Q1 : α → Hp → Prop} (h0 : DealOk dp K H s) (h : PostB F dp K H ((m >>= f) s) Q E)
    (k : ∀ d K2 H2 s2, Gr dp K H K2 H2 → DealOk dp K2 H2 s2 → PostB F dp K2 H2 (f d s2) Q E → Q1 d H2) : PostB F dp K H (m s) Q1 E := by
  have h' : PostB F dp K H (M.bind m f s) Q E := h
  unfold M.bind at h'
  cases e : m s with
  | ok d s' =>
    rw [e] at h'
    exact fun K3 H3 g hd => k d K3 H3 s' g hd (PostB.later h0 g hd h')
  | exc c fs s' =>
    rw [e] at h'
    exact h'
  | stuck =>
    rw [e] at h'
    exact h'
theorem PostL.bindB {α : Type} {m : M (List D)} {f : List D → M α} {Q : α → Hp → Prop} {Q1 : List V → Hp → Prop} (h0 : DealOk dp K H s) (h : PostB F dp K H ((m >>= f) s) Q E)
    (k : ∀ v d K2 H2 s2, Gr dp K H K2 H2 → DealOk dp K2 H2 s2 → Reps F K2 v d → PostB F dp K2 H2 (f d s2) Q E → Q1 v H2) : PostL F dp K H (m s) Q1 E := by
  have h' : PostB F dp K H (M.bind m f s) Q E := h
  unfold M.bind at h'
  cases e : m s with
  | ok d s' =>
    rw [e] at h'
    exact fun v K3 H3 g hd r => k v d K3 H3 s' g hd r (PostB.later h0 g hd h')
  | exc c fs s' =>
    rw [e] at h'
    exact h'
  | stuck =>
    rw [e] at h'
    exact h'
end
end T
end
section
set_option Elab.async false
set_option linter.all false
set_option maxRecDepth 100000
set_option maxHeartbeats 4000000
namespace T
open PySem PySem.Spec PyProof.Rows L2
abbrev Sg := L2.St
abbrev Env := List (Option D)
abbrev EM := Env → M D
abbrev ET := Env → M Bool
abbrev EA := Env → M (List D)
def sem (X : Cx) (e : Expr) : TE := fun σ H Q => ∀ pins s, Inv X pins σ H s → wpAny (model X.prog X.w) X.A (eval e X.env) (EP X pins σ Q) X.xe s
def semT (X : Cx) (e : Expr) : TT := fun σ H Q => ∀ pins s, Inv X pins σ H s → wpAny (model X.prog X.w) X.A (isTrue e X.env (eval e X.env)) (TP X pins σ Q) X.xe s
def semA (X : Cx) (es : List Expr) : TA := fun σ H Q => ∀ pos pins s, Inv X pins σ H s → wpAny (model X.prog X.w) X.A (spliced (backTo pos (starEach es X.env))) (AP X pins σ Q) X.xe s
theorem pe_sem {X : Cx} {e : Expr} : PE X e (sem X e) := ⟨fun pins s σ H Q I h => h pins s I⟩
theorem pt_sem {X : Cx} {e : Expr} : PT X e (semT X e) := ⟨fun pins s σ H Q I h => h pins s I⟩
theorem pa_sem {X : Cx} {es : List Expr} : PA X es (semA X es) := ⟨fun pos pins s σ H Q I h => h pos pins s I⟩
theorem sem_of {X : Cx} {e : Expr} {t : TE} (h : PE X e t) {σ : Sg} {H : Hp} {Q : VK} (q : t σ H Q) : sem X e σ H Q := fun pins s I => h.run pins s σ H Q I q
theorem semT_of {X : Cx} {e : Expr} {t : TT} (h : PT X e t) {σ : Sg} {H : Hp} {Q : Bool → Hp → Prop} (q : t σ H Q) : semT X e σ H Q := fun pins s I => h.run pins s σ H Q I q
theorem semA_of {X : Cx} {e : List Expr} {t : TA} (h : PA X e t) {σ : Sg} {H : Hp} {Q : List V → Hp → Prop} (q : t σ H Q) : semA X e σ H Q := fun pos pins s I => h.run pos pins s σ H Q I q
def RelE (F : Fg) (σ : Sg) (env : Env) (K : Hp) : Prop := σ.length = env.length ∧ ∀ (i : Nat) (d : D), env[i]? = some (some d) → ∃ v, σ[i]? = some (some v) ∧ Rep F K v d
theorem RelE.mono {F : Fg} {σ : Sg} {env : Env} {K K2 : Hp} (h : RelE F σ env K) (e : Ex K K2) : RelE F σ env K2 :=
  ⟨h.1, fun i d hi => let ⟨v, h1, h2⟩ := h.2 i d hi; ⟨v, h1, h2.mono e⟩⟩
def EvX (X : Cx) (W : WX) (e : Expr) (m : EM) : Prop :=
  ∀ dp σ env K H s, RelE X.K σ env K → Ex K H → DealOk dp K H s → ∀ Q, Post X.K dp K H (m env s) Q (fun c d H => W c d σ H) → sem X e σ H Q
def EvT (X : Cx) (W : WX) (e : Expr) (m : ET) : Prop :=
  ∀ dp σ env K H s, RelE X.K σ env K → Ex K H → DealOk dp K H s → ∀ Q, PostB X.K dp K H (m env s) Q (fun c d H => W c d σ H) → semT X e σ H Q
def EvA (X : Cx) (W : WX) (es : List Expr) (m : EA) : Prop :=
  ∀ dp σ env K H s, RelE X.K σ env K → Ex K H → DealOk dp K H s → ∀ Q, PostL X.K dp K H (m env s) Q (fun c d H => W c d σ H) → semA X es σ H Q
namespace E
def c (d : D) : EM := fun _ => pure d
def v (i : Nat) : EM := fun env => match env[i]? with
  | some (some d) => pure d
  | _ => stuck
def nil : EA := fun _ => pure []
def cons (a : EM) (r : EA) : EA := fun env => a env >>= fun x => r env >>= fun xs => pure (x :: xs)
end E
section
variable {X : Cx} {W : WX}
theorem post_ok {F : Fg} {dp : DP} {K H : Hp} {s : DS} {d : D} {Q : VK} {E : XK} (h : Post F dp K H (.ok d s) Q E) {v : V} (e : Ex K H) (hd : DealOk dp K H s) (r : Rep F K v d) : Q v H := h v K H (Gr.rfl' e) hd r
theorem e_c {e : Expr} {v : V} {d : D} (h : PE X e (tC v)) (r : ∀ K, Rep X.K K v d) : EvX X W e (E.c d) := fun dp σ env K H s hE he hd Q q =>
  sem_of h (post_ok q he hd (r K))
theorem e_int {i : Int} {j : Nat} {pos : Pos} : EvX X W (.Constant (.int i) j pos) (E.c (.int i)) := e_c pe_int fun _ => .int i
theorem e_bl {b : Bool} {j : Nat} {pos : Pos} : EvX X W (.Constant (.bool b) j pos) (E.c (.bl b)) := e_c pe_bl fun _ => .bl b
theorem e_non {j : Nat} {pos : Pos} : EvX X W (.Constant .none j pos) (E.c .non) := e_c pe_non fun _ => .non
theorem e_str {x : Str} {j : Nat} {pos : Pos} : EvX X W (.Constant (.str x) j pos) (E.c (.str x)) := e_c pe_str fun _ => .str x
theorem e_v (i : Nat) {x : Str} {pos : Pos} (hN : X.N[i]? = some x := by rfl) (hv : Vis X.env.scope x := by first | exact Or.inl rfl | exact Or.inr (Or.inl rfl) | exact Or.inr (Or.inr rfl)) (hd : (x == ("__debug__" : Str)) = false := by decide)
    (hcd : (x == ("__classdict__" : Str)) = false := by decide) : EvX X W (.Name x pos) (E.v i) := fun dp σ env K H s hE he hdl Q q => by
  unfold E.v at q
  cases hi : env[i]? with
  | none =>
    simp only [hi] at q
    exact q.elim
  | some o =>
    cases o with
    | none =>
      simp only [hi] at q
      exact q.elim
    | some d =>
      simp only [hi] at q
      obtain ⟨v, h1, h2⟩ := hE.2 i d hi
      exact sem_of (pe_var hN hv hd hcd) ⟨v, h1, post_ok q he hdl h2⟩
theorem ea_nil : EvA X W [] E.nil := fun dp σ env K H s hE he hd Q q => semA_of pa_nil (q [] K H (Gr.rfl' he) hd .nil)
theorem ea_cons {e : Expr} {es : List Expr} {m : EM} {r : EA} (h : EvX X W e m) (hr : EvA X W es r) (hs : starEach (e :: es) X.env = (false, eval e X.env) :: starEach es X.env := by rfl) : EvA X W (e :: es) (E.cons m r) := fun dp σ env K H s hE he hd Q q => by
  refine semA_of (pa_cons (te := sem X e) (t := semA X es) pe_sem pa_sem hs) ?_
  refine h dp σ env K H s hE he hd _ (Post.bindL hd q fun v d K2 H2 s2 g2 hd2 r2 q2 => ?_)
  refine hr dp σ env K2 H2 s2 (hE.mono g2.kk) g2.sub hd2 _ (PostL.bindL hd2 q2 fun vs ds K3 H3 s3 g3 hd3 r3 q3 => ?_)
  exact q3 (v :: vs) K3 H3 (Gr.rfl' g3.sub) hd3 (.cons (r2.mono g3.kk) r3)
def Op1X (X : Cx) (W : WX) (f : Value → Sem Value) (g : D → M D) : Prop :=
  ∀ (dp : DP) (σ : Sg) (K H : Hp) (s : DS) (v : V) (x : D) (Q : VK), Ex K H → DealOk dp K H s → Rep X.K K v x → Post X.K dp K H (g x s) Q (fun c d H => W c d σ H) →
    ∀ (pins : List (Addr × Obj)) (sh : Shared) (u : Value), Inv X pins σ H sh → RelV v u → wpAny (model X.prog X.w) X.A (f u) (EP X pins σ Q) X.xe sh
def Op2X (X : Cx) (W : WX) (f : Value → Value → Sem Value) (g : D → D → M D) : Prop :=
  ∀ (dp : DP) (σ : Sg) (K H : Hp) (s : DS) (v w : V) (x y : D) (Q : VK), Ex K H → DealOk dp K H s → Rep X.K K v x → Rep X.K K w y → Post X.K dp K H (g x y s) Q (fun c d H => W c d σ H) →
    ∀ (pins : List (Addr × Obj)) (sh : Shared) (u u' : Value), Inv X pins σ H sh → RelV v u → RelV w u' → wpAny (model X.prog X.w) X.A (f u u') (EP X pins σ Q) X.xe sh
def OpLX (X : Cx) (W : WX) (f : List Value → Sem Value) (g : List D → M D) : Prop :=
  ∀ (dp : DP) (σ : Sg) (K H : Hp) (s : DS) (vs : List V) (xs : List D) (Q : VK), Ex K H → DealOk dp K H s → Reps X.K K vs xs → Post X.K dp K H (g xs s) Q (fun c d H => W c d σ H) →
    ∀ (pins : List (Addr × Obj)) (sh : Shared) (us : List Value), Inv X pins σ H sh → Vals vs us → wpAny (model X.prog X.w) X.A (f us) (EP X pins σ Q) X.xe sh
theorem op2x_of {f : Value → Value → Sem Value} {g : D → D → M D} {r : R2} (ho : OpR X f r)
    (hg : ∀ (dp : DP) (K H : Hp) (s : DS) (E : XK) (v w : V) (x y : D) (Q : VK), Ex K H → DealOk dp K H s → Rep X.K K v x → Rep X.K K w y → Post X.K dp K H (g x y s) Q E → r v w H Q) : Op2X X W f g :=
  fun dp σ K H s v w x y Q he hd rx ry q pins sh u u' I ru ru' => ho pins sh σ H v w u u' Q I ru ru' (hg dp K H s _ v w x y Q he hd rx ry q)
theorem op1x_of {f : Value → Sem Value} {g : D → M D} {r : V → Hp → VK → Prop} (ho : UnR X f r)
    (hg : ∀ (dp : DP) (K H : Hp) (s : DS) (E : XK) (v : V) (x : D) (Q : VK), Ex K H → DealOk dp K H s → Rep X.K K v x → Post X.K dp K H (g x s) Q E → r v H Q) : Op1X X W f g :=
  fun dp σ K H s v x Q he hd rx q pins sh u I ru => ho pins sh σ H v u Q I ru (hg dp K H s _ v x Q he hd rx q)
theorem oplx_of {f : Value} {g : List D → M D} {r : List V → Hp → VK → Prop} (ho : CallR X f r)
    (hg : ∀ (dp : DP) (K H : Hp) (s : DS) (E : XK) (vs : List V) (xs : List D) (Q : VK), Ex K H → DealOk dp K H s → Reps X.K K vs xs → Post X.K dp K H (g xs s) Q E → r vs H Q) : OpLX X W (fun us => call f us) g :=
  fun dp σ K H s vs xs Q he hd rx q pins sh us I ru => ho pins sh σ H vs us Q I ru (hg dp K H s _ vs xs Q he hd rx q)
theorem bin_sem {a b : Expr} {ma mb : EM} {f : Value → Value → Sem Value} {g : D → D → M D} (hf : Op2X X W f g) (ha : EvX X W a ma) (hb : EvX X W b mb)
    {dp : DP} {σ : Sg} {env : Env} {K H : Hp} {s : DS} (hE : RelE X.K σ env K) (he : Ex K H) (hd : DealOk dp K H s) {Q : VK} (q : Post X.K dp K H ((ma env >>= fun x => mb env >>= fun y => g x y) s) Q (fun c d H => W c d σ H))
    {pins : List (Addr × Obj)} {sh : Shared} (I : Inv X pins σ H sh) :
    wpAny (model X.prog X.w) X.A (eval a X.env) (fun v s₁ => wpAny (model X.prog X.w) X.A (eval b X.env) (fun u s₂ => wpAny (model X.prog X.w) X.A (f v u) (EP X pins σ Q) X.xe s₂) X.xe s₁) X.xe sh := by
  refine binT (R := fun v w H2 => ∃ (K2 : Hp) (s2 : DS) (x y : D), Ex K2 H2 ∧ DealOk dp K2 H2 s2 ∧ Rep X.K K2 v x ∧ Rep X.K K2 w y ∧ Post X.K dp K2 H2 (g x y s2) Q (fun c d H => W c d σ H)) pe_sem pe_sem I ?_
    (fun v u s2 x y H2 I2 rx ry ⟨K2, t2, dx, dy, e2, d2, r1, r2, q2⟩ => hf dp σ K2 H2 t2 x y dx dy Q e2 d2 r1 r2 q2 pins s2 v u I2 rx ry)
  refine ha dp σ env K H s hE he hd _ (Post.bind hd q fun v d K2 H2 s2 g2 hd2 r2 q2 => ?_)
  refine hb dp σ env K2 H2 s2 (hE.mono g2.kk) g2.sub hd2 _ (Post.bind hd2 q2 fun w d3 K3 H3 s3 g3 hd3 r3 q3 => ?_)
  exact ⟨K3, s3, d, d3, g3.sub, hd3, r2.mono g3.kk, r3, q3⟩
end
namespace E
def op2 (g : D → D → M D) (a b : EM) : EM := fun env => a env >>= fun x => b env >>= fun y => g x y
def op1 (g : D → M D) (a : EM) : EM := fun env => a env >>= fun x => g x
def opL (g : List D → M D) (a : EA) : EM := fun env => a env >>= fun xs => g xs
end E
section
variable {X : Cx} {W : WX}
theorem e_bin {op : Operator} {a b : Expr} {pos : Pos} {ma mb : EM} {g : D → D → M D} (hf : Op2X X W (binaryOp op) g) (ha : EvX X W a ma) (hb : EvX X W b mb) : EvX X W (.BinOp a op b pos) (E.op2 g ma mb) :=
  fun dp σ env K H s hE he hd Q q pins sh I => wpAny_BinOp (bin_sem hf ha hb hE he hd q I)
theorem e_cmp {op : CmpOp} {a b : Expr} {pos : Pos} {ma mb : EM} {g : D → D → M D} (hf : Op2X X W (compareOp op) g) (ha : EvX X W a ma) (hb : EvX X W b mb) (hm : behindInMarks op b = false := by rfl) : EvX X W (.Compare a [op] [b] pos) (E.op2 g ma mb) :=
  fun dp σ env K H s hE he hd Q q pins sh I => wpAny_Compare1 (bin_sem hf ha hb hE he hd q I) hm
theorem e_una {op : UnaryOp} {a : Expr} {pos : Pos} {ma : EM} {g : D → M D} (hf : Op1X X W (unaryOp op) g) (ha : EvX X W a ma) : EvX X W (.UnaryOp op a pos) (E.op1 g ma) :=
  fun dp σ env K H s hE he hd Q q pins sh I => by
    refine UnaryOp_ (thn ((pe_sem (X := X) (e := a)).run pins sh σ H (fun v H2 => ∃ (K2 : Hp) (s2 : DS) (x : D), Ex K2 H2 ∧ DealOk dp K2 H2 s2 ∧ Rep X.K K2 v x ∧ Post X.K dp K2 H2 (g x s2) Q (fun c d H => W c d σ H)) I ?_) fun v s1 ⟨x, H1, I1, r1, K2, t2, dx, e2, d2, rr, q2⟩ => hf dp σ K2 H1 t2 x dx Q e2 d2 rr q2 pins s1 v I1 r1)
    exact ha dp σ env K H s hE he hd _ (Post.bind hd q fun v d K2 H2 s2 g2 hd2 r2 q2 => ⟨K2, s2, d, g2.sub, hd2, r2, q2⟩)
def truth : D → M Bool
  | .non => pure false
  | .bl b => pure b
  | .int i => pure (i != 0)
  | .str x => if x.length ≤ sizeLine then pure ((x.length : Int) != 0) else stuck
  | .tup xs => pure (!xs.isEmpty)
  | .lst xs => pure (!xs.isEmpty)
  | .lsk xs => pure (!xs.isEmpty)
  | _ => stuck
theorem truth_ok {F : Fg} {K H : Hp} {dp : DP} {s : DS} {v : V} {x : D} {Q : Bool → Hp → Prop} {E : XK} (he : Ex K H) (hd : DealOk dp K H s) (r : Rep F K v x) (q : PostB F dp K H (truth x s) Q E) : ∃ k, TruV F v H k ∧ Q k H := by
  cases r with
  | non => exact ⟨false, rfl, q K H (Gr.rfl' he) hd⟩
  | bl b => exact ⟨b, rfl, q K H (Gr.rfl' he) hd⟩
  | int i => exact ⟨i != 0, rfl, q K H (Gr.rfl' he) hd⟩
  | str z =>
    have q' : PostB F dp K H ((if z.length ≤ sizeLine then pure ((z.length : Int) != 0) else stuck : M Bool) s) Q E := q
    by_cases hz : z.length ≤ sizeLine
    · rw [if_pos hz] at q'
      exact ⟨((z.length : Int) != 0), ⟨hz, rfl⟩, q' K H (Gr.rfl' he) hd⟩
    · rw [if_neg hz] at q'
      exact q'.elim
  | @tup a vs ds h rs =>
    refine ⟨!ds.isEmpty, .inr (.inl ⟨vs, sqT_mono he h.sqT, ?_⟩), q K H (Gr.rfl' he) hd⟩
    have := rs.len
    cases vs <;> cases ds <;> simp_all
  | @lst a vs ds h rs =>
    refine ⟨!ds.isEmpty, .inl ⟨vs, .inl (.inl (he _ _ h)), ?_⟩, q K H (Gr.rfl' he) hd⟩
    have := rs.len
    cases vs <;> cases ds <;> simp_all
  | @lsk a vs ds h rs =>
    refine ⟨!ds.isEmpty, .inl ⟨vs, sqL_mono he h, ?_⟩, q K H (Gr.rfl' he) hd⟩
    have := rs.len
    cases vs <;> cases ds <;> simp_all
  | ins _ _ => exact q.elim
  | ref a => exact q.elim
  | exc _ _ => exact q.elim
namespace E
def tru (a : EM) : ET := fun env => a env >>= fun x => truth x
def tnot (a : ET) : ET := fun env => a env >>= fun b => pure (!b)
def tand (a b : ET) : ET := fun env => a env >>= fun x => if x = true then b env else pure false
def tor (a b : ET) : ET := fun env => a env >>= fun x => if x = true then pure true else b env
def isB : D → M Bool
  | .bl b => pure b
  | _ => stuck
def vand (a b : EM) : EM := fun env => a env >>= fun x => isB x >>= fun c => if c = true then b env else pure (.bl false)
def vor (a b : EM) : EM := fun env => a env >>= fun x => isB x >>= fun c => if c = true then pure (.bl true) else b env
def vnot (a : EM) : EM := fun env => a env >>= fun x => isB x >>= fun c => pure (.bl (!c))
def ite (t : ET) (a b : EM) : EM := fun env => t env >>= fun c => if c = true then a env else b env
def tup (a : EA) : EM := fun env => a env >>= fun xs => if xs.length ≤ sizeLine then pure (.tup xs) else stuck
def lst (a : EA) : EM := fun env => a env >>= fun xs => if xs.length ≤ sizeLine then pure (.lst xs) else stuck
end E
theorem t_tru {a : Expr} {ma : EM} (ha : EvX X W a ma) (hp : ∀ whole, isTrue a X.env whole = (do let v ← whole; standAt a.pos; holding [v] (truthy v)) := by intro _; rfl) : EvT X W a (E.tru ma) := fun dp σ env K H s hE he hd Q q => by
  refine semT_of (pt_truth (ta := sem X a) pe_sem hp) ?_
  exact ha dp σ env K H s hE he hd _ (Post.bindB hd q fun v d K2 H2 s2 g2 hd2 r2 q2 => truth_ok g2.sub hd2 r2 q2)
theorem t_cmp {op : CmpOp} {a b : Expr} {pos : Pos} {ma mb : EM} {g : D → D → M D} (hf : Op2X X W (compareOp op) g) (ha : EvX X W a ma) (hb : EvX X W b mb) (hm : behindInMarks op b = false := by rfl) : EvT X W (.Compare a [op] [b] pos) (E.tru (E.op2 g ma mb)) :=
  fun dp σ env K H s hE he hd Q q pins sh I => by
    have z := bin_sem (Q := fun v H2 => ∃ k, TruV X.K v H2 k ∧ Q k H2) hf ha hb hE he hd (Post.bindB hd q fun v d K2 H2 s2 g2 hd2 r2 q2 => truth_ok g2.sub hd2 r2 q2) I
    refine wpAny_isTrue_Compare1 (thn z fun v s1 h1 => thn h1 fun u s2 h2 => thn h2 fun c s3 ⟨z, H3, I3, r3, k, tk, q3⟩ => ?_) hm
    exact tru_ok pins s3 σ H3 z c Q I3 r3 ⟨k, tk, q3⟩
theorem t_not {a : Expr} {pos : Pos} {ma : ET} (ha : EvT X W a ma) : EvT X W (.UnaryOp .Not a pos) (E.tnot ma) := fun dp σ env K H s hE he hd Q q => by
  refine semT_of (pt_not (tA := semT X a) pt_sem) ?_
  exact ha dp σ env K H s hE he hd _ (PostB.bindB hd q fun d K2 H2 s2 g2 hd2 q2 => q2 K2 H2 (Gr.rfl' g2.sub) hd2)
def EvW (X : Cx) (W : WX) (e : Expr) (m : ET) : Prop :=
  ∀ dp σ env K H s, RelE X.K σ env K → Ex K H → DealOk dp K H s → ∀ Q, PostB X.K dp K H (m env s) Q (fun c d H => W c d σ H) → ∀ whole pins sh, Inv X pins σ H sh → wpAny (model X.prog X.w) X.A (isTrue e X.env whole) (TP X pins σ Q) X.xe sh
theorem EvW.t {e : Expr} {m : ET} (h : EvW X W e m) : EvT X W e m := fun dp σ env K H s hE he hd Q q pins sh I => h dp σ env K H s hE he hd Q q _ pins sh I
def semW (X : Cx) (e : Expr) : TT := fun σ H Q => ∀ whole pins s, Inv X pins σ H s → wpAny (model X.prog X.w) X.A (isTrue e X.env whole) (TP X pins σ Q) X.xe s
theorem pw_sem {e : Expr} : PW X e (semW X e) := ⟨fun wh pins s σ H Q I h => h wh pins s I⟩
theorem w_and1 {a : Expr} {pos : Pos} {ma : ET} (ha : EvT X W a ma) : EvW X W (.BoolOp .And [a] pos) ma := fun dp σ env K H s hE he hd Q q whole pins sh I =>
  (pw_and1 (tA := semT X a) pt_sem).run whole pins sh σ H Q I (ha dp σ env K H s hE he hd Q q)
theorem w_or1 {a : Expr} {pos : Pos} {ma : ET} (ha : EvT X W a ma) : EvW X W (.BoolOp .Or [a] pos) ma := fun dp σ env K H s hE he hd Q q whole pins sh I =>
  (pw_or1 (tA := semT X a) pt_sem).run whole pins sh σ H Q I (ha dp σ env K H s hE he hd Q q)
theorem w_and {a b : Expr} {rest : List Expr} {pos : Pos} {ma mb : ET} (ha : EvT X W a ma) (hb : EvW X W (.BoolOp .And (b :: rest) pos) mb) : EvW X W (.BoolOp .And (a :: b :: rest) pos) (E.tand ma mb) := fun dp σ env K H s hE he hd Q q whole pins sh I => by
  refine (pw_and (tA := semT X a) (tB' := semW X _) pt_sem pw_sem).run whole pins sh σ H Q I ?_
  refine ha dp σ env K H s hE he hd _ (PostB.bindB hd q fun d K2 H2 s2 g2 hd2 q2 => ?_)
  cases d with
  | true => exact hb dp σ env K2 H2 s2 (hE.mono g2.kk) g2.sub hd2 Q q2
  | false => exact q2 K2 H2 (Gr.rfl' g2.sub) hd2
theorem w_or {a b : Expr} {rest : List Expr} {pos : Pos} {ma mb : ET} (ha : EvT X W a ma) (hb : EvW X W (.BoolOp .Or (b :: rest) pos) mb) : EvW X W (.BoolOp .Or (a :: b :: rest) pos) (E.tor ma mb) := fun dp σ env K H s hE he hd Q q whole pins sh I => by
  refine (pw_or (tA := semT X a) (tB' := semW X _) pt_sem pw_sem).run whole pins sh σ H Q I ?_
  refine ha dp σ env K H s hE he hd _ (PostB.bindB hd q fun d K2 H2 s2 g2 hd2 q2 => ?_)
  cases d with
  | true => exact q2 K2 H2 (Gr.rfl' g2.sub) hd2
  | false => exact hb dp σ env K2 H2 s2 (hE.mono g2.kk) g2.sub hd2 Q q2
theorem isB_ok {F : Fg} {K H : Hp} {dp : DP} {s : DS} {v : V} {x : D} {f : Bool → M D} {Q : VK} {EE : XK} (r : Rep F K v x) (q : Post F dp K H ((E.isB x >>= f) s) Q EE) : ∃ c, v = .bl c ∧ Post F dp K H (f c s) Q EE := by
  cases r with
  | bl b => exact ⟨b, rfl, q⟩
  | _ => exact q.elim
theorem e_one {op : BoolOp} {a : Expr} {pos : Pos} {ma : EM} (ha : EvX X W a ma) : EvX X W (.BoolOp op [a] pos) ma := fun dp σ env K H s hE he hd Q q => sem_of (pe_one (t := sem X a) pe_sem) (ha dp σ env K H s hE he hd Q q)
theorem e_and {a b : Expr} {rest : List Expr} {pos : Pos} {ma mb : EM} (ha : EvX X W a ma) (hb : EvX X W (.BoolOp .And (b :: rest) pos) mb) : EvX X W (.BoolOp .And (a :: b :: rest) pos) (E.vand ma mb) := fun dp σ env K H s hE he hd Q q => by
  refine sem_of (pe_and (ta := sem X a) (tb := sem X _) pe_sem pe_sem) ?_
  refine ha dp σ env K H s hE he hd _ (Post.bind hd q fun v d K2 H2 s2 g2 hd2 r2 q2 => ?_)
  obtain ⟨c, rfl, q3⟩ := isB_ok r2 q2
  refine ⟨c, rfl, ?_⟩
  cases c with
  | true => exact hb dp σ env K2 H2 s2 (hE.mono g2.kk) g2.sub hd2 Q q3
  | false => exact post_ok q3 g2.sub hd2 (.bl false)
theorem e_or {a b : Expr} {rest : List Expr} {pos : Pos} {ma mb : EM} (ha : EvX X W a ma) (hb : EvX X W (.BoolOp .Or (b :: rest) pos) mb) : EvX X W (.BoolOp .Or (a :: b :: rest) pos) (E.vor ma mb) := fun dp σ env K H s hE he hd Q q => by
  refine sem_of (pe_or (ta := sem X a) (tb := sem X _) pe_sem pe_sem) ?_
  refine ha dp σ env K H s hE he hd _ (Post.bind hd q fun v d K2 H2 s2 g2 hd2 r2 q2 => ?_)
  obtain ⟨c, rfl, q3⟩ := isB_ok r2 q2
  refine ⟨c, rfl, ?_⟩
  cases c with
  | true => exact post_ok q3 g2.sub hd2 (.bl true)
  | false => exact hb dp σ env K2 H2 s2 (hE.mono g2.kk) g2.sub hd2 Q q3
theorem e_not {a : Expr} {pos : Pos} {ma : EM} (ha : EvX X W a ma) : EvX X W (.UnaryOp .Not a pos) (E.vnot ma) := fun dp σ env K H s hE he hd Q q => by
  refine sem_of (pe_not (ta := sem X a) pe_sem) ?_
  refine ha dp σ env K H s hE he hd _ (Post.bind hd q fun v d K2 H2 s2 g2 hd2 r2 q2 => ?_)
  obtain ⟨c, rfl, q3⟩ := isB_ok r2 q2
  exact ⟨c, rfl, post_ok q3 g2.sub hd2 (.bl _)⟩
theorem e_ite {c a b : Expr} {pos : Pos} {mc : ET} {ma mb : EM} (hc : EvT X W c mc) (ha : EvX X W a ma) (hb : EvX X W b mb) : EvX X W (.IfExp c a b pos) (E.ite mc ma mb) := fun dp σ env K H s hE he hd Q q => by
  refine sem_of (pe_ifExp (tA := semT X c) (ta := sem X a) (tb := sem X b) pt_sem pe_sem pe_sem) ?_
  refine hc dp σ env K H s hE he hd _ (PostB.bind hd q fun d K2 H2 s2 g2 hd2 q2 => ?_)
  cases d with
  | true => exact ha dp σ env K2 H2 s2 (hE.mono g2.kk) g2.sub hd2 Q q2
  | false => exact hb dp σ env K2 H2 s2 (hE.mono g2.kk) g2.sub hd2 Q q2
theorem post_new {F : Fg} {dp : DP} {K H : Hp} {s : DS} {d : D} {Q : VK} {E : XK} (h : Post F dp K H (.ok d s) Q E) {p : Addr} {o : HO} (he : Ex K H) (hd : DealOk dp K H s) (hp : H p = none) (r : Rep F (upd K p o) (.ref p) d) : Q (.ref p) (upd H p o) := by
  have g : Gr dp K H (upd K p o) (upd H p o) := Gr.add he hp
  exact h _ _ _ g (g.deal hd (ex_upd hp)) r
theorem rep_lst {F : Fg} {dp : DP} {K H : Hp} {p : Addr} {vs : List V} {ds : List D} (he : Ex K H) (hp : H p = none) (r : Reps F K vs ds) : Rep F (upd K p (.lst vs)) (.ref p) (.lst ds) :=
  .lst upd_same (r.mono (Gr.add (dp := dp0) he hp).kk)
theorem rep_tup {F : Fg} {dp : DP} {K H : Hp} {p : Addr} {vs : List V} {ds : List D} {o : Obj} (ho : o.dict = none) (he : Ex K H) (hp : H p = none) (r : Reps F K vs ds) : Rep F (upd K p (.frz o (.tup vs))) (.ref p) (.tup ds) :=
  .tup (.inl ⟨o, upd_same, ho⟩) (r.mono (Gr.add (dp := dp0) he hp).kk)
theorem e_tup {es : List Expr} {k : Nat} {pos : Pos} {ma : EA} (ha : EvA X W es ma) : EvX X W (.Tuple es k pos) (E.tup ma) := fun dp σ env K H s hE he hd Q q => by
  refine sem_of (pe_tupN (t := semA X es) pa_sem) ?_
  refine ha dp σ env K H s hE he hd _ (PostL.bind hd q fun vs ds K2 H2 s2 g2 hd2 r2 q2 => ?_)
  by_cases hz : ds.length ≤ sizeLine
  · rw [if_pos hz] at q2
    exact ⟨by rw [r2.len]; exact hz, fun p o hp ho => post_new q2 g2.sub hd2 hp (rep_tup (dp := dp0) ho g2.sub hp r2)⟩
  · rw [if_neg hz] at q2
    exact q2.elim
theorem e_lst {es : List Expr} {pos : Pos} {ma : EA} (ha : EvA X W es ma) : EvX X W (.List es pos) (E.lst ma) := fun dp σ env K H s hE he hd Q q => by
  refine sem_of (pe_lst (t := semA X es) pa_sem) ?_
  refine ha dp σ env K H s hE he hd _ (PostL.bind hd q fun vs ds K2 H2 s2 g2 hd2 r2 q2 => ?_)
  by_cases hz : ds.length ≤ sizeLine
  · rw [if_pos hz] at q2
    exact ⟨by rw [r2.len]; exact hz, fun p hp => post_new q2 g2.sub hd2 hp (rep_lst (dp := dp0) g2.sub hp r2)⟩
  · rw [if_neg hz] at q2
    exact q2.elim
end
end T
end
section
set_option Elab.async false
set_option linter.all false
set_option maxRecDepth 100000
set_option maxHeartbeats 4000000
namespace T
open PySem PySem.Spec PyProof.Rows L2
section
variable {X : Cx} {W : WX}
def dAdd : D → D → M D
  | .int i, .int j => pure (.int (i + j))
  | .int i, .bl k => pure (.int (i + b2i k))
  | .str a, .str b => if a.length + b.length ≤ sizeLine then pure (.str (a ++ b)) else stuck
  | .lst a, .lst b => if a.length + b.length ≤ sizeLine then pure (.lst (a ++ b)) else stuck
  | .tup a, .tup b => if a.length + b.length ≤ sizeLine then pure (.tup (a ++ b)) else stuck
  | _, _ => stuck
abbrev rAddA (F : Fg) : R2 := fun x y H Q => rI0 (fun i j => .int (i + j)) x y H Q ∨ (∃ i k, x = .int i ∧ y = .bl k ∧ Q (.int (i + b2i k)) H) ∨ (∃ i j, x = .str i ∧ y = .str j ∧ i.length + j.length ≤ sizeLine ∧ Q (.str (i ++ j)) H) ∨ rCat x y H Q ∨ rCatN F x y H Q
theorem o_add : Op2X X W (binaryOp .Add) dAdd := by
  refine op2x_of (r := rAddA X.K) (op_add.or (op_add_ib.or (op_add_str.or (op_cat.or op_catN)))) ?_
  intro dp K H s EE v w x y Q he hd rx ry q
  cases rx with
  | int i =>
    cases ry with
    | int j => exact .inl ⟨i, j, rfl, rfl, post_ok q he hd (.int _)⟩
    | bl k => exact .inr (.inl ⟨i, k, rfl, rfl, post_ok q he hd (.int _)⟩)
    | _ => exact q.elim
  | str a =>
    cases ry with
    | str b =>
      have q' : Post X.K dp K H ((if a.length + b.length ≤ sizeLine then pure (.str (a ++ b)) else stuck : M D) s) Q EE := q
      by_cases hz : a.length + b.length ≤ sizeLine
      · rw [if_pos hz] at q'
        exact .inr (.inr (.inl ⟨a, b, rfl, rfl, hz, post_ok q' he hd (.str _)⟩))
      · rw [if_neg hz] at q'
        exact q'.elim
    | _ => exact q.elim
  | @lst l vs ds h rs =>
    cases ry with
    | @lst m ws es h2 rs2 =>
      have q' : Post X.K dp K H ((if ds.length + es.length ≤ sizeLine then pure (.lst (ds ++ es)) else stuck : M D) s) Q EE := q
      by_cases hz : ds.length + es.length ≤ sizeLine
      · rw [if_pos hz] at q'
        exact .inr (.inr (.inr (.inl ⟨l, m, vs, ws, rfl, rfl, he _ _ h, he _ _ h2, by rw [rs.len, rs2.len]; exact hz, fun p hp => post_new q' he hd hp (rep_lst (dp := dp0) he hp (rs.app rs2))⟩)))
      · rw [if_neg hz] at q'
        exact q'.elim
    | _ => exact q.elim
  | @tup l vs ds h rs =>
    cases ry with
    | @tup m ws es h2 rs2 =>
      have q' : Post X.K dp K H ((if ds.length + es.length ≤ sizeLine then pure (.tup (ds ++ es)) else stuck : M D) s) Q EE := q
      by_cases hz : ds.length + es.length ≤ sizeLine
      · rw [if_pos hz] at q'
        refine .inr (.inr (.inr (.inr ⟨l, m, vs, ws, rfl, rfl, sqT_mono he h.sqT, sqT_mono he h2.sqT, by rw [rs.len, rs2.len]; exact hz, fun e => ?_, fun _ e => ?_, fun _ _ p o hp ho => post_new q' he hd hp (rep_tup (dp := dp0) ho he hp (rs.app rs2))⟩)))
        · subst e
          cases rs
          exact post_ok q' he hd (.tup h2 rs2)
        · subst e
          cases rs2
          exact post_ok q' he hd (.tup h (by rw [List.append_nil]; exact rs))
      · rw [if_neg hz] at q'
        exact q'.elim
    | _ => exact q.elim
  | _ => cases ry <;> exact q.elim
def dII (C : Int → Int → Prop) [∀ i j, Decidable (C i j)] (g : Int → Int → D) : D → D → M D
  | .int i, .int j => if C i j then pure (g i j) else stuck
  | _, _ => stuck
theorem o_II {f : Value → Value → Sem Value} {C : Int → Int → Prop} [∀ i j, Decidable (C i j)] {g : Int → Int → D} {gv : Int → Int → V} (ho : OpR X f (rI C gv)) (hr : ∀ K i j, Rep X.K K (gv i j) (g i j)) : Op2X X W f (dII C g) := by
  refine op2x_of ho ?_
  intro dp K H s EE v w x y Q he hd rx ry q
  cases rx with
  | int i =>
    cases ry with
    | int j =>
      have q' : Post X.K dp K H ((if C i j then pure (g i j) else stuck : M D) s) Q EE := q
      by_cases hz : C i j
      · rw [if_pos hz] at q'
        exact ⟨i, j, rfl, rfl, hz, post_ok q' he hd (hr K i j)⟩
      · rw [if_neg hz] at q'
        exact q'.elim
    | _ => exact q.elim
  | _ => cases ry <;> exact q.elim
def dI0 (g : Int → Int → D) : D → D → M D
  | .int i, .int j => pure (g i j)
  | _, _ => stuck
theorem o_I0 {f : Value → Value → Sem Value} {g : Int → Int → D} {gv : Int → Int → V} (ho : OpR X f (rI0 gv)) (hr : ∀ K i j, Rep X.K K (gv i j) (g i j)) : Op2X X W f (dI0 g) := by
  refine op2x_of ho ?_
  intro dp K H s EE v w x y Q he hd rx ry q
  cases rx with
  | int i =>
    cases ry with
    | int j => exact ⟨i, j, rfl, rfl, post_ok q he hd (hr K i j)⟩
    | _ => exact q.elim
  | _ => cases ry <;> exact q.elim
instance : ∀ i j, Decidable (CDiv i j) := fun i j => by unfold CDiv; infer_instance
instance : ∀ i j, Decidable (CPow i j) := fun i j => by unfold CPow; infer_instance
instance : ∀ i j, Decidable (CMul i j) := fun i j => by unfold CMul; infer_instance
abbrev dSub : D → D → M D := dI0 fun i j => .int (i - j)
abbrev dFdiv : D → D → M D := dII CDiv fun i j => .int (i / j)
abbrev dMod : D → D → M D := dII (fun _ j => 0 < j) fun i j => .int (i % j)
abbrev dPow : D → D → M D := dII CPow fun i j => .int (i ^ j.toNat)
abbrev dLt : D → D → M D := dI0 fun i j => .bl (decide (i < j))
abbrev dLe : D → D → M D := dI0 fun i j => .bl (decide (i ≤ j))
abbrev dGt : D → D → M D := dI0 fun i j => .bl (decide (j < i))
abbrev dGe : D → D → M D := dI0 fun i j => .bl (decide (j ≤ i))
theorem o_sub : Op2X X W (binaryOp .Sub) dSub := o_I0 op_sub fun _ _ _ => .int _
theorem o_fdiv : Op2X X W (binaryOp .FloorDiv) dFdiv := o_II op_fdiv fun _ _ _ => .int _
theorem o_mod : Op2X X W (binaryOp .Mod) dMod := o_II op_mod fun _ _ _ => .int _
theorem o_pow : Op2X X W (binaryOp .Pow) dPow := o_II op_pow fun _ _ _ => .int _
theorem o_lt : Op2X X W (compareOp .Lt) dLt := o_I0 op_lt fun _ _ _ => .bl _
theorem o_le : Op2X X W (compareOp .LtE) dLe := o_I0 op_le fun _ _ _ => .bl _
theorem o_gt : Op2X X W (compareOp .Gt) dGt := o_I0 op_gt fun _ _ _ => .bl _
theorem o_ge : Op2X X W (compareOp .GtE) dGe := o_I0 op_ge fun _ _ _ => .bl _
def dMul : D → D → M D
  | .int i, .int j => if CMul i j then pure (.int (i * j)) else stuck
  | .lst a, .int k => if (-(2 ^ 63) ≤ k ∧ k < 2 ^ 63) ∧ a.length * k.toNat ≤ sizeLine then pure (.lst (List.replicate k.toNat a).flatten) else stuck
  | _, _ => stuck
theorem reps_rep {F : Fg} {K : Hp} {vs : List V} {ds : List D} (r : Reps F K vs ds) : ∀ n : Nat, Reps F K (List.replicate n vs).flatten (List.replicate n ds).flatten
  | 0 => .nil
  | n + 1 => by
    rw [List.replicate_succ, List.replicate_succ, List.flatten_cons, List.flatten_cons]
    exact r.app (reps_rep r n)
theorem o_mul : Op2X X W (binaryOp .Mult) dMul := by
  refine op2x_of (r := fun x y H Q => rI CMul (fun i j => .int (i * j)) x y H Q ∨ rRep x y H Q) (op_mul.or op_rep) ?_
  intro dp K H s EE v w x y Q he hd rx ry q
  cases rx with
  | int i =>
    cases ry with
    | int j =>
      have q' : Post X.K dp K H ((if CMul i j then pure (.int (i * j)) else stuck : M D) s) Q EE := q
      by_cases hz : CMul i j
      · rw [if_pos hz] at q'
        exact .inl ⟨i, j, rfl, rfl, hz, post_ok q' he hd (.int _)⟩
      · rw [if_neg hz] at q'
        exact q'.elim
    | _ => exact q.elim
  | @lst l vs ds h rs =>
    cases ry with
    | int k =>
      have q' : Post X.K dp K H ((if (-(2 ^ 63) ≤ k ∧ k < 2 ^ 63) ∧ ds.length * k.toNat ≤ sizeLine then pure (.lst (List.replicate k.toNat ds).flatten) else stuck : M D) s) Q EE := q
      by_cases hz : (-(2 ^ 63) ≤ k ∧ k < 2 ^ 63) ∧ ds.length * k.toNat ≤ sizeLine
      · rw [if_pos hz] at q'
        refine .inr ⟨l, k, vs, rfl, rfl, he _ _ h, hz.1.1, hz.1.2, by rw [rs.len]; exact hz.2, fun p hp => post_new q' he hd hp (rep_lst (dp := dp0) he hp (reps_rep rs _))⟩
      · rw [if_neg hz] at q'
        exact q'.elim
    | _ => exact q.elim
  | _ => cases ry <;> exact q.elim
def dNeg : D → M D
  | .int i => pure (.int (-i))
  | _ => stuck
theorem o_neg : Op1X X W (unaryOp .USub) dNeg := by
  refine op1x_of un_neg ?_
  intro dp K H s EE v x Q he hd rx q
  cases rx with
  | int i => exact ⟨i, rfl, post_ok q he hd (.int _)⟩
  | _ => exact q.elim
mutual
def pyOf : D → PyData
  | .non => .none
  | .bl b => .bool b
  | .int i => .int i
  | .str x => .str x
  | .tup xs => .tuple (pyOfs xs)
  | .lst xs => .list (pyOfs xs)
  | .lsk xs => .list (pyOfs xs)
  | .ins _ _ => .none
  | .ref _ => .none
  | .exc _ _ _ _ => .none
def pyOfs : List D → List PyData
  | [] => []
  | x :: xs => pyOf x :: pyOfs xs
end
mutual
def plain : D → Bool
  | .non | .bl _ | .int _ | .str _ => true
  | .tup xs => plains xs
  | .lst xs => plains xs
  | .lsk xs => plains xs
  | .ins _ _ => false
  | .ref _ => false
  | .exc _ _ _ _ => false
def plains : List D → Bool
  | [] => true
  | x :: xs => plain x && plains xs
end
mutual
theorem dp_of {F : Fg} {K H : Hp} (he : Ex K H) : ∀ {v : V} {d : D}, Rep F K v d → plain d = true → Dp F H v (pyOf d)
  | _, _, .non, _ => .non
  | _, _, .bl b, _ => .bl b
  | _, _, .int i, _ => .int i
  | _, _, .str x, _ => .str x
  | _, _, .tup h r, p => .tup (sqT_mono he h.sqT) (dps_of he r p)
  | _, _, .lst h r, p => .lst (.inl (.inl (he _ _ h))) (dps_of he r p)
  | _, _, .lsk h r, p => .lst (sqL_mono he h) (dps_of he r p)
  | _, _, .ins _ _, p => by cases p
  | _, _, .ref _, p => by cases p
  | _, _, .exc _ _, p => by cases p
theorem dps_of {F : Fg} {K H : Hp} (he : Ex K H) : ∀ {v : List V} {d : List D}, Reps F K v d → plains d = true → DpAll F H v (pyOfs d)
  | _, _, .nil, _ => .nil
  | _, _, .cons h r, p => .cons (dp_of he h (Bool.and_eq_true_iff.mp p).1) (dps_of he r (Bool.and_eq_true_iff.mp p).2)
end
def okEq (x : D) : Bool := plain x && SeqAt.shaped (pyOf x)
def dEq : D → D → M D := fun x y => if (okEq x && okEq y) = true then pure (.bl (PyData.eqv (pyOf x) (pyOf y))) else stuck
def dNe : D → D → M D := fun x y => if (okEq x && okEq y) = true then pure (.bl (!PyData.eqv (pyOf x) (pyOf y))) else stuck
theorem okEq_ok {x : D} (h : okEq x = true) : plain x = true ∧ SeqAt.shaped (pyOf x) = true := Bool.and_eq_true_iff.mp h
theorem o_eq (hu : X.A.units + 64 < cLine) : Op2X X W (compareOp .Eq) dEq := by
  refine op2x_of (op_eqD hu) ?_
  intro dp K H s EE v w x y Q he hd rx ry q
  have q' : Post X.K dp K H ((if (okEq x && okEq y) = true then pure (.bl (PyData.eqv (pyOf x) (pyOf y))) else stuck : M D) s) Q EE := q
  by_cases hz : (okEq x && okEq y) = true
  · rw [if_pos hz] at q'
    obtain ⟨h1, h2⟩ := Bool.and_eq_true_iff.mp hz
    obtain ⟨p1, s1⟩ := okEq_ok h1
    obtain ⟨p2, s2⟩ := okEq_ok h2
    exact ⟨_, _, dp_of he rx p1, dp_of he ry p2, s1, s2, post_ok q' he hd (.bl _)⟩
  · rw [if_neg hz] at q'
    exact q'.elim
theorem o_ne (hu : X.A.units + 64 < cLine) : Op2X X W (compareOp .NotEq) dNe := by
  refine op2x_of (op_neD hu) ?_
  intro dp K H s EE v w x y Q he hd rx ry q
  have q' : Post X.K dp K H ((if (okEq x && okEq y) = true then pure (.bl (!PyData.eqv (pyOf x) (pyOf y))) else stuck : M D) s) Q EE := q
  by_cases hz : (okEq x && okEq y) = true
  · rw [if_pos hz] at q'
    obtain ⟨h1, h2⟩ := Bool.and_eq_true_iff.mp hz
    obtain ⟨p1, s1⟩ := okEq_ok h1
    obtain ⟨p2, s2⟩ := okEq_ok h2
    exact ⟨_, _, dp_of he rx p1, dp_of he ry p2, s1, s2, post_ok q' he hd (.bl _)⟩
  · rw [if_neg hz] at q'
    exact q'.elim
def dIx : D → D → M D
  | .lst xs, .int i => ofO (atI xs i)
  | .lsk xs, .int i => ofO (atI xs i)
  | .tup xs, .int i => ofO (atI xs i)
  | .str z, .int i => if z.length ≤ sizeLine then (match atI z.cps.toList i with
    | some c => pure (.str ⟨#[c]⟩)
    | none => stuck) else stuck
  | _, _ => stuck
theorem atI_rep {F : Fg} {K : Hp} {vs : List V} {ds : List D} {i : Int} {d : D} (r : Reps F K vs ds) (h : atI ds i = some d) : ∃ v, atI vs i = some v ∧ Rep F K v d := by
  unfold atI at h ⊢
  rw [r.len]
  cases e : ixN ds.length i with
  | none => rw [e] at h; cases h
  | some j =>
    rw [e] at h
    exact r.get h
theorem e_ix {a b : Expr} {pos : Pos} {ma mb : EM} (ha : EvX X W a ma) (hb : EvX X W b mb) (hs : PlainIx b := by exact fun _ _ => rfl) : EvX X W (.Subscript a b pos) (E.op2 dIx ma mb) :=
  fun dp σ env K H s hE he hd Q q pins sh I => by
    refine Subscript_ (bin_sem (f := fun v u => subscriptTail a b v u) (g := dIx) ?_ ha hb hE he hd q I)
    intro dp σ K H s v w x y Q he hd rx ry q pins sh u u' I ru ru'
    cases rx with
    | @lst l vs ds h rs =>
      cases ry with
      | int i =>
        have q' : Post X.K dp K H ((ofO (atI ds i)) s) Q (fun c d H => W c d σ H) := q
        cases hi : atI ds i with
        | none => rw [hi] at q'; exact q'.elim
        | some d =>
          rw [hi] at q'
          obtain ⟨z, hz, rz⟩ := atI_rep rs hi
          exact ix_list a b pins sh σ H _ _ u u' Q I ru ru' ⟨l, vs, i, z, rfl, rfl, .inl (.inl (he _ _ h)), hz, post_ok q' he hd rz⟩ (hs _ _)
      | _ => exact q.elim
    | @lsk l vs ds h rs =>
      cases ry with
      | int i =>
        have q' : Post X.K dp K H ((ofO (atI ds i)) s) Q (fun c d H => W c d σ H) := q
        cases hi : atI ds i with
        | none => rw [hi] at q'; exact q'.elim
        | some d =>
          rw [hi] at q'
          obtain ⟨z, hz, rz⟩ := atI_rep rs hi
          exact ix_list a b pins sh σ H _ _ u u' Q I ru ru' ⟨l, vs, i, z, rfl, rfl, sqL_mono he h, hz, post_ok q' he hd rz⟩ (hs _ _)
      | _ => exact q.elim
    | @tup l vs ds h rs =>
      cases ry with
      | int i =>
        have q' : Post X.K dp K H ((ofO (atI ds i)) s) Q (fun c d H => W c d σ H) := q
        cases hi : atI ds i with
        | none => rw [hi] at q'; exact q'.elim
        | some d =>
          rw [hi] at q'
          obtain ⟨z, hz, rz⟩ := atI_rep rs hi
          exact ix_tup a b pins sh σ H _ _ u u' Q I ru ru' ⟨l, vs, i, z, rfl, rfl, sqT_mono he h.sqT, hz, post_ok q' he hd rz⟩ (hs _ _)
      | _ => exact q.elim
    | str z =>
      cases ry with
      | int i =>
        have q' : Post X.K dp K H ((if z.length ≤ sizeLine then (match atI z.cps.toList i with
          | some c => pure (.str ⟨#[c]⟩)
          | none => stuck) else stuck : M D) s) Q (fun c d H => W c d σ H) := q
        by_cases hz : z.length ≤ sizeLine
        · rw [if_pos hz] at q'
          cases hi : atI z.cps.toList i with
          | none => rw [hi] at q'; exact q'.elim
          | some c =>
            rw [hi] at q'
            exact ix_str a b pins sh σ H _ _ u u' Q I ru ru' ⟨z, i, c, rfl, rfl, hz, hi, post_ok q' he hd (.str _)⟩ (hs _ _)
        · rw [if_neg hz] at q'
          exact q'.elim
      | _ => exact q.elim
    | _ => cases ry <;> exact q.elim
end
end T
end
section
set_option Elab.async false
set_option linter.all false
set_option maxRecDepth 100000
set_option maxHeartbeats 4000000
namespace T
open PySem PySem.Spec PyProof.Rows L2
def semO (X : Cx) (e : Option Expr) : TO := fun σ H Q => ∀ pins s, Inv X pins σ H s → wpAny (model X.prog X.w) X.A (evalPart e X.env) (fun u s' => ∃ o H', Inv X pins σ H' s' ∧ IsPart u o ∧ Q o H') X.xe s
def EvO (X : Cx) (W : WX) (e : Option Expr) (m : Env → M (Option Int)) : Prop :=
  ∀ dp σ env K H s, RelE X.K σ env K → Ex K H → DealOk dp K H s → ∀ Q, PostB X.K dp K H (m env s) Q (fun c d H => W c d σ H) → semO X e σ H Q
namespace E
def p0 : Env → M (Option Int) := fun _ => pure none
def isI : D → M (Option Int)
  | .int i => pure (some i)
  | _ => stuck
def p1 (a : EM) : Env → M (Option Int) := fun env => a env >>= fun x => isI x
end E
def cutD {α : Type} (xs : List α) (lo hi : Option Int) : List α := (xs.drop (HT.sIx xs.length 0 lo)).take (HT.sIx xs.length xs.length hi - HT.sIx xs.length 0 lo)
def dSl (x : D) (lo hi : Option Int) : M D := match x with
  | .lst xs => pure (.lst (cutD xs lo hi))
  | .lsk xs => pure (.lst (cutD xs lo hi))
  | .tup xs => pure (.tup (cutD xs lo hi))
  | .str z => if z.length ≤ sizeLine then pure (.str (cutS z lo hi)) else stuck
  | _ => stuck
def E.sl (a : EM) (lo hi : Env → M (Option Int)) : EM := fun env => a env >>= fun x => lo env >>= fun l => hi env >>= fun h => dSl x l h
section
variable {X : Cx} {W : WX}
theorem po_sem {e : Option Expr} : PO X e (semO X e) := ⟨fun pins s σ H Q I h => h pins s I⟩
theorem p_none : EvO X W none E.p0 := fun dp σ env K H s hE he hd Q q pins sh I => po_none.run pins sh σ H Q I (q K H (Gr.rfl' he) hd)
theorem p_some {e : Expr} {m : EM} (h : EvX X W e m) : EvO X W (some e) (E.p1 m) := fun dp σ env K H s hE he hd Q q pins sh I => by
  refine (po_some (te := sem X e) pe_sem).run pins sh σ H Q I ?_
  refine h dp σ env K H s hE he hd _ (Post.bindB hd q fun v d K2 H2 s2 g2 hd2 r2 q2 => ?_)
  cases r2 with
  | int i => exact ⟨i, rfl, q2 K2 H2 (Gr.rfl' g2.sub) hd2⟩
  | _ => exact q2.elim
theorem cutD_reps {F : Fg} {K : Hp} {vs : List V} {ds : List D} (r : Reps F K vs ds) (lo hi : Option Int) : Reps F K (cutV vs lo hi) (cutD ds lo hi) := by
  unfold cutV cutD
  rw [r.len]
  exact (r.drop _).take _
theorem cut_all {α : Type} (xs : List α) (lo hi : Option Int) (h : HT.sIx xs.length 0 lo = 0 ∧ HT.sIx xs.length xs.length hi = xs.length) : cutD xs lo hi = xs := by
  unfold cutD
  rw [h.1, h.2]
  simp
theorem e_sl {a : Expr} {lo hi : Option Expr} {p2 pos : Pos} {ma : EM} {ml mh : Env → M (Option Int)} (ha : EvX X W a ma) (hl : EvO X W lo ml) (hh : EvO X W hi mh) : EvX X W (.Subscript a (.Slice lo hi none p2) pos) (E.sl ma ml mh) :=
  fun dp σ env K H s hE he hd Q q => by
    refine sem_of (pe_slice (te := sem X a) (tl := semO X lo) (th := semO X hi) (sl_list.or (sl_tupN.or sl_str)) pe_sem po_sem po_sem) ?_
    refine ha dp σ env K H s hE he hd _ (Post.bind hd q fun v d K2 H2 s2 g2 hd2 r2 q2 => ?_)
    refine hl dp σ env K2 H2 s2 (hE.mono g2.kk) g2.sub hd2 _ (PostB.bind hd2 q2 fun l K3 H3 s3 g3 hd3 q3 => ?_)
    refine hh dp σ env K3 H3 s3 ((hE.mono g2.kk).mono g3.kk) g3.sub hd3 _ (PostB.bind hd3 q3 fun h K4 H4 s4 g4 hd4 q4 => ?_)
    have r4 := (r2.mono g3.kk).mono g4.kk
    cases r4 with
    | @lst b vs ds h0 rs => exact .inl ⟨b, vs, rfl, .inl (.inl (g4.sub _ _ h0)), fun p hp => post_new q4 g4.sub hd4 hp (rep_lst (dp := dp0) g4.sub hp (cutD_reps rs l h))⟩
    | @lsk b vs ds h0 rs => exact .inl ⟨b, vs, rfl, sqL_mono g4.sub h0, fun p hp => post_new q4 g4.sub hd4 hp (rep_lst (dp := dp0) g4.sub hp (cutD_reps rs l h))⟩
    | @tup b vs ds h0 rs =>
      refine .inr (.inl ⟨b, vs, rfl, sqT_mono g4.sub h0.sqT, fun e => ?_, fun _ p o hp ho => post_new q4 g4.sub hd4 hp (rep_tup (dp := dp0) ho g4.sub hp (cutD_reps rs l h))⟩)
      rw [rs.len] at e
      have q5 : Post X.K dp K4 H4 (.ok (.tup (cutD ds l h)) s4) Q (fun c d H => W c d σ H) := q4
      rw [cut_all ds l h e] at q5
      exact post_ok q5 g4.sub hd4 (.tup h0 rs)
    | str z =>
      have q5 : Post X.K dp K4 H4 ((if z.length ≤ sizeLine then pure (.str (cutS z l h)) else stuck : M D) s4) Q (fun c d H => W c d σ H) := q4
      by_cases hz : z.length ≤ sizeLine
      · rw [if_pos hz] at q5
        exact .inr (.inr ⟨z, rfl, hz, post_ok q5 g4.sub hd4 (.str _)⟩)
      · rw [if_neg hz] at q5
        exact q5.elim
    | _ => exact q4.elim
def dRev : D → M D
  | .lst xs => pure (.lst xs.reverse)
  | .lsk xs => pure (.lst xs.reverse)
  | _ => stuck
theorem e_rev {a : Expr} {k : Nat} {p1 p2 p3 pos : Pos} {ma : EM} (ha : EvX X W a ma) : EvX X W (.Subscript a (.Slice none none (some (.UnaryOp .USub (.Constant (.int 1) k p1) p2)) p3) pos) (E.op1 dRev ma) :=
  fun dp σ env K H s hE he hd Q q => by
    refine sem_of (pe_revL (te := sem X a) pe_sem) ?_
    refine ha dp σ env K H s hE he hd _ (Post.bind hd q fun v d K2 H2 s2 g2 hd2 r2 q2 => ?_)
    cases r2 with
    | @lst b vs ds h0 rs => exact ⟨b, vs, rfl, .inl (.inl (g2.sub _ _ h0)), fun p hp => post_new q2 g2.sub hd2 hp (rep_lst (dp := dp0) g2.sub hp rs.rev)⟩
    | @lsk b vs ds h0 rs => exact ⟨b, vs, rfl, sqL_mono g2.sub h0, fun p hp => post_new q2 g2.sub hd2 hp (rep_lst (dp := dp0) g2.sub hp rs.rev)⟩
    | _ => exact q2.elim
theorem e_blt {x : Str} {id : String} {e : Expr} {es : List Expr} {p pos : Pos} {ma : EA} {g : List D → M D} (hf : OpLX X W (fun us => call (.builtin id) us) g) (hg : Gl X x) (hm : X.mg x = none) (hv : bootBuiltins x = some (.builtin id)) (ha : EvA X W (e :: es) ma)
    (hn : x ≠ "__name__" := by decide) (hdb : (x == ("__debug__" : Str)) = false := by decide) (he : starEach (e :: es) X.env = (false, eval e X.env) :: starEach es X.env := by rfl) (hpl : (backTo pos (starEach es X.env)).any (·.1) = false := by rfl) :
    EvX X W (.Call (.Name x p) (e :: es) [] pos) (E.opL g ma) := fun dp σ env K H s hE heK hd Q q pins sh I => by
  refine wpAny_Call_Name_kw (ld_blt I hg hm hv ?_ hn hdb)
  refine PyProof.Rows.callWith_builtin1 (thn (ha dp σ env K H s hE heK hd (fun vs H2 => ∃ (K2 : Hp) (s2 : DS) (xs : List D), Ex K2 H2 ∧ DealOk dp K2 H2 s2 ∧ Reps X.K K2 vs xs ∧ Post X.K dp K2 H2 (g xs s2) Q (fun c d H => W c d σ H)) ?_ pos pins sh I) fun us s1 ⟨vs, H1, I1, r1, K2, s2, xs, e2, d2, rs, q2⟩ => hf dp σ K2 H1 s2 vs xs Q e2 d2 rs q2 pins s1 us I1 r1) he hpl
  exact PostL.bind hd q fun vs ds K2 H2 s2 g2 hd2 r2 q2 => ⟨K2, s2, ds, g2.sub, hd2, r2, q2⟩
theorem e_ty {x : Str} {ty : String} {e : Expr} {es : List Expr} {p pos : Pos} {ma : EA} {g : List D → M D} (hf : OpLX X W (fun us => call (.type ty) us) g) (hg : Gl X x) (hm : X.mg x = none) (hv : bootBuiltins x = some (.type ty)) (ha : EvA X W (e :: es) ma)
    (hn : x ≠ "__name__" := by decide) (hdb : (x == ("__debug__" : Str)) = false := by decide) (he : starEach (e :: es) X.env = (false, eval e X.env) :: starEach es X.env := by rfl) (hpl : (backTo pos (starEach es X.env)).any (·.1) = false := by rfl) :
    EvX X W (.Call (.Name x p) (e :: es) [] pos) (E.opL g ma) := fun dp σ env K H s hE heK hd Q q pins sh I => by
  refine wpAny_Call_Name_kw (ld_blt I hg hm hv ?_ hn hdb)
  refine PyProof.Rows.callWith_type1 (thn (ha dp σ env K H s hE heK hd (fun vs H2 => ∃ (K2 : Hp) (s2 : DS) (xs : List D), Ex K2 H2 ∧ DealOk dp K2 H2 s2 ∧ Reps X.K K2 vs xs ∧ Post X.K dp K2 H2 (g xs s2) Q (fun c d H => W c d σ H)) ?_ pos pins sh I) fun us s1 ⟨vs, H1, I1, r1, K2, s2, xs, e2, d2, rs, q2⟩ => hf dp σ K2 H1 s2 vs xs Q e2 d2 rs q2 pins s1 us I1 r1) he hpl
  exact PostL.bind hd q fun vs ds K2 H2 s2 g2 hd2 r2 q2 => ⟨K2, s2, ds, g2.sub, hd2, r2, q2⟩
def dLen : List D → M D
  | [.lst xs] => pure (.int xs.length)
  | [.lsk xs] => pure (.int xs.length)
  | [.tup xs] => pure (.int xs.length)
  | [.str z] => if z.length ≤ sizeLine then pure (.int z.length) else stuck
  | _ => stuck
theorem c_len : OpLX X W (fun us => call (.builtin "len") us) dLen := by
  refine oplx_of call_len ?_
  intro dp K H s EE vs xs Q he hd rs q
  match xs, rs, q with
  | [], _, q => exact q.elim
  | _ :: _ :: _, .cons r _, q => cases r <;> exact q.elim
  | [d], .cons (v := v) r .nil, q =>
    cases r with
    | @lst a vs ds h rs => exact ⟨_, vs.length, rfl, .inl ⟨_, .inl (.inl (he _ _ h)), rfl⟩, by rw [rs.len]; exact post_ok q he hd (.int _)⟩
    | @lsk a vs ds h rs => exact ⟨_, vs.length, rfl, .inl ⟨_, sqL_mono he h, rfl⟩, by rw [rs.len]; exact post_ok q he hd (.int _)⟩
    | @tup a vs ds h rs => exact ⟨_, vs.length, rfl, .inr ⟨_, sqT_mono he h.sqT, rfl⟩, by rw [rs.len]; exact post_ok q he hd (.int _)⟩
    | str z =>
      have q' : Post X.K dp K H ((if z.length ≤ sizeLine then pure (.int z.length) else stuck : M D) s) Q EE := q
      by_cases hz : z.length ≤ sizeLine
      · rw [if_pos hz] at q'
        exact ⟨_, z.length, rfl, ⟨hz, rfl⟩, post_ok q' he hd (.int _)⟩
      · rw [if_neg hz] at q'
        exact q'.elim
    | _ => exact q.elim
def dAbs : List D → M D
  | [.int i] => pure (.int (if i < 0 then -i else i))
  | _ => stuck
theorem c_abs : OpLX X W (fun us => call (.builtin "abs") us) dAbs := by
  refine oplx_of call_abs ?_
  intro dp K H s EE vs xs Q he hd rs q
  match xs, rs, q with
  | [], _, q => exact q.elim
  | _ :: _ :: _, .cons r _, q => cases r <;> exact q.elim
  | [d], .cons (v := v) r .nil, q =>
    cases r with
    | int i => exact ⟨i, rfl, post_ok q he hd (.int _)⟩
    | _ => exact q.elim
def dMin2 : List D → M D
  | [.int i, .int j] => pure (.int (if j < i then j else i))
  | _ => stuck
def dMax2 : List D → M D
  | [.int i, .int j] => pure (.int (if j > i then j else i))
  | _ => stuck
theorem c_min2 (hc : X.calm = true) : OpLX X W (fun us => call (.builtin "min") us) dMin2 := by
  refine oplx_of (call_min2 hc) ?_
  intro dp K H s EE vs xs Q he hd rs q
  match xs, rs, q with
  | [], _, q => exact q.elim
  | [_], .cons r _, q => cases r <;> exact q.elim
  | _ :: _ :: _ :: _, .cons r (.cons r2 _), q => cases r <;> first | exact q.elim | (cases r2 <;> exact q.elim)
  | [d, e], .cons (v := v) r (.cons r2 .nil), q =>
    cases r with
    | int i =>
      cases r2 with
      | int j => exact ⟨i, j, rfl, post_ok q he hd (.int _)⟩
      | _ => exact q.elim
    | _ => exact q.elim
theorem c_max2 (hc : X.calm = true) : OpLX X W (fun us => call (.builtin "max") us) dMax2 := by
  refine oplx_of (call_max2 hc) ?_
  intro dp K H s EE vs xs Q he hd rs q
  match xs, rs, q with
  | [], _, q => exact q.elim
  | [_], .cons r _, q => cases r <;> exact q.elim
  | _ :: _ :: _ :: _, .cons r (.cons r2 _), q => cases r <;> first | exact q.elim | (cases r2 <;> exact q.elim)
  | [d, e], .cons (v := v) r (.cons r2 .nil), q =>
    cases r with
    | int i =>
      cases r2 with
      | int j => exact ⟨i, j, rfl, post_ok q he hd (.int _)⟩
      | _ => exact q.elim
    | _ => exact q.elim
def dInt : List D → M D
  | [.int i] => pure (.int i)
  | [.bl k] => pure (.int (if k then 1 else 0))
  | _ => stuck
theorem c_int : OpLX X W (fun us => call (.type "int") us) dInt := by
  refine oplx_of call_int1 ?_
  intro dp K H s EE vs xs Q he hd rs q
  match xs, rs, q with
  | [], _, q => exact q.elim
  | _ :: _ :: _, .cons r _, q => cases r <;> exact q.elim
  | [d], .cons (v := v) r .nil, q =>
    cases r with
    | int i => exact .inl ⟨i, rfl, post_ok q he hd (.int _)⟩
    | bl k => exact .inr ⟨k, rfl, post_ok q he hd (.int _)⟩
    | _ => exact q.elim
def dTuple : List D → M D
  | [.lst xs] => pure (.tup xs)
  | [.lsk xs] => pure (.tup xs)
  | [.tup xs] => pure (.tup xs)
  | _ => stuck
theorem c_tuple : OpLX X W (fun us => call (.type "tuple") us) dTuple := by
  refine oplx_of call_tuple_N ?_
  intro dp K H s EE vs xs Q he hd rs q
  match xs, rs, q with
  | [], _, q => exact q.elim
  | _ :: _ :: _, .cons r _, q => cases r <;> exact q.elim
  | [d], .cons (v := v) r .nil, q =>
    cases r with
    | @lst a vs ds h rs => exact ⟨_, _, rfl, .inl ⟨.inl (.inl (he _ _ h)), fun p o hp ho => post_new q he hd hp (rep_tup (dp := dp0) ho he hp rs)⟩⟩
    | @lsk a vs ds h rs => exact ⟨_, _, rfl, .inl ⟨sqL_mono he h, fun p o hp ho => post_new q he hd hp (rep_tup (dp := dp0) ho he hp rs)⟩⟩
    | @tup a vs ds h rs => exact ⟨_, _, rfl, .inr ⟨sqT_mono he h.sqT, post_ok q he hd (.tup h rs)⟩⟩
    | _ => exact q.elim
def dList : List D → M D
  | [.lst xs] => pure (.lst xs)
  | [.lsk xs] => pure (.lst xs)
  | [.tup xs] => pure (.lst xs)
  | _ => stuck
theorem c_list : OpLX X W (fun us => call (.type "list") us) dList := by
  refine oplx_of call_list_of ?_
  intro dp K H s EE vs xs Q he hd rs q
  match xs, rs, q with
  | [], _, q => exact q.elim
  | _ :: _ :: _, .cons r _, q => cases r <;> exact q.elim
  | [d], .cons (v := v) r .nil, q =>
    cases r with
    | @lst a vs ds h rs => exact ⟨_, _, rfl, .inl (.inl (.inl (he _ _ h))), fun p hp => post_new q he hd hp (rep_lst (dp := dp0) he hp rs)⟩
    | @lsk a vs ds h rs => exact ⟨_, _, rfl, .inl (sqL_mono he h), fun p hp => post_new q he hd hp (rep_lst (dp := dp0) he hp rs)⟩
    | @tup a vs ds h rs => exact ⟨_, _, rfl, .inr (sqT_mono he h.sqT), fun p hp => post_new q he hd hp (rep_lst (dp := dp0) he hp rs)⟩
    | _ => exact q.elim
def intsOf : List D → Option (List Int)
  | [] => some []
  | .int i :: r => (intsOf r).map (i :: ·)
  | _ :: _ => none
theorem intsOf_eq : ∀ {ds : List D} {ns : List Int}, intsOf ds = some ns → ds = ns.map D.int
  | [], ns, h => by cases h; rfl
  | .int i :: r, ns, h => by
    have h' : (intsOf r).map (i :: ·) = some ns := h
    cases e : intsOf r with
    | none => rw [e] at h'; cases h'
    | some ms =>
      rw [e] at h'
      cases h'
      rw [intsOf_eq e]
      rfl
  | .non :: _, _, h => by cases h
  | .bl _ :: _, _, h => by cases h
  | .str _ :: _, _, h => by cases h
  | .tup _ :: _, _, h => by cases h
  | .lst _ :: _, _, h => by cases h
  | .lsk _ :: _, _, h => by cases h
  | .ins _ _ :: _, _, h => by cases h
  | .ref _ :: _, _, h => by cases h
  | .exc _ _ _ _ :: _, _, h => by cases h
theorem intsOf_map : ∀ ns : List Int, intsOf (ns.map D.int) = some ns
  | [] => rfl
  | n :: r => by
    show (intsOf (r.map D.int)).map (n :: ·) = some (n :: r)
    rw [intsOf_map r]
    rfl
def blsOf : List D → Option (List Bool)
  | [] => some []
  | .bl i :: r => (blsOf r).map (i :: ·)
  | _ :: _ => none
theorem blsOf_v {F : Fg} {K : Hp} : ∀ {ds : List D} {vs : List V} {bs : List Bool}, Reps F K vs ds → blsOf ds = some bs → vs = bs.map V.bl
  | [], _, bs, .nil, h => by cases h; rfl
  | .bl i :: r, _, bs, .cons h1 h2, h => by
    have h' : (blsOf r).map (i :: ·) = some bs := h
    cases e : blsOf r with
    | none => rw [e] at h'; cases h'
    | some ms =>
      rw [e] at h'
      cases h'
      cases h1
      rw [blsOf_v h2 e]
      rfl
  | .non :: _, _, _, _, h => by cases h
  | .int _ :: _, _, _, _, h => by cases h
  | .str _ :: _, _, _, _, h => by cases h
  | .tup _ :: _, _, _, _, h => by cases h
  | .lst _ :: _, _, _, _, h => by cases h
  | .lsk _ :: _, _, _, _, h => by cases h
  | .ins _ _ :: _, _, _, _, h => by cases h
  | .ref _ :: _, _, _, _, h => by cases h
  | .exc _ _ _ _ :: _, _, _, _, h => by cases h
theorem blsOf_map : ∀ ns : List Bool, blsOf (ns.map D.bl) = some ns
  | [] => rfl
  | n :: r => by
    show (blsOf (r.map D.bl)).map (n :: ·) = some (n :: r)
    rw [blsOf_map r]
    rfl
def dAll : List D → M D
  | [.lst xs] => match blsOf xs with
    | some bs => pure (.bl (bs.all id))
    | none => stuck
  | _ => stuck
def dAny : List D → M D
  | [.lst xs] => match blsOf xs with
    | some bs => pure (.bl (bs.any id))
    | none => stuck
  | _ => stuck
theorem c_all (hc : X.calm = true) : OpLX X W (fun us => call (.builtin "all") us) dAll := by
  refine oplx_of (cr_all hc) ?_
  intro dp K H s EE vs xs Q he hd rs q
  match xs, rs, q with
  | [], _, q => exact q.elim
  | _ :: _ :: _, .cons r _, q => cases r <;> exact q.elim
  | [d], .cons (v := v) r .nil, q =>
    cases r with
    | @lst a vs ds h rs =>
      have q' : Post X.K dp K H ((match blsOf ds with
        | some bs => pure (.bl (bs.all id))
        | none => stuck : M D) s) Q EE := q
      cases hb : blsOf ds with
      | none => rw [hb] at q'; exact q'.elim
      | some bs =>
        rw [hb] at q'
        exact ⟨a, bs, rfl, .inl (.inl (by rw [← blsOf_v rs hb]; exact he _ _ h)), post_ok q' he hd (.bl _)⟩
    | _ => exact q.elim
theorem c_any (hc : X.calm = true) : OpLX X W (fun us => call (.builtin "any") us) dAny := by
  refine oplx_of (cr_any hc) ?_
  intro dp K H s EE vs xs Q he hd rs q
  match xs, rs, q with
  | [], _, q => exact q.elim
  | _ :: _ :: _, .cons r _, q => cases r <;> exact q.elim
  | [d], .cons (v := v) r .nil, q =>
    cases r with
    | @lst a vs ds h rs =>
      have q' : Post X.K dp K H ((match blsOf ds with
        | some bs => pure (.bl (bs.any id))
        | none => stuck : M D) s) Q EE := q
      cases hb : blsOf ds with
      | none => rw [hb] at q'; exact q'.elim
      | some bs =>
        rw [hb] at q'
        exact ⟨a, bs, rfl, .inl (.inl (by rw [← blsOf_v rs hb]; exact he _ _ h)), post_ok q' he hd (.bl _)⟩
    | _ => exact q.elim
def sortI (ns : List Int) : List Int := ns.mergeSort fun a b => decide (a ≤ b)
theorem sortI_perm (ns : List Int) : (sortI ns).Perm ns := List.mergeSort_perm ns _
theorem sortI_pair (ns : List Int) : (sortI ns).Pairwise (· ≤ ·) := by
  have h := List.pairwise_mergeSort (le := fun a b : Int => decide (a ≤ b)) (fun a b c h1 h2 => by simp at *; omega) (fun a b => by simp; omega) ns
  exact h.imp fun h => by simpa using h
theorem sorted_one : ∀ {xs ys : List Int}, xs.Perm ys → xs.Pairwise (· ≤ ·) → ys.Pairwise (· ≤ ·) → xs = ys := fun {xs ys} p h1 h2 => p.eq_of_pairwise (fun a b _ _ h h' => Int.le_antisymm h h') h1 h2
def dSorted : List D → M D
  | [.lst xs] => match intsOf xs with
    | some ns => pure (.lst ((sortI ns).map D.int))
    | none => stuck
  | _ => stuck
theorem c_sorted : OpLX X W (fun us => call (.builtin "sorted") us) dSorted := by
  refine oplx_of cr_sortedI ?_
  intro dp K H s EE vs xs Q he hd rs q
  match xs, rs, q with
  | [], _, q => exact q.elim
  | _ :: _ :: _, .cons r _, q => cases r <;> exact q.elim
  | [d], .cons (v := v) r .nil, q =>
    cases r with
    | @lst a vs ds h rs =>
      have q' : Post X.K dp K H ((match intsOf ds with
        | some ns => pure (.lst ((sortI ns).map D.int))
        | none => stuck : M D) s) Q EE := q
      cases hb : intsOf ds with
      | none => rw [hb] at q'; exact q'.elim
      | some ns =>
        rw [hb] at q'
        have e := intsOf_eq hb
        subst e
        have ev := Reps.ints_v rs
        subst ev
        refine ⟨a, ns, rfl, .inl (.inl (he _ _ h)), fun ns' p hp hs hn => ?_⟩
        rw [sorted_one (hp.trans (sortI_perm ns).symm) hs (sortI_pair ns)]
        exact post_new q' he hd hn (rep_lst (dp := dp0) he hn Rep.ints)
    | _ => exact q.elim
end
end T
end
section
set_option Elab.async false
set_option linter.all false
set_option maxRecDepth 100000
set_option maxHeartbeats 4000000
namespace PySem.W
open PySem PySem.Calls PyProof.Rows
section
variable {prog : Program} {w : World} {A : Around} {E : Value → Shared → Prop} {s : Shared} {K : Frag} {x C L f : Addr} {h₀ : Heap} {m : Str → Option Value} {ox : Obj} {od : Option Obj} {b tb : Value}
theorem ne_bind (self : Value) : bindSpecial (.builtin "object.__ne__") self = pure (.builtin "object.__ne__", [self]) := PySem.F.slot_tuple_iterator_ne.bind self
theorem ne_plain : F.slot_tuple_iterator_ne.plain = F.slot_tuple_iterator_ne.plain := rfl
theorem neBound_K {M : Model} {args : List Value} {Q : Option Value → Shared → Prop} (X : K.In s.heap) (I : InstAt s.heap x ox C od) (hs : findIn K (.ref C) "__ne__" = some (some (.builtin "object.__ne__")))
    (h : wpAny M A (call (.builtin "object.__ne__") (.ref x :: args)) (fun v => Q (some v)) E s) : wpAny M A (callSpecialIfBound? (.ref x) "__ne__" args) Q E s := by
  simp only [callSpecialIfBound?, bindSpecialIfBound?]
  refine wpAny_holding (wpAny_bind (wpAny_bind (wpAny_bind (I.type.here ((looks_findIn X hs).here ?_)))))
  refine wpAny_bind (wpAny_askSetting (wpAny_ite ?_))
  have fin : wpAny M A (call (.builtin "object.__ne__") ([.ref x] ++ args) >>= fun v => pure (some v)) Q E s := wpAny_bind (wpAny_mono h (fun v s' h' => wpAny_pure h') fun _ _ h' => h')
  rw [ne_bind]
  split
  · exact wpAny_bind (wpAny_pure (wpAny_pure (by exact fin)))
  · exact wpAny_tryCatch (wpAny_bind (wpAny_pure (wpAny_pure (by exact fin))))
theorem ne_K {Q : Value → Shared → Prop} (hu : A.units + 1 < cLine) (F : Fr h₀ L s.heap m) (X₀ : K.In h₀) (I : InstAt s.heap x ox C od) (hb : Looks (model prog w) s.heap (typeOf b) tb) (hn : notFirst K C tb = true)
    (hne : findIn K (.ref C) "__ne__" = some (some (.builtin "object.__ne__"))) (hs : findIn K (.ref C) "__eq__" = some (some (.ref f))) (hf : isFn K (.ref f) = true) (hob : mroIn K C (.type "object") = some true)
    (h : wpAny (model prog w) A.in1 (call (.ref f) [.ref x, b]) (fun v s' => ∃ k, v = .bool k ∧ Q (.bool (!k)) s') E s) : wpAny (model prog w) A (richCompare .NotEq (.ref x) b) Q E s := by
  have X := X₀.keeps F.keep
  have sub : Looks (model prog w) s.heap (isInstance (.ref x) (.type "object")) true := I.type.andThen (looks_mroIn X hob)
  have body : wpAny (model prog w) A.in1 (Builtin.«object.__ne__» ⟨[.ref x, b], []⟩) (fun fin s' => match fin with
      | .done f => wants (fun v s' => Q v s' ∧ ∃ k, v = .bool k) E (.ok f) s'
      | .again c' => c'.quiet = true ∧ codeAny (model prog w) A c' (wants (fun v s' => Q v s' ∧ ∃ k, v = .bool k) E) s') (fun e s' => wants (fun v s' => Q v s' ∧ ∃ k, v = .bool k) E (.error e) s') s := by
    have e1 : wpAny (model prog w) A.in1 (callSpecialIfBound? (.ref x) (Str.ofString "__eq__") [b]) (fun r s' => ∃ k, r = some (.bool k) ∧ Q (.bool (!k)) s') E s :=
      ifBound_K X I hs hf (wpAny_mono h (fun v s' ⟨k, e, q⟩ => ⟨k, by rw [e], q⟩) fun _ _ e => e)
    unfold Builtin.«object.__ne__»
    repeat (first
      | with_reducible refine wpAny_cRoomFor hu ?_
      | (refine wpAny_bind (m := callSpecialIfBound? (.ref x) (Str.ofString "__eq__") [b]) (wpAny_mono e1 (fun r s' hr => by
            obtain ⟨k, rfl, hq⟩ := hr
            repeat (first | exact ⟨hq, _, rfl⟩ | exact wpAny_pure ⟨hq, _, rfl⟩ | (refine wpAny_bind (m := truthy (.bool _)) (wpAny_truthy_bool ?_)) | wp_step)) fun _ _ e => e))
      | wp_step)
  have one : wpAny (model prog w) A (tryCompare (.ref x) "__ne__" b) (fun r s' => ∃ v, r = some v ∧ Q v s') E s := by
    unfold tryCompare
    refine wpAny_bind (neBound_K X I hne (wpAny_mono (wpAny_call (codeAny_call_builtin PySem.F.slot_tuple_iterator_ne.plain PySem.F.cmpEntry_ne (W.check_slot PySem.F.cmpKind_ne PySem.F.cmpSplit_ne sub (PySem.F.cmpArgs_ne _ _) body))) (fun v s' hv => ?_) fun _ _ e => e))
    obtain ⟨hq, k, rfl⟩ := hv
    exact wpAny_pure ⟨_, rfl, hq⟩
  unfold richCompare
  simp only [oneThing_ref]
  refine wpAny_holding (wpAny_bind (wpAny_cRoomFor (by omega) ?_))
  refine wpAny_bind (I.type.here (wpAny_bind (hb.here ?_)))
  split
  · rename_i q
    have e : subIn K tb (.ref C) = some false := by
      rcases Bool.or_eq_true_iff.mp hn with e | e
      · rw [beq_iff_eq.mp e] at q; simp at q
      · exact beq_iff_eq.mp e
    refine wpAny_bind ((looks_subIn X e).here ?_)
    simp only [Bool.false_eq_true, if_false]
    refine wpAny_bind (wpAny_mono one (fun r s' z => ?_) fun _ _ e => e)
    obtain ⟨v, rfl, hq⟩ := z
    exact wpAny_pure hq
  · refine wpAny_bind (wpAny_pure ?_)
    simp only [Bool.false_eq_true, if_false]
    refine wpAny_bind (wpAny_mono one (fun r s' z => ?_) fun _ _ e => e)
    obtain ⟨v, rfl, hq⟩ := z
    exact wpAny_pure hq
end
end PySem.W
end
section
set_option Elab.async false
set_option linter.all false
set_option maxRecDepth 100000
set_option maxHeartbeats 4000000
namespace T
open PySem PySem.Spec PyProof.Rows L2
theorem takesN0 {X : Cx} : L2N.Takes X (fun _ _ _ _ => False) := fun _ _ x => by
  obtain ⟨_, _, _, _, _, _, _, _, _, _, _, _, _, _, _, _, z⟩ := x
  exact z.elim
def spM (F : Fg) (n : Nat) (m : List D → M D) : Sp := fun vs H Q EE => vs.length = n ∧ ∃ (dp : DP) (K : Hp) (ds : List D) (s : DS), Ex K H ∧ DealOk dp K H s ∧ Reps F K vs ds ∧ Post F dp K H (m ds s) Q EE
def PostI (F : Fg) (c : Str) (x : Addr) (dp : DP) (K H0 : Hp) (r : Res (List (Str × D))) (Q : VK) (E : XK) : Prop := match r with
  | .ok fs s => ∀ gs dx K2 H2, Gr dp K H0 K2 H2 → DealOk dp K2 H2 s → H2 x = some (.ins (He.ga F c) dx gs) → K2 x = none → RepF F K2 gs fs → Q .non H2
  | .exc c fs s => ∀ dx gs K2 H2, Gr dp K H0 K2 H2 → DealOk dp K2 H2 s → K2 dx = some (.xd gs) → RepF F K2 gs fs → E (.ref (He.ga F c)) (some dx) H2
  | .stuck => False
def spI (F : Fg) (n : Nat) (c : Str) (m : List D → M (List (Str × D))) : Sp := fun vs H Q EE => vs.length = n + 1 ∧ ∃ (x dx : Addr) (ws : List V) (dp : DP) (K H0 : Hp) (ds : List D) (s : DS), vs = .ref x :: ws ∧
  H0 x = none ∧ H0 dx = none ∧ dx ≠ x ∧ H = upd (upd H0 dx (.own x)) x (.ins (He.ga F c) dx []) ∧ Ex K H0 ∧ DealOk dp K H0 s ∧ Reps F K ws ds ∧ PostI F c x dp K H0 (m ds s) Q EE
section
variable {X : Cx} {W : WX}
theorem run_at {CX : CXT} {k : Nat} {f : Addr} {fd : FuncData} {ps : List Str} {sp : Sp} {dvs : List V} {ds : List Value} {E : XK} {pins : List (Addr × Obj)} {σ : Sg} {H : Hp} {s : Shared} {Q : VK} {us : List Value} {vs : List V}
    (F : FnOk X.prog X.w X.K X.mg X.base CX k f fd ps sp) (hr : Room k X.A) (hb : Binds X.K fd ps ds) (hd : Vals dvs ds) (hx : PassesAt CX X σ E)
    (I : Inv X pins σ H s) (r : Vals vs us) (h : sp (vs ++ dvs) H Q E) : wpAny (model X.prog X.w) X.A (call (.ref f) us) (EP X pins σ Q) X.xe s := by
  have r2 : Vals (vs ++ dvs) (us ++ ds) := r.append hd
  have hl : (us ++ ds).length = ps.length := by rw [← r2.length]; exact F.len _ _ _ _ h
  refine wpAny_call (codeAny_mono (F.run X.A X.stack s H ⟨us, []⟩ (us ++ ds) (vs ++ dvs) Q E hr I.env0 (hb s us I.kIn hl) r2 h) fun r s' hq => ?_)
  cases r with
  | error e => exact hx pins H s e s' I hq
  | ok fl =>
    cases fl with
    | ret u => exact I.after hq
    | next => exact False.elim hq
    | brk => exact False.elim hq
    | cont => exact False.elim hq
theorem run_in {CX : CXT} {k : Nat} {f : Addr} {fd : FuncData} {ps : List Str} {sp : Sp} {E : XK} {pins : List (Addr × Obj)} {σ : Sg} {H : Hp} {s : Shared} {Q : VK} {us : List Value} {vs : List V} {A : Around}
    (F : FnOk X.prog X.w X.K X.mg X.base CX k f fd ps sp) (hr : Room k A) (hA : A.frames = X.A.frames) (hb : Binds X.K fd ps []) (hx : PassesAt CX X σ E)
    (I : Inv X pins σ H s) (r : Vals vs us) (h : sp vs H Q E) : wpAny (model X.prog X.w) A (call (.ref f) us) (EP X pins σ Q) X.xe s := by
  have hl : us.length = ps.length := by rw [← r.length]; exact F.len _ _ _ _ h
  have e0 : Env0 X.prog X.w X.K X.mg X.base A X.stack s H := by
    have e := I.env0
    exact ⟨by rw [hA]; exact e.frames, e.mod, e.bs, e.bsz, e.funs, e.frf, e.hok, e.bare⟩
  refine wpAny_call (codeAny_mono (F.run A X.stack s H ⟨us, []⟩ us vs Q E hr e0 (by
    have := hb s us I.kIn (by simpa using hl)
    simpa using this) r h) fun r s' hq => ?_)
  cases r with
  | error e => exact hx pins H s e s' I hq
  | ok fl =>
    cases fl with
    | ret u => exact I.after hq
    | next => exact False.elim hq
    | brk => exact False.elim hq
    | cont => exact False.elim hq
structure FnI (P : Program) (w : World) (K : Fg) (mg : Str → Option Value) (base : Heap) (k : Nat) (x : Str) (n : Nat) (m : List D → M D) (dfl : List D) : Prop where
  ex : ∃ (f : Addr) (fd : FuncData) (ps : List Str) (ds : List Value) (dvs : List V), FnOk P w K mg base (L2N.CX P w) k f fd ps (spM K n m) ∧ mg x = some (.ref f) ∧ PySem.W.keepIn K (.ref f) = true ∧ Binds K fd ps ds ∧ Vals dvs ds ∧ ∀ Kn, Reps K Kn dvs dfl
end
namespace E
def fn (n : Nat) (m : List D → M D) (dfl : List D) (a : EA) : EM := fun env => a env >>= fun xs => if (xs ++ dfl).length = n then m (xs ++ dfl) else stuck
end E
section
variable {X : Cx} {W : WX}
theorem e_fn {k n : Nat} {x : Str} {m : List D → M D} {dfl : List D} {e : Expr} {es : List Expr} {p pos : Pos} {ma : EA} (Fi : FnI X.prog X.w X.K X.mg X.base k x n m dfl) (hr : Room k X.A) (tk : L2N.Takes X W) (hg : Gl X x) (ha : EvA X W (e :: es) ma)
    (hdb : (x == ("__debug__" : Str)) = false := by decide) (he : starEach (e :: es) X.env = (false, eval e X.env) :: starEach es X.env := by rfl) (hpl : (backTo pos (starEach es X.env)).any (·.1) = false := by rfl) :
    EvX X W (.Call (.Name x p) (e :: es) [] pos) (E.fn n m dfl ma) := fun dp σ env K H s hE heK hd Q q pins sh I => by
  obtain ⟨f, fd, ps, ds, dvs, F, hm, hk, hb, hdv, hdf⟩ := Fi.ex
  refine wpAny_Call_Name_kw (ld_glob I hg hm ?_ hdb)
  refine PySem.W.callWith_K (h₀ := X.base) I.ok.mod.kin hk (thn (ha dp σ env K H s hE heK hd (fun vs H2 => spM X.K n m (vs ++ dvs) H2 Q (WE W σ)) ?_ pos pins sh I) fun us s1 ⟨vs, H1, I1, r1, q1⟩ => ⟨I1.kIn, run_at F hr hb hdv (L2N.passAt tk σ) I1 r1 q1⟩) he hpl
  refine PostL.bind hd q fun vs xs K2 H2 s2 g2 hd2 r2 q2 => ?_
  by_cases hn : (xs ++ dfl).length = n
  · rw [if_pos hn] at q2
    have rr := r2.app (hdf K2)
    exact ⟨by rw [rr.len]; exact hn, dp, K2, xs ++ dfl, s2, g2.sub, hd2, rr, q2⟩
  · rw [if_neg hn] at q2
    exact q2.elim
theorem e_fn0 {k n : Nat} {x : Str} {m : List D → M D} {dfl : List D} {p pos : Pos} (Fi : FnI X.prog X.w X.K X.mg X.base k x n m dfl) (hr : Room k X.A) (tk : L2N.Takes X W) (hg : Gl X x)
    (hdb : (x == ("__debug__" : Str)) = false := by decide) : EvX X W (.Call (.Name x p) [] [] pos) (E.fn n m dfl E.nil) := fun dp σ env K H s hE heK hd Q q pins sh I => by
  obtain ⟨f, fd, ps, ds, dvs, F, hm, hk, hb, hdv, hdf⟩ := Fi.ex
  refine wpAny_Call_Name_kw (ld_glob I hg hm ?_ hdb)
  refine PySem.W.callWith_K0 I.kIn hk (run_at (us := []) (vs := []) F hr hb hdv (L2N.passAt tk σ) I .nil ?_)
  have q2 : Post X.K dp K H ((if ([] ++ dfl).length = n then m ([] ++ dfl) else stuck) s) Q (fun c d H => W c d σ H) := q
  by_cases hn : ([] ++ dfl).length = n
  · rw [if_pos hn] at q2
    have rr : Reps X.K K ([] ++ dvs) ([] ++ dfl) := hdf K
    exact ⟨by rw [rr.len]; exact hn, dp, K, [] ++ dfl, s, heK, hd, rr, q2⟩
  · rw [if_neg hn] at q2
    exact q2.elim
structure Tab where
  cls : Str → Bool
  fld : Str → Str → Bool
  meth : Str → Str → Option (List D → M D)
structure TabOk (P : Program) (w : World) (K : Fg) (mg : Str → Option Value) (base : Heap) (k : Nat) (tb : Tab) : Prop where
  meth : ∀ c m g, tb.meth c m = some g → ∃ (f : Addr) (fd : FuncData) (ps : List Str), Cls K (He.ga K c) ∧ Meth K (He.ga K c) m f ∧ FnOk P w K mg base (L2N.CX P w) k f fd ps (spM K ps.length g) ∧ Binds K fd ps [] ∧ ∀ xs s, xs.length ≠ ps.length → g xs s = .stuck
  fld : ∀ c f, tb.fld c f = true → Cls K (He.ga K c) ∧ NoAttr K (He.ga K c) f
  first : ∀ c, tb.cls c = true → PySem.W.selfFirst K (He.ga K c) = true
  ne : ∀ c, tb.cls c = true → PySem.W.findIn K (.ref (He.ga K c)) "__ne__" = some (some (.builtin "object.__ne__")) ∧ PySem.W.mroIn K (He.ga K c) (.type "object") = some true
end
def dFld (tb : Tab) (f : Str) : D → M D
  | .ins c fs => if tb.fld c f = true then ofO (fs.lookup f) else stuck
  | _ => stuck
def dGet (tb : Tab) (nm : Str) (x : D) : M (List D → M D) := match x with
  | .ins c fs => match fs.lookup nm with
    | some _ => stuck
    | none => match tb.meth c nm with
      | some g => pure g
      | none => stuck
  | _ => stuck
def dMeth (tb : Tab) (nm : Str) (x : D) (r : List D) : M D := dGet tb nm x >>= fun g => g (x :: r)
namespace E
def meth (tb : Tab) (nm : Str) (o : EM) (a : EA) : EM := fun env => o env >>= fun x => dGet tb nm x >>= fun g => a env >>= fun xs => g (x :: xs)
end E
section
variable {X : Cx} {W : WX} {tb : Tab} {k : Nat}
theorem e_fld {e : Expr} {f : Str} {pos : Pos} {ma : EM} (TO : TabOk X.prog X.w X.K X.mg X.base k tb) (ha : EvX X W e ma) (hb : attributeBase e f X.env (eval e X.env) = eval e X.env := by rfl) : EvX X W (.Attribute e f pos) (E.op1 (dFld tb f) ma) :=
  fun dp σ env K H s hE he hd Q q => by
    refine sem_of (pe_fld (ta := sem X e) pe_sem hb) ?_
    refine ha dp σ env K H s hE he hd _ (Post.bind hd q fun v d K2 H2 s2 g2 hd2 r2 q2 => ?_)
    cases r2 with
    | @ins a dx c gs fs h rf =>
      have q3 : Post X.K dp K2 H2 ((if tb.fld c f = true then ofO (fs.lookup f) else stuck : M D) s2) Q (fun c d H => W c d σ H) := q2
      by_cases hf : tb.fld c f = true
      · rw [if_pos hf] at q3
        obtain ⟨h1, h2⟩ := TO.fld c f hf
        cases hl : fs.lookup f with
        | none => rw [hl] at q3; exact q3.elim
        | some z =>
          rw [hl] at q3
          obtain ⟨v, e1, e2⟩ := rf.get hl
          exact ⟨a, _, dx, gs, v, rfl, g2.sub _ _ h, h1, h2, e1, post_ok q3 g2.sub hd2 e2⟩
      · rw [if_neg hf] at q3
        exact q3.elim
    | _ => exact q2.elim
theorem dGet_ok {F : Fg} {dp : DP} {K H : Hp} {nm : Str} {v : V} {x : D} {f : (List D → M D) → M D} {s : DS} {Q : VK} {EE : XK} (rx : Rep F K v x) (q : Post F dp K H ((dGet tb nm x >>= f) s) Q EE) :
    ∃ a dx c gs fs g, v = .ref a ∧ x = .ins c fs ∧ K a = some (.ins (He.ga F c) dx gs) ∧ gs.lookup nm = none ∧ tb.meth c nm = some g ∧ Post F dp K H (f g s) Q EE := by
  cases rx with
  | @ins a dx c gs fs h rf =>
    have q' : Post F dp K H (M.bind (match fs.lookup nm with
      | some _ => stuck
      | none => match tb.meth c nm with
        | some g => pure g
        | none => stuck) f s) Q EE := q
    cases h1 : fs.lookup nm with
    | some z => simp only [h1] at q'; exact q'.elim
    | none =>
      simp only [h1] at q'
      cases h2 : tb.meth c nm with
      | none => simp only [h2] at q'; exact q'.elim
      | some g =>
        simp only [h2] at q'
        exact ⟨a, dx, c, gs, fs, g, rfl, rfl, h, rf.none_ h1, h2, q'⟩
  | _ => exact q.elim
theorem dMeth_ok {F : Fg} {dp : DP} {K H : Hp} {nm : Str} {v : V} {x : D} {r : List D} {s : DS} {Q : VK} {EE : XK} (rx : Rep F K v x) (q : Post F dp K H (dMeth tb nm x r s) Q EE) :
    ∃ a dx c gs fs g, v = .ref a ∧ x = .ins c fs ∧ K a = some (.ins (He.ga F c) dx gs) ∧ gs.lookup nm = none ∧ tb.meth c nm = some g ∧ Post F dp K H (g (x :: r) s) Q EE := dGet_ok (f := fun g => g (x :: r)) rx q
theorem e_meth {pl : Sem Bool} {o e : Expr} {es : List Expr} {nm : Str} {apos pos : Pos} {mo : EM} {ma : EA} (TO : TabOk X.prog X.w X.K X.mg X.base k tb) (hr : Room k X.A) (tk : L2N.Takes X W) (ho : EvX X W o mo) (ha : EvA X W (e :: es) ma)
    (hst : starEach (e :: es) X.env = (false, eval e X.env) :: starEach es X.env := by rfl) (hpl : (backTo pos (starEach es X.env)).any (·.1) = false := by rfl)
    (ht : eval (.Call (.Attribute o nm apos) (e :: es) [] pos) X.env = (do
      let ov ← eval o X.env
      standAt apos.atName
      let (f, first) ← holding [ov] (getMethod ov nm pl)
      callWith pos f first (backTo pos (starEach (e :: es) X.env)) (backToKw pos (keywordEach [] X.env))) := by rfl) :
    EvX X W (.Call (.Attribute o nm apos) (e :: es) [] pos) (E.meth tb nm mo ma) := fun dp σ env K H s hE heK hd Q q pins sh I => by
  refine PySem.W.methodCall_KW (pl := pl) (thn (ho dp σ env K H s hE heK hd (fun x H1 => ∃ a dx c gs f fd ps g, x = .ref a ∧ H1 a = some (.ins (He.ga X.K c) dx gs) ∧ gs.lookup nm = none ∧ Cls X.K (He.ga X.K c) ∧ Meth X.K (He.ga X.K c) nm f ∧ FnOk X.prog X.w X.K X.mg X.base (L2N.CX X.prog X.w) k f fd ps (spM X.K ps.length g) ∧ Binds X.K fd ps [] ∧
      semA X (e :: es) σ H1 fun vs H2 => spM X.K ps.length g (.ref a :: vs) H2 Q (WE W σ)) ?_ pins sh I) fun u s1 ⟨x, H1, I1, rx, a, dx, c, gs, f, fd, ps, g, ex, ea, l, cl, hm, F, hb, q1⟩ => ?_) ht
  · refine Post.bind hd q fun v d K2 H2 s2 g2 hd2 r2 q2 => ?_
    obtain ⟨a, dx, c, gs, fs, g, rfl, rfl, h, hl, hg, q3⟩ := dGet_ok r2 q2
    obtain ⟨f, fd, ps, cl, hm, F, hb, har⟩ := TO.meth c nm g hg
    refine ⟨a, dx, c, gs, f, fd, ps, g, rfl, g2.sub _ _ h, hl, cl, hm, F, hb, ?_⟩
    refine ha dp σ env K2 H2 s2 (hE.mono g2.kk) g2.sub hd2 _ (PostL.bind hd2 q3 fun vs xs K3 H3 s3 g3 hd3 r3 q4 => ?_)
    have rr : Reps X.K K3 (V.ref a :: vs) (.ins c fs :: xs) := .cons (r2.mono g3.kk) r3
    exact ⟨by
      by_cases hz : (D.ins c fs :: xs).length = ps.length
      · rw [rr.len]; exact hz
      · rw [har _ s3 hz] at q4
        exact q4.elim, dp, K3, _, s3, g3.sub, hd3, rr, q4⟩
  · subst ex
    obtain rfl : u = Value.ref a := rx
    refine getmeth_ok I1 ea cl hm l ?_
    refine PySem.W.callWith_K (first := [.ref a]) (h₀ := X.base) I.ok.mod.kin hm.kp (thn (q1 pos pins s1 I1) fun us s2 ⟨vs, H2, I2, r, q2⟩ => ⟨I2.kIn, ?_⟩) hst hpl
    exact run_at (us := .ref a :: us) (vs := .ref a :: vs) (dvs := []) (ds := []) F hr hb .nil (L2N.passAt tk σ) I2 (.cons rfl r) (by rw [List.append_nil]; exact q2)
theorem own_len {F : Fg} {dp : DP} {K H : Hp} {s : DS} {Q : VK} {EE : XK} {g : List D → M D} {n : Nat} {vs : List V} {xs : List D} (har : ∀ xs s, xs.length ≠ n → g xs s = .stuck) (r : Reps F K vs xs) (q : Post F dp K H (g xs s) Q EE) : vs.length = n := by
  by_cases hz : xs.length = n
  · rw [r.len]; exact hz
  · rw [har _ s hz] at q
    exact q.elim
def dOwn (tb : Tab) (nm : Str) : D → D → M D := fun x y => match x, y with
  | .ins c fs, .ins c' gs => if c = c' ∧ tb.cls c = true then dMeth tb nm (.ins c fs) [.ins c' gs] else stuck
  | _, _ => stuck
theorem back_of {X : Cx} {pins : List (Addr × Obj)} {σ : Sg} {Q : VK} {u : Value} {s' : Shared} (h : EP X pins σ Q u s') : PySem.W.CmpBack (EP X pins σ Q) u s' := by
  obtain ⟨v, H', I, r, q⟩ := id h
  cases u with
  | notImplemented =>
    cases v with
    | int i => obtain ⟨t, e⟩ := (show ∃ t, Value.notImplemented = Value.int i t from r); cases e
    | str x => obtain ⟨t, e⟩ := (show ∃ t, Value.notImplemented = Value.str x t from r); cases e
    | byt x => obtain ⟨t, e⟩ := (show ∃ t, Value.notImplemented = Value.bytes x t from r); cases e
    | flt x => obtain ⟨t, e⟩ := (show ∃ t, Value.notImplemented = Value.float x t from r); cases e
    | non => cases r
    | bl b => cases r
    | ref a => cases r
    | ty n => cases r
  | _ => exact h
theorem inst_of {X : Cx} {pins : List (Addr × Obj)} {σ : Sg} {H : Hp} {s : Shared} {a C dx : Addr} {gs : List (Str × V)} (I : Inv X pins σ H s) (h : H a = some (.ins C dx gs)) : ∃ ox od, PySem.W.InstAt s.heap a ox C od := by
  obtain ⟨mA, J, _⟩ := ins_get I.hok h
  obtain ⟨od, J, _⟩ := J.look
  exact ⟨_, _, J⟩
theorem o_own {op : Operator} {nm : Str} (TO : TabOk X.prog X.w X.K X.mg X.base k tb) (hr : Room k X.A) (tk : L2N.Takes X W) (hnm : PySem.dunder op.info.2 = nm := by decide) : Op2X X W (binaryOp op) (dOwn tb nm) := by
  intro dp σ K H s v w x y Q he hd rx ry q pins sh u u' I ru ru'
  cases rx with
  | @ins a dx c gs fs h rf =>
    cases ry with
    | @ins b dy c' gs' fs' h' rf' =>
      have q0 : Post X.K dp K H ((if c = c' ∧ tb.cls c = true then dMeth tb nm (.ins c fs) [.ins c' fs'] else stuck) s) Q (fun c d H => W c d σ H) := q
      by_cases hc : c = c' ∧ tb.cls c = true
      · rw [if_pos hc] at q0
        obtain ⟨rfl, hcls⟩ := hc
        obtain ⟨a2, dx2, c2, gs2, fs2, g, ev, ex, h2, hl, hg, q3⟩ := dMeth_ok (Rep.ins h rf) q0
        cases ev
        cases ex
        obtain ⟨f, fd, ps, cl, hm, F, hb, har⟩ := TO.meth c nm g hg
        cases (show u = Value.ref a from ru)
        cases (show u' = Value.ref b from ru')
        obtain ⟨ox, od, J⟩ := inst_of I (he _ _ h)
        obtain ⟨oy, od', J'⟩ := inst_of I (he _ _ h')
        obtain ⟨mm, Fr0⟩ := I.fr
        refine PySem.W.binop_K Fr0 I.ok.mod.kin J J'.type (TO.first c hcls) (by rw [hnm]; exact hm.at_) hm.fn ?_
        have rr : Reps X.K K [V.ref a, V.ref b] [.ins c fs, .ins c fs'] := .cons (.ins h rf) (.cons (.ins h' rf') .nil)
        exact wpAny_mono (run_at (us := [.ref a, .ref b]) (vs := [.ref a, .ref b]) (dvs := []) (ds := []) F hr hb .nil (L2N.passAt tk σ) I (.cons rfl (.cons rfl .nil)) (by
          rw [List.append_nil]
          exact ⟨own_len har rr q3, dp, K, _, s, he, hd, rr, q3⟩)) (fun _ _ z => back_of z) fun _ _ z => z
      · rw [if_neg hc] at q0
        exact q0.elim
    | _ => exact q.elim
  | _ => cases ry <;> exact q.elim
theorem o_ownEq (TO : TabOk X.prog X.w X.K X.mg X.base k tb) (hr : Room k X.A) (tk : L2N.Takes X W) : Op2X X W (compareOp .Eq) (dOwn tb "__eq__") := by
  intro dp σ K H s v w x y Q he hd rx ry q pins sh u u' I ru ru'
  cases rx with
  | @ins a dx c gs fs h rf =>
    cases ry with
    | @ins b dy c' gs' fs' h' rf' =>
      have q0 : Post X.K dp K H ((if c = c' ∧ tb.cls c = true then dMeth tb "__eq__" (.ins c fs) [.ins c' fs'] else stuck) s) Q (fun c d H => W c d σ H) := q
      by_cases hc : c = c' ∧ tb.cls c = true
      · rw [if_pos hc] at q0
        obtain ⟨rfl, hcls⟩ := hc
        obtain ⟨a2, dx2, c2, gs2, fs2, g, ev, ex, h2, hl, hg, q3⟩ := dMeth_ok (Rep.ins h rf) q0
        cases ev
        cases ex
        obtain ⟨f, fd, ps, cl, hm, F, hb, har⟩ := TO.meth c _ g hg
        cases (show u = Value.ref a from ru)
        cases (show u' = Value.ref b from ru')
        obtain ⟨ox, od, J⟩ := inst_of I (he _ _ h)
        obtain ⟨oy, od', J'⟩ := inst_of I (he _ _ h')
        obtain ⟨mm, Fr0⟩ := I.fr
        have rr : Reps X.K K [V.ref a, V.ref b] [.ins c fs, .ins c fs'] := .cons (.ins h rf) (.cons (.ins h' rf') .nil)
        refine PySem.W.cmp_K (op := .Eq) (tb := .ref (He.ga X.K c)) hr.units0 Fr0 I.ok.mod.kin J J'.type (by simp [PySem.W.notFirst]) hm.at_ hm.fn ?_
        exact wpAny_mono (run_at (us := [.ref a, .ref b]) (vs := [.ref a, .ref b]) (dvs := []) (ds := []) F hr hb .nil (L2N.passAt tk σ) I (.cons rfl (.cons rfl .nil)) (by
          rw [List.append_nil]
          exact ⟨own_len har rr q3, dp, K, _, s, he, hd, rr, q3⟩)) (fun _ _ z => back_of z) fun _ _ z => z
      · rw [if_neg hc] at q0
        exact q0.elim
    | _ => exact q.elim
  | _ => cases ry <;> exact q.elim
def dOwnNe (tb : Tab) : D → D → M D := fun x y => dOwn tb "__eq__" x y >>= fun z => E.isB z >>= fun c => pure (.bl (!c))
theorem o_ownNe (TO : TabOk X.prog X.w X.K X.mg X.base k tb) (hr : Room (k + 1) X.A) (tk : L2N.Takes X W) : Op2X X W (compareOp .NotEq) (dOwnNe tb) := by
  intro dp σ K H s v w x y Q he hd rx ry q pins sh u u' I ru ru'
  cases rx with
  | @ins a dx c gs fs h rf =>
    cases ry with
    | @ins b dy c' gs' fs' h' rf' =>
      by_cases hc : c = c' ∧ tb.cls c = true
      · have e0 : dOwn tb "__eq__" (.ins c fs) (.ins c' fs') = dMeth tb "__eq__" (.ins c fs) [.ins c' fs'] := if_pos hc
        have q0 : Post X.K dp K H ((dMeth tb "__eq__" (.ins c fs) [.ins c' fs'] >>= fun z => E.isB z >>= fun c => pure (.bl (!c))) s) Q (fun c d H => W c d σ H) := by rw [← e0]; exact q
        obtain ⟨rfl, hcls⟩ := hc
        have q1 : Post X.K dp K H (dMeth tb "__eq__" (.ins c fs) [.ins c fs'] s) (fun v H2 => ∃ k, v = .bl k ∧ Q (.bl (!k)) H2) (fun c d H => W c d σ H) :=
          Post.bind hd q0 fun v d K2 H2 s2 g2 hd2 r2 q2 => by
            obtain ⟨c, rfl, q3⟩ := isB_ok r2 q2
            exact ⟨c, rfl, post_ok q3 g2.sub hd2 (.bl _)⟩
        obtain ⟨a2, dx2, c2, gs2, fs2, g, ev, ex, h2, hl, hg, q3⟩ := dMeth_ok (Rep.ins h rf) q1
        cases ev
        cases ex
        obtain ⟨f, fd, ps, cl, hm, F, hb, har⟩ := TO.meth c _ g hg
        cases (show u = Value.ref a from ru)
        cases (show u' = Value.ref b from ru')
        obtain ⟨ox, od, J⟩ := inst_of I (he _ _ h)
        obtain ⟨oy, od', J'⟩ := inst_of I (he _ _ h')
        obtain ⟨mm, Fr0⟩ := I.fr
        obtain ⟨n1, n2⟩ := TO.ne c hcls
        have rr : Reps X.K K [V.ref a, V.ref b] [.ins c fs, .ins c fs'] := .cons (.ins h rf) (.cons (.ins h' rf') .nil)
        have hu := hr.units
        refine PySem.W.ne_K (tb := .ref (He.ga X.K c)) (by omega) Fr0 I.ok.mod.kin J J'.type (by simp [PySem.W.notFirst]) n1 hm.at_ hm.fn n2 ?_
        exact wpAny_mono (run_in (us := [.ref a, .ref b]) (vs := [.ref a, .ref b]) (A := X.A.in1) F hr.in1 rfl hb (L2N.passAt tk σ) I (.cons rfl (.cons rfl .nil))
          ⟨own_len har rr q3, dp, K, _, s, he, hd, rr, q3⟩) (fun _ _ z => by
            obtain ⟨v, H', I', r, k, ev, q⟩ := z
            subst ev
            cases r
            exact ⟨k, rfl, .bl (!k), H', I', rfl, q⟩) fun _ _ z => z
      · have e0 : dOwn tb "__eq__" (.ins c fs) (.ins c' fs') = stuck := if_neg hc
        have q0 : Post X.K dp K H ((stuck >>= fun z => E.isB z >>= fun c => pure (.bl (!c))) s) Q (fun c d H => W c d σ H) := by rw [← e0]; exact q
        exact q0.elim
    | _ => exact q.elim
  | _ => cases ry <;> exact q.elim
def dBy (own base : D → D → M D) : D → D → M D := fun x y => match x with
  | .ins _ _ => own x y
  | _ => base x y
theorem o_by {f : Value → Value → Sem Value} {own base : D → D → M D} (h1 : Op2X X W f own) (h2 : Op2X X W f base) : Op2X X W f (dBy own base) := by
  intro dp σ K H s v w x y Q he hd rx ry q pins sh u u' I ru ru'
  cases x with
  | ins c fs => exact h1 dp σ K H s v w _ y Q he hd rx ry q pins sh u u' I ru ru'
  | _ => exact h2 dp σ K H s v w _ y Q he hd rx ry q pins sh u u' I ru ru'
def dInv (tb : Tab) : D → M D := fun x => dMeth tb "__invert__" x []
theorem o_inv (TO : TabOk X.prog X.w X.K X.mg X.base k tb) (hr : Room k X.A) (tk : L2N.Takes X W) : Op1X X W (unaryOp .Invert) (dInv tb) := by
  intro dp σ K H s v x Q he hd rx q pins sh u I ru
  obtain ⟨a, dx, c, gs, fs, g, rfl, rfl, h, hl, hg, q3⟩ := dMeth_ok rx q
  obtain ⟨f, fd, ps, cl, hm, F, hb, har⟩ := TO.meth c _ g hg
  cases (show u = Value.ref a from ru)
  obtain ⟨ox, od, J⟩ := inst_of I (he _ _ h)
  obtain ⟨mm, Fr0⟩ := I.fr
  have rr : Reps X.K K [V.ref a] [.ins c fs] := .cons rx .nil
  refine PySem.W.ksp_inv Fr0 I.ok.mod.kin J hm.at_ hm.fn ?_
  exact run_at (us := [.ref a]) (vs := [.ref a]) (dvs := []) (ds := []) F hr hb .nil (L2N.passAt tk σ) I (.cons rfl .nil) (by
    rw [List.append_nil]
    exact ⟨own_len har rr q3, dp, K, _, s, he, hd, rr, q3⟩)
structure MkI (P : Program) (w : World) (K : Fg) (mg : Str → Option Value) (base : Heap) (k : Nat) (c : Str) (n : Nat) (m : List D → M (List (Str × D))) (dfl : List D) : Prop where
  ex : ∃ (f : Addr) (fd : FuncData) (ps : List Str) (ds : List Value) (dvs : List V), Mk K (He.ga K c) f ∧ FnOk P w K mg base (L2N.CX P w) k f fd ps (spI K n c m) ∧ mg c = some (.ref (He.ga K c)) ∧ Binds K fd ps ds ∧ Vals dvs ds ∧ ∀ Kn, Reps K Kn dvs dfl
theorem run_mk {CX : CXT} {C f : Addr} {fd : FuncData} {ps : List Str} {sp : Sp} {dvs : List V} {ds : List Value} {E : XK} {pins : List (Addr × Obj)} {σ : Sg} {H : Hp} {s : Shared} {Q : VK} {us : List Value} {vs : List V} (M : Mk X.K C f) (F : FnOk X.prog X.w X.K X.mg X.base CX k f fd ps sp) (hr : Room (k + 1) X.A) (hb : Binds X.K fd ps ds) (hd : Vals dvs ds)
    (hx : PassesAt CX X σ E) (I : Inv X pins σ H s) (r : Vals vs us)
    (h : ∀ x dx, H x = none → H dx = none → dx ≠ x → sp (.ref x :: (vs ++ dvs)) (upd (upd H dx (.own x)) x (.ins C dx [])) (fun v H2 => v = .non ∧ Q (.ref x) H2) E) :
    wpAny (model X.prog X.w) X.A (call (.ref C) us) (EP X pins σ Q) X.xe s := by
  have hq := h (s.heap.objs.size + 1) s.heap.objs.size (I.hok.fresh (Nat.le_succ _)) (I.hok.fresh (Nat.le_refl _)) (Nat.ne_of_lt (Nat.lt_succ_self _))
  have I2 := Inv.made (C := C) I
  have r2 : Vals (V.ref (s.heap.objs.size + 1) :: (vs ++ dvs)) (Value.ref (s.heap.objs.size + 1) :: (us ++ ds)) := .cons rfl (r.append hd)
  have hl : (Value.ref (s.heap.objs.size + 1) :: us ++ ds).length = ps.length := by
    have e := r2.length
    rw [F.len _ _ _ _ hq] at e
    exact e.symm
  refine wpAny_call (make_map (f := f) I.kIn M.makes M.init (beq_iff_eq.mp M.fn) (codeAny_mono (F.run _ X.stack _ _ ⟨Value.ref (s.heap.objs.size + 1) :: us, []⟩ (Value.ref (s.heap.objs.size + 1) :: (us ++ ds)) _ _ E (hr.make C us [])
    (I2.env0.make C us []) (hb _ (Value.ref (s.heap.objs.size + 1) :: us) I2.kIn hl) r2 hq) fun r s' hq' => ?_))
  cases r with
  | error e => exact hx pins _ _ e s' I2 hq'
  | ok fl =>
    cases fl with
    | ret u =>
      obtain ⟨v, H', I3, rv, ev, q3⟩ := I2.after hq'
      subst ev
      exact ⟨rv, ⟨V.ref (s.heap.objs.size + 1), H', I3, rfl, q3⟩⟩
    | next => exact False.elim hq'
    | brk => exact False.elim hq'
    | cont => exact False.elim hq'
end
namespace E
def mk (c : Str) (n : Nat) (m : List D → M (List (Str × D))) (dfl : List D) (a : EA) : EM := fun env => a env >>= fun xs => if (xs ++ dfl).length = n then m (xs ++ dfl) >>= fun fs => pure (.ins c fs) else stuck
end E
section
variable {X : Cx} {W : WX} {tb : Tab} {k : Nat}
theorem ex_none {K H : Hp} {a : Addr} (e : Ex K H) (h : H a = none) : K a = none := by
  cases q : K a with
  | none => rfl
  | some o => rw [e a o q] at h; cases h
theorem mk_spec {n : Nat} {c : Str} {m : List D → M (List (Str × D))} {dp : DP} {K H : Hp} {s : DS} {vs : List V} {xs : List D} {Q : VK} {σ : Sg} (he : Ex K H) (hd : DealOk dp K H s) (hr : Reps X.K K vs xs) (hn : xs.length = n)
    (q : Post X.K dp K H ((m xs >>= fun fs => pure (.ins c fs)) s) Q (fun c d H => W c d σ H)) (x dx : Addr) (hx : H x = none) (hdx : H dx = none) (hne : dx ≠ x) :
    spI X.K n c m (.ref x :: vs) (upd (upd H dx (.own x)) x (.ins (He.ga X.K c) dx [])) (fun v H2 => v = .non ∧ Q (.ref x) H2) (WE W σ) := by
  refine ⟨by rw [List.length_cons, hr.len, hn], x, dx, vs, dp, K, H, xs, s, rfl, hx, hdx, hne, rfl, he, hd, hr, ?_⟩
  have q' : Post X.K dp K H (M.bind (m xs) (fun fs => pure (.ins c fs)) s) Q (fun c d H => W c d σ H) := q
  unfold M.bind at q'
  cases hm : m xs s with
  | stuck => rw [hm] at q'; exact q'.elim
  | exc c' fs s' =>
    rw [hm] at q'
    exact q'
  | ok fs s' =>
    rw [hm] at q'
    intro gs dx2 K2 H2 g hd2 hx2 kx rf
    refine ⟨rfl, ?_⟩
    have q2 : ∀ v K2 H2, Gr dp K H K2 H2 → DealOk dp K2 H2 s' → Rep X.K K2 v (.ins c fs) → Q v H2 := q'
    have hkx : Ex K2 (upd K2 x (.ins (He.ga X.K c) dx2 gs)) := fun b o e => by rw [upd_ne (ne_of_none e kx)]; exact e
    have g3 : Gr dp K H (upd K2 x (.ins (He.ga X.K c) dx2 gs)) H2 := by
      refine ⟨Ex.tr g.kk hkx, fun b o e => ?_, fun a ha => ?_, g.fr⟩
      · by_cases hb : b = x
        · subst hb
          rw [upd_same] at e
          cases e
          exact hx2
        · rw [upd_ne hb] at e
          exact g.sub _ _ e
      · rw [upd_ne (fun z => ha (by rw [z]; exact hx))]
        exact g.new a ha
    exact q2 (.ref x) _ H2 g3 (by
      refine ⟨hd2.1, fun p q hp => ?_⟩
      obtain ⟨a1, a2, a3⟩ := hd2.2 p q hp
      obtain ⟨b1, b2, b3⟩ := hd.2 p q hp
      refine ⟨a1, ?_, ?_⟩
      · rw [upd_ne (fun z => by have := b1.1; rw [z, hx] at this; cases this)]
        exact a2
      · rw [upd_ne (fun z => by have := b1.2; rw [z, hx] at this; cases this)]
        exact a3) (.ins upd_same (rf.mono hkx))
theorem e_mk {n : Nat} {c : Str} {m : List D → M (List (Str × D))} {dfl : List D} {e : Expr} {es : List Expr} {p pos : Pos} {ma : EA} (Mi : MkI X.prog X.w X.K X.mg X.base k c n m dfl) (hr : Room (k + 1) X.A) (tk : L2N.Takes X W) (hg : Gl X c) (ha : EvA X W (e :: es) ma)
    (hdb : (c == ("__debug__" : Str)) = false := by decide) (he : starEach (e :: es) X.env = (false, eval e X.env) :: starEach es X.env := by rfl) (hpl : (backTo pos (starEach es X.env)).any (·.1) = false := by rfl) :
    EvX X W (.Call (.Name c p) (e :: es) [] pos) (E.mk c n m dfl ma) := fun dp σ env K H s hE heK hd Q q pins sh I => by
  obtain ⟨f, fd, ps, ds, dvs, Mo, F, hm, hb, hdv, hdf⟩ := Mi.ex
  refine wpAny_Call_Name_kw (ld_glob I hg hm ?_ hdb)
  refine PySem.W.callWith_K (h₀ := X.base) I.ok.mod.kin Mo.kp (thn (ha dp σ env K H s hE heK hd (fun vs H2 => ∀ x dx, H2 x = none → H2 dx = none → dx ≠ x → spI X.K n c m (.ref x :: (vs ++ dvs)) (upd (upd H2 dx (.own x)) x (.ins (He.ga X.K c) dx [])) (fun v H3 => v = .non ∧ Q (.ref x) H3) (WE W σ)) ?_ pos pins sh I)
    fun us s1 ⟨vs, H1, I1, r1, q1⟩ => ⟨I1.kIn, run_mk Mo F hr hb hdv (L2N.passAt tk σ) I1 r1 q1⟩) he hpl
  refine PostL.bind hd q fun vs xs K2 H2 s2 g2 hd2 r2 q2 => ?_
  by_cases hn : (xs ++ dfl).length = n
  · rw [if_pos hn] at q2
    exact fun x dx hx hdx hne => mk_spec g2.sub hd2 (r2.app (hdf K2)) hn q2 x dx hx hdx hne
  · rw [if_neg hn] at q2
    exact q2.elim
theorem e_mk0 {n : Nat} {c : Str} {m : List D → M (List (Str × D))} {dfl : List D} {p pos : Pos} (Mi : MkI X.prog X.w X.K X.mg X.base k c n m dfl) (hr : Room (k + 1) X.A) (tk : L2N.Takes X W) (hg : Gl X c)
    (hdb : (c == ("__debug__" : Str)) = false := by decide) : EvX X W (.Call (.Name c p) [] [] pos) (E.mk c n m dfl E.nil) := fun dp σ env K H s hE heK hd Q q pins sh I => by
  obtain ⟨f, fd, ps, ds, dvs, Mo, F, hm, hb, hdv, hdf⟩ := Mi.ex
  refine wpAny_Call_Name_kw (ld_glob I hg hm ?_ hdb)
  refine PySem.W.callWith_K0 I.kIn Mo.kp (run_mk (us := []) (vs := []) Mo F hr hb hdv (L2N.passAt tk σ) I .nil ?_)
  have q2 : Post X.K dp K H ((if ([] ++ dfl).length = n then m ([] ++ dfl) >>= fun fs => pure (.ins c fs) else stuck) s) Q (fun c d H => W c d σ H) := q
  by_cases hn : ([] ++ dfl).length = n
  · rw [if_pos hn] at q2
    exact fun x dx hx hdx hne => mk_spec heK hd (hdf K) hn q2 x dx hx hdx hne
  · rw [if_neg hn] at q2
    exact q2.elim
end
end T
end
section
set_option Elab.async false
set_option linter.all false
set_option maxRecDepth 100000
set_option maxHeartbeats 4000000
namespace T
open PySem PySem.Spec PyProof.Rows L2
theorem Post.cases {α : Type} {F : Fg} {dp : DP} {K H : Hp} {m : M α} {f : α → M D} {s : DS} {Q : VK} {E : XK} (h : Post F dp K H ((m >>= f) s) Q E) :
    (∃ y s', m s = .ok y s' ∧ Post F dp K H (f y s') Q E) ∨ ∃ c fs s', m s = .exc c fs s' ∧ Post F dp K H (.exc c fs s') Q E := by
  have h' : Post F dp K H (M.bind m f s) Q E := h
  unfold M.bind at h'
  cases e : m s with
  | ok y s' => rw [e] at h'; exact .inl ⟨y, s', rfl, h'⟩
  | exc c fs s' => rw [e] at h'; exact .inr ⟨c, fs, s', rfl, h'⟩
  | stuck => rw [e] at h'; exact h'.elim
def noExc {α : Type} (m : M α) : M α := fun s => match m s with
  | .exc _ _ _ => .stuck
  | r => r
theorem noExc_ok {α : Type} {m : M α} {s s' : DS} {y : α} (h : noExc m s = .ok y s') : m s = .ok y s' := by
  unfold noExc at h
  cases e : m s with
  | ok a t => rw [e] at h; exact h
  | exc c fs t => rw [e] at h; cases h
  | stuck => rw [e] at h; cases h
theorem noExc_exc {α : Type} {m : M α} {s s' : DS} {c : Str} {fs : List (Str × D)} : ¬ noExc m s = .exc c fs s' := fun h => by
  unfold noExc at h
  cases e : m s with
  | ok a t => rw [e] at h; cases h
  | exc c fs t => rw [e] at h; cases h
  | stuck => rw [e] at h; cases h
theorem Post.casesN {α : Type} {F : Fg} {dp : DP} {K H : Hp} {m : M α} {f : α → M D} {s : DS} {Q : VK} {E : XK} (h : Post F dp K H ((noExc m >>= f) s) Q E) :
    ∃ y s', m s = .ok y s' ∧ Post F dp K H (f y s') Q E := by
  rcases Post.cases h with ⟨y, s', e, q⟩ | ⟨c, fs, s', e, q⟩
  · exact ⟨y, s', noExc_ok e, q⟩
  · exact (noExc_exc e).elim
theorem Gr.back {dp : DP} {K H K2 H2 : Hp} {s2 : DS} (g : Gr dp K H K2 H2) (hd2 : DealOk dp K2 H2 s2) {p : Addr} (hp : H2 p = none) : H p = none := by
  cases e : H p with
  | none => rfl
  | some o =>
    by_cases nd : NotDeal dp p
    · rw [g.fr p o e nd] at hp
      cases hp
    · refine absurd ?_ nd
      intro x y hp'
      obtain ⟨⟨b1, b2⟩, _⟩ := hd2.2 x y hp'
      refine ⟨fun z => ?_, fun z => ?_⟩
      · rw [z, b1] at hp
        cases hp
      · rw [z, b2] at hp
        cases hp
def PostFr (F : Fg) (dp : DP) (K H : Hp) (r : Res D) (Q : VK) (E : XK) : Prop := match r with
  | .ok (.lst ds) s => ∀ p vs K2 H2, Gr dp K H K2 H2 → DealOk dp K2 H2 s → H p = none → H2 p = some (.lst vs) → K2 p = none → Reps F K2 vs ds → Q (.ref p) H2
  | .ok _ _ => False
  | .exc c fs s => ∀ dx gs K2 H2, Gr dp K H K2 H2 → DealOk dp K2 H2 s → K2 dx = some (.xd gs) → RepF F K2 gs fs → E (.ref (He.ga F c)) (some dx) H2
  | .stuck => False
theorem PostFr.cases {α : Type} {F : Fg} {dp : DP} {K H : Hp} {m : M α} {f : α → M D} {s : DS} {Q : VK} {E : XK} (h : PostFr F dp K H ((m >>= f) s) Q E) :
    (∃ y s', m s = .ok y s' ∧ PostFr F dp K H (f y s') Q E) ∨ ∃ c fs s', m s = .exc c fs s' ∧ PostFr F dp K H (.exc c fs s') Q E := by
  have h' : PostFr F dp K H (M.bind m f s) Q E := h
  unfold M.bind at h'
  cases e : m s with
  | ok y s' => rw [e] at h'; exact .inl ⟨y, s', rfl, h'⟩
  | exc c fs s' => rw [e] at h'; exact .inr ⟨c, fs, s', rfl, h'⟩
  | stuck => rw [e] at h'; exact h'.elim
theorem PostFr.casesN {α : Type} {F : Fg} {dp : DP} {K H : Hp} {m : M α} {f : α → M D} {s : DS} {Q : VK} {E : XK} (h : PostFr F dp K H ((noExc m >>= f) s) Q E) :
    ∃ y s', m s = .ok y s' ∧ PostFr F dp K H (f y s') Q E := by
  rcases PostFr.cases h with ⟨y, s', e, q⟩ | ⟨c, fs, s', e, q⟩
  · exact ⟨y, s', noExc_ok e, q⟩
  · exact (noExc_exc e).elim
structure Yields (F : Fg) (J : It) (K : Hp) (ds : List D) : Prop where
  stop : ∀ H, Ex K H → J.stop ds.length H
  go : ∀ i H, i < ds.length → Ex K H → J.go i H
  yld : ∀ i H x H' K1, i < ds.length → Ex K K1 → Ex K1 H → J.yld i H x H' → ∃ K2 d, Gr dp0 K1 H K2 H' ∧ ds[i]? = some d ∧ Rep F K2 x d
def PostJ (F : Fg) (dp : DP) (K H : Hp) (r : Res (List D)) (R : It → Hp → Prop) (E : XK) : Prop := match r with
  | .ok ds s => ∀ J K2 H2, Gr dp K H K2 H2 → DealOk dp K2 H2 s → Yields F J K2 ds → R J H2
  | .exc c fs s => ∀ dx gs K2 H2, Gr dp K H K2 H2 → DealOk dp K2 H2 s → K2 dx = some (.xd gs) → RepF F K2 gs fs → E (.ref (He.ga F c)) (some dx) H2
  | .stuck => False
def semI (X : Cx) (tg e : Expr) : TI := fun σ H R => ∀ pins s, Inv X pins σ H s → wpAny (model X.prog X.w) X.A (eval e X.env) (fun v s1 => wpAny (model X.prog X.w) X.A (pyIter v) (PIE X pins σ tg R) X.xe s1) X.xe s
abbrev EL := Env → M (List D)
def EvI (X : Cx) (W : WX) (tg e : Expr) (m : EL) : Prop :=
  ∀ dp σ env K H s, RelE X.K σ env K → Ex K H → DealOk dp K H s → ∀ R, PostJ X.K dp K H (m env s) R (fun c d H => W c d σ H) → semI X tg e σ H R
def items : D → M (List D)
  | .lst xs => pure xs
  | .lsk xs => pure xs
  | .tup xs => pure xs
  | _ => stuck
def rangeD (lo : Int) (n : Nat) : List D := (List.range n).map fun i => .int (lo + (i : Nat))
namespace E
def it (a : EM) : EL := fun env => a env >>= fun x => items x
def rng1 (a : EA) : EL := fun env => a env >>= fun xs => match xs with
  | [.int j] => if -(2 ^ 62) ≤ j ∧ j < 2 ^ 62 then pure (rangeD 0 j.toNat) else stuck
  | _ => stuck
def rng2 (a : EA) : EL := fun env => a env >>= fun xs => match xs with
  | [.int i, .int j] => if -(2 ^ 62) ≤ i ∧ i < 2 ^ 62 ∧ -(2 ^ 62) ≤ j ∧ j < 2 ^ 62 then pure (rangeD i (j - i).toNat) else stuck
  | _ => stuck
end E
section
variable {X : Cx} {W : WX}
theorem pi_sem {tg e : Expr} : PI X tg e (semI X tg e) := ⟨fun pins s σ H R I h => h pins s I⟩
theorem yields_l {F : Fg} {K : Hp} {a : Addr} {vs : List V} {ds : List D} (h : SqL F K a vs) (r : Reps F K vs ds) : Yields F (Itl F a) K ds where
  stop := fun H e => ⟨vs, sqL_mono e h, Nat.le_of_eq r.len⟩
  go := fun i H hi e => by
    have hi' : i < vs.length := by rw [r.len]; exact hi
    exact ⟨vs, vs[i], sqL_mono e h, by simp [hi']⟩
  yld := fun i H x H' K1 hi e1 e2 y => by
    obtain ⟨rfl, y⟩ := y
    obtain ⟨d, h1, h2⟩ := r.getV (y vs (sqL_mono (Ex.tr e1 e2) h))
    exact ⟨K1, d, Gr.rfl' e2, h1, h2.mono e1⟩
theorem yields_t {F : Fg} {K : Hp} {a : Addr} {vs : List V} {ds : List D} (h : SqT F K a vs) (r : Reps F K vs ds) : Yields F (Itt F a) K ds where
  stop := fun H e => ⟨vs, sqT_mono e h, Nat.le_of_eq r.len⟩
  go := fun i H hi e => by
    have hi' : i < vs.length := by rw [r.len]; exact hi
    exact ⟨vs, vs[i], sqT_mono e h, by simp [hi']⟩
  yld := fun i H x H' K1 hi e1 e2 y => by
    obtain ⟨rfl, y⟩ := y
    obtain ⟨d, h1, h2⟩ := r.getV (y vs (sqT_mono (Ex.tr e1 e2) h))
    exact ⟨K1, d, Gr.rfl' e2, h1, h2.mono e1⟩
theorem rangeD_len {lo : Int} {n : Nat} : (rangeD lo n).length = n := by unfold rangeD; simp
theorem yields_r {F : Fg} {K : Hp} {lo : Int} {n : Nat} : Yields F (Itr lo n) K (rangeD lo n) where
  stop := fun H e => by rw [rangeD_len]; exact Nat.le_refl _
  go := fun i H hi e => by rw [rangeD_len] at hi; exact hi
  yld := fun i H x H' K1 hi e1 e2 y => by
    obtain ⟨rfl, rfl⟩ := y
    rw [rangeD_len] at hi
    exact ⟨K1, .int (lo + (i : Nat)), Gr.rfl' e2, by unfold rangeD; simp [hi], .int _⟩
theorem i_it {tg e : Expr} {ma : EM} (ha : EvX X W e ma) : EvI X W tg e (E.it ma) := fun dp σ env K H s hE he hd R q pins sh I => by
  have q' : PostJ X.K dp K H (M.bind (ma env) items s) R (fun c d H => W c d σ H) := q
  unfold M.bind at q'
  cases hm : ma env s with
  | stuck => rw [hm] at q'; exact q'.elim
  | exc c fs s' =>
    rw [hm] at q'
    exact (pi_list (tl := sem X e) pe_sem).run pins sh σ H R I (ha dp σ env K H s hE he hd _ (by rw [hm]; exact q'))
  | ok d s' =>
    rw [hm] at q'
    cases d with
    | lst ds =>
      refine (pi_list (tl := sem X e) pe_sem).run pins sh σ H R I (ha dp σ env K H s hE he hd _ ?_)
      rw [hm]
      intro v K2 H2 g hd2 r
      cases r with
      | lst h rs => exact ⟨_, rfl, ⟨_, .inl (.inl (g.sub _ _ h))⟩, q' _ K2 H2 g hd2 (yields_l (.inl (.inl h)) rs)⟩
    | lsk ds =>
      refine (pi_list (tl := sem X e) pe_sem).run pins sh σ H R I (ha dp σ env K H s hE he hd _ ?_)
      rw [hm]
      intro v K2 H2 g hd2 r
      cases r with
      | lsk h rs => exact ⟨_, rfl, ⟨_, sqL_mono g.sub h⟩, q' _ K2 H2 g hd2 (yields_l h rs)⟩
    | tup ds =>
      refine (pi_tup (tl := sem X e) pe_sem).run pins sh σ H R I (ha dp σ env K H s hE he hd _ ?_)
      rw [hm]
      intro v K2 H2 g hd2 r
      cases r with
      | tup h rs => exact ⟨_, rfl, ⟨_, sqT_mono g.sub h.sqT⟩, q' _ K2 H2 g hd2 (yields_t h.sqT rs)⟩
    | _ => exact q'.elim
theorem i_rng1 {tg a : Expr} {p pos : Pos} {ma : EA} (hg : Gl X "range") (hm : X.mg "range" = none) (ha : EvA X W [a] ma) (hs : starEach [a] X.env = [(false, eval a X.env)] := by rfl) : EvI X W tg (.Call (.Name "range" p) [a] [] pos) (E.rng1 ma) := fun dp σ env K H s hE he hd R q pins sh I => by
  refine (pi_range1 (ta := semA X [a]) hg hm pa_sem hs).run pins sh σ H R I (ha dp σ env K H s hE he hd _ ?_)
  have q' : PostJ X.K dp K H (M.bind (ma env) _ s) R (fun c d H => W c d σ H) := q
  unfold M.bind at q'
  cases hma : ma env s with
  | stuck => rw [hma] at q'; exact q'.elim
  | exc c fs s' => rw [hma] at q'; exact q'
  | ok xs s' =>
    rw [hma] at q'
    intro vs K2 H2 g hd2 r
    match xs, r, q' with
    | [], _, q => exact q.elim
    | _ :: _ :: _, .cons r _, q => cases r <;> exact q.elim
    | [d], .cons (v := v) r .nil, q =>
      cases r with
      | int j =>
        have q2 : PostJ X.K dp K H ((if -(2 ^ 62) ≤ j ∧ j < 2 ^ 62 then pure (rangeD 0 j.toNat) else stuck : M (List D)) s') R (fun c d H => W c d σ H) := q
        by_cases hj : -(2 ^ 62) ≤ j ∧ j < 2 ^ 62
        · rw [if_pos hj] at q2
          exact ⟨j, rfl, hj.1, hj.2, q2 _ K2 H2 g hd2 yields_r⟩
        · rw [if_neg hj] at q2
          exact q2.elim
      | _ => exact q.elim
theorem i_rng2 {tg a b : Expr} {p pos : Pos} {ma : EA} (hg : Gl X "range") (hm : X.mg "range" = none) (ha : EvA X W [a, b] ma) (hs : starEach [a, b] X.env = [(false, eval a X.env), (false, eval b X.env)] := by rfl) (hs2 : starEach [b] X.env = [(false, eval b X.env)] := by rfl) :
    EvI X W tg (.Call (.Name "range" p) [a, b] [] pos) (E.rng2 ma) := fun dp σ env K H s hE he hd R q pins sh I => by
  refine (pi_range2 (ta := semA X [a, b]) hg hm pa_sem hs hs2).run pins sh σ H R I (ha dp σ env K H s hE he hd _ ?_)
  have q' : PostJ X.K dp K H (M.bind (ma env) _ s) R (fun c d H => W c d σ H) := q
  unfold M.bind at q'
  cases hma : ma env s with
  | stuck => rw [hma] at q'; exact q'.elim
  | exc c fs s' => rw [hma] at q'; exact q'
  | ok xs s' =>
    rw [hma] at q'
    intro vs K2 H2 g hd2 r
    match xs, r, q' with
    | [], _, q => exact q.elim
    | [_], .cons r _, q => cases r <;> exact q.elim
    | _ :: _ :: _ :: _, .cons r (.cons r2 _), q => cases r <;> first | exact q.elim | (cases r2 <;> exact q.elim)
    | [d, d2], .cons (v := v) r (.cons r2 .nil), q =>
      cases r with
      | int i =>
        cases r2 with
        | int j =>
          have q2 : PostJ X.K dp K H ((if -(2 ^ 62) ≤ i ∧ i < 2 ^ 62 ∧ -(2 ^ 62) ≤ j ∧ j < 2 ^ 62 then pure (rangeD i (j - i).toNat) else stuck : M (List D)) s') R (fun c d H => W c d σ H) := q
          by_cases hj : -(2 ^ 62) ≤ i ∧ i < 2 ^ 62 ∧ -(2 ^ 62) ≤ j ∧ j < 2 ^ 62
          · rw [if_pos hj] at q2
            exact ⟨i, j, rfl, hj, q2 _ K2 H2 g hd2 yields_r⟩
          · rw [if_neg hj] at q2
            exact q2.elim
        | _ => exact q.elim
      | _ => exact q.elim
end
inductive Tg where
  | nm (j : Nat)
  | tp (js : List Nat)
  | ls (js : List Nat)
def gsN : List Nat → TGs
  | [] => gNil
  | j :: r => gCons (gName j) (gsN r)
def Tg.g (F : Fg) : Tg → TG
  | .nm j => gName j
  | .tp js => gTup F js.length (gsN js)
  | .ls js => gLst F js.length (gsN js)
def Tg.slots : Tg → List Nat
  | .nm j => [j]
  | .tp js => js
  | .ls js => js
def Tg.bind : Tg → D → Option (List (Nat × D))
  | .nm j, d => some [(j, d)]
  | .tp js, .tup ds => if ds.length = js.length then some (js.zip ds) else none
  | .ls js, .lst ds => if ds.length = js.length then some (js.zip ds) else none
  | .tp _, _ => none
  | .ls _, _ => none
def setV (σ : Sg) : List (Nat × V) → Sg
  | [] => σ
  | p :: r => setV (σ.set p.1 (some p.2)) r
def setE (env : Env) : List (Nat × D) → Env
  | [] => env
  | p :: r => setE (env.set p.1 (some p.2)) r
inductive RepN (F : Fg) (K : Hp) : List (Nat × V) → List (Nat × D) → Prop
  | nil : RepN F K [] []
  | cons {j : Nat} {v : V} {vs : List (Nat × V)} {d : D} {ds : List (Nat × D)} : Rep F K v d → RepN F K vs ds → RepN F K ((j, v) :: vs) ((j, d) :: ds)
section
variable {F : Fg} {K H : Hp} {σ : Sg} {env : Env}
theorem RelE.set {v : V} {d : D} (h : RelE F σ env K) (r : Rep F K v d) (j : Nat) : RelE F (σ.set j (some v)) (env.set j (some d)) K := by
  refine ⟨by rw [List.length_set, List.length_set, h.1], fun i e hi => ?_⟩
  by_cases hij : j = i
  · subst hij
    by_cases hl : j < env.length
    · rw [List.getElem?_set_self hl] at hi
      cases hi
      exact ⟨v, by rw [List.getElem?_set_self (by rw [h.1]; exact hl)], r⟩
    · rw [List.getElem?_eq_none (by rw [List.length_set]; omega)] at hi
      cases hi
  · rw [List.getElem?_set_ne hij] at hi ⊢
    exact h.2 i e hi
theorem RelE.sets : ∀ {lv : List (Nat × V)} {l : List (Nat × D)} {σ : Sg} {env : Env}, RelE F σ env K → RepN F K lv l → RelE F (setV σ lv) (setE env l) K
  | _, _, _, _, h, .nil => h
  | _, _, σ, env, h, .cons (j := j) (v := v) (d := d) r t => by
    show RelE F (setV (σ.set j (some v)) _) (setE (env.set j (some d)) _) K
    exact RelE.sets (h.set r j) t
theorem repN_fst : ∀ {lv : List (Nat × V)} {l : List (Nat × D)}, RepN F K lv l → lv.map (·.1) = l.map (·.1)
  | _, _, .nil => rfl
  | _, _, .cons _ t => congrArg (_ :: ·) (repN_fst t)
theorem repN_zip : ∀ {js : List Nat} {vs : List V} {ds : List D}, Reps F K vs ds → RepN F K (js.zip vs) (js.zip ds)
  | [], _, _, _ => by simp [List.zip_nil_left]; exact .nil
  | j :: js, _, _, .nil => by simp; exact .nil
  | j :: js, _, _, .cons r t => .cons r (repN_zip t)
theorem gsN_ok : ∀ {js : List Nat} {vs : List V} {σ : Sg} {Q : Sg → Hp → Prop}, vs.length = js.length → Q (setV σ (js.zip vs)) H → gsN js vs σ H Q
  | [], [], σ, Q, _, q => ⟨rfl, q⟩
  | j :: js, v :: vs, σ, Q, h, q => ⟨v, vs, rfl, gsN_ok (js := js) (vs := vs) (by simpa using h) q⟩
  | [], _ :: _, _, _, h, _ => by simp at h
  | _ :: _, [], _, _, h, _ => by simp at h
theorem Tg.ok (t : Tg) {v : V} {d : D} {l : List (Nat × D)} {Q : Sg → Hp → Prop} (e : Ex K H) (r : Rep F K v d) (h : t.bind d = some l) (q : ∀ lv, RepN F K lv l → Q (setV σ lv) H) : t.g F v σ H Q := by
  cases t with
  | nm j =>
    cases h
    exact q [(j, v)] (.cons r .nil)
  | tp js =>
    cases r with
    | @tup a vs ds h0 rs =>
      have h' : (if ds.length = js.length then some (js.zip ds) else none) = some l := h
      by_cases hl : ds.length = js.length
      · rw [if_pos hl] at h'
        cases h'
        exact ⟨a, vs, rfl, sqT_mono e h0.sqT, by rw [rs.len, hl], gsN_ok (by rw [rs.len, hl]) (q _ (repN_zip rs))⟩
      · rw [if_neg hl] at h'
        cases h'
    | _ => cases h
  | ls js =>
    cases r with
    | @lst a vs ds h0 rs =>
      have h' : (if ds.length = js.length then some (js.zip ds) else none) = some l := h
      by_cases hl : ds.length = js.length
      · rw [if_pos hl] at h'
        cases h'
        exact ⟨a, vs, rfl, .inl (.inl (e _ _ h0)), by rw [rs.len, hl], gsN_ok (by rw [rs.len, hl]) (q _ (repN_zip rs))⟩
      · rw [if_neg hl] at h'
        cases h'
    | _ => cases h
theorem bind_slots (t : Tg) {d : D} {l : List (Nat × D)} (h : t.bind d = some l) : ∀ j ∈ l.map (·.1), j ∈ t.slots := by
  have key : ∀ (js : List Nat) (ds : List D) (l : List (Nat × D)), (if ds.length = js.length then some (js.zip ds) else none) = some l → ∀ j ∈ l.map (·.1), j ∈ js := fun js ds l h' i hi => by
    by_cases hl : ds.length = js.length
    · rw [if_pos hl] at h'
      cases h'
      obtain ⟨p, hp, rfl⟩ := List.mem_map.mp hi
      exact (List.of_mem_zip hp).1
    · rw [if_neg hl] at h'
      cases h'
  cases t with
  | nm j => cases h; intro i hi; simpa [Tg.slots] using hi
  | tp js => cases d <;> first | exact key js _ l h | cases h
  | ls js => cases d <;> first | exact key js _ l h | cases h
end
def wipeE (env : Env) : List Nat → Env
  | [] => env
  | v :: vs => (wipeE env vs).set v none
theorem wipeE_length (env : Env) : ∀ vs : List Nat, (wipeE env vs).length = env.length
  | [] => rfl
  | v :: vs => by unfold wipeE; rw [List.length_set, wipeE_length env vs]
theorem wipeE_some {env : Env} {i : Nat} {x : D} : ∀ {vs : List Nat}, (wipeE env vs)[i]? = some (some x) → env[i]? = some (some x) ∧ i ∉ vs
  | [], h => ⟨h, by simp⟩
  | v :: vs, h => by
    unfold wipeE at h
    by_cases hi : v = i
    · subst hi
      by_cases hv : v < (wipeE env vs).length
      · rw [List.getElem?_set_self hv] at h; cases h
      · rw [List.getElem?_eq_none (by simpa using hv)] at h; cases h
    · rw [List.getElem?_set_ne hi] at h
      obtain ⟨h1, h2⟩ := wipeE_some h
      exact ⟨h1, by simp only [List.mem_cons, not_or]; exact ⟨fun e => hi e.symm, h2⟩⟩
theorem RelE.wipe {F : Fg} {K : Hp} {σ : Sg} {env : Env} (h : RelE F σ env K) (vs : List Nat) : RelE F (wipe σ vs) (wipeE env vs) K := by
  refine ⟨by rw [wipe_length, wipeE_length, h.1], fun i d hi => ?_⟩
  obtain ⟨h1, h2⟩ := wipeE_some hi
  obtain ⟨v, e, r⟩ := h.2 i d h1
  exact ⟨v, by rw [wipe_out h2]; exact e, r⟩
theorem wipe_ext {σ σ' : Sg} {vs : List Nat} (hl : σ.length = σ'.length) (h : ∀ i, i ∉ vs → σ[i]? = σ'[i]?) : wipe σ vs = wipe σ' vs := by
  refine List.ext_getElem? fun i => ?_
  by_cases hi : i ∈ vs
  · have key : ∀ (τ : Sg) (ws : List Nat), i ∈ ws → (wipe τ ws)[i]? = if i < τ.length then some none else none := by
      intro τ ws
      induction ws with
      | nil => intro h; simp at h
      | cons w ws ih =>
        intro h
        unfold wipe
        by_cases hw : w = i
        · subst hw
          by_cases hlt : w < τ.length
          · rw [List.getElem?_set_self (by rw [wipe_length]; exact hlt), if_pos hlt]
          · rw [List.getElem?_eq_none (by rw [List.length_set, wipe_length]; omega), if_neg hlt]
        · rw [List.getElem?_set_ne hw]
          exact ih (by simpa [Ne.symm hw] using h)
    rw [key σ vs hi, key σ' vs hi, hl]
  · rw [wipe_out hi, wipe_out hi]
    exact h i hi
theorem setV_length : ∀ (l : List (Nat × V)) (σ : Sg), (setV σ l).length = σ.length
  | [], _ => rfl
  | p :: r, σ => by
    show (setV (σ.set p.1 (some p.2)) r).length = _
    rw [setV_length r, List.length_set]
theorem setV_out : ∀ (l : List (Nat × V)) (σ : Sg) {i : Nat}, i ∉ l.map (·.1) → (setV σ l)[i]? = σ[i]?
  | [], _, _, _ => rfl
  | p :: r, σ, i, h => by
    show (setV (σ.set p.1 (some p.2)) r)[i]? = _
    rw [setV_out r _ (fun m => h (List.mem_cons_of_mem _ m)), List.getElem?_set_ne (fun e => h (by rw [← e]; exact List.mem_cons_self))]
theorem wipe_set {σ : Sg} {vs : List Nat} {lv : List (Nat × V)} (h : ∀ j ∈ lv.map (·.1), j ∈ vs) : wipe (setV (wipe σ vs) lv) vs = wipe σ vs := by
  refine wipe_ext (by rw [setV_length, wipe_length]) fun i hi => ?_
  rw [setV_out _ _ (fun m => hi (h i m)), wipe_out hi]
def lcM (env0 : Env) (t : Tg) (tst : ET) (elt : EM) : List D → List D → M (List D)
  | [], acc => pure acc
  | d :: r, acc => match t.bind d with
    | none => stuck
    | some l => noExc (tst (setE env0 l)) >>= fun b => if b = true then (noExc (elt (setE env0 l)) >>= fun y => if acc.length < sizeLine then lcM env0 t tst elt r (acc ++ [y]) else stuck) else lcM env0 t tst elt r acc
namespace E
def yes : ET := fun _ => pure true
def lcL (vs : List Nat) (src : EL) (t : Tg) (tst : ET) (elt : EM) : EL := fun env => src env >>= fun ds => lcM (wipeE env vs) t tst elt ds []
def lc (vs : List Nat) (src : EL) (t : Tg) (tst : ET) (elt : EM) : EM := fun env => src env >>= fun ds => lcM (wipeE env vs) t tst elt ds [] >>= fun out => pure (.lst out)
end E
abbrev W0 : WX := fun _ _ _ _ => False
section
variable {X : Cx} {W : WX}
theorem PostJ.cases {F : Fg} {dp : DP} {K H : Hp} {m : M (List D)} {f : List D → M D} {s : DS} {Q : VK} {E : XK} {R : It → Hp → Prop} (h : Post F dp K H ((m >>= f) s) Q E)
    (k : ∀ ds J K2 H2 s2, m s = .ok ds s2 → Gr dp K H K2 H2 → DealOk dp K2 H2 s2 → Yields F J K2 ds → Post F dp K H (f ds s2) Q E → R J H2) : PostJ F dp K H (m s) R E := by
  rcases Post.cases h with ⟨y, s', e, q⟩ | ⟨c, fs, s', e, q⟩
  · rw [e]
    exact fun J K2 H2 g hd ys => k y J K2 H2 s' e g hd ys q
  · rw [e]
    exact q
theorem lc_run {J : It} {g : TG} {tt : TT} {te : TE} {vs : List Nat} {t : Tg} {tst : ET} {elt : EM} {dp : DP} {σ : Sg} {env : Env} {K1 H1 : Hp} {s1 : DS} {ds : List D} {Q : VK} {EE : XK} {L : Addr}
    (hsl : ∀ j ∈ t.slots, j ∈ vs) (hg : g = t.g X.K) (hE : RelE X.K σ env K1) (e1 : Ex K1 H1) (hd1 : DealOk dp K1 H1 s1) (hy : Yields X.K J K1 ds) (hL : H1 L = none)
    (ht : ∀ dp σ env K H s, RelE X.K σ env K → Ex K H → DealOk dp K H s → ∀ Q, PostB X.K dp K H (tst env s) Q (fun _ _ _ => False) → tt σ H Q)
    (hel : ∀ dp σ env K H s, RelE X.K σ env K → Ex K H → DealOk dp K H s → ∀ Q, Post X.K dp K H (elt env s) Q (fun _ _ _ => False) → te σ H Q)
    (q : PostFr X.K dp K1 H1 ((lcM (wipeE env vs) t tst elt ds [] >>= fun out => pure (.lst out)) s1) Q EE) :
    ∃ W : Nat → Nat → Hp → Prop, (∃ m, W 0 m (upd H1 L (.lst []))) ∧ ∀ i m H, W i m H →
      (J.stop i H ∧ Q (.ref L) H) ∨ (J.go i H ∧ ∃ Nx : Hp → Prop, (∀ H', Nx H' → ∃ m', m' < m ∧ W (i + 1) m' H') ∧ ∀ x H', J.yld i H x H' → g x (wipe σ vs) H' fun σ2 H2 => wipe σ2 vs = wipe σ vs ∧ tt σ2 H2 fun b H3 =>
        if b = true then te σ2 H3 fun y H4 => ∃ acc, H4 L = some (.lst acc) ∧ acc.length < sizeLine ∧ Nx (upd H4 L (.lst (acc ++ [y]))) else Nx H3) := by
  subst hg
  -- L is not the deal's
  have nL : NotDeal dp L := fun p q' hp => by
    obtain ⟨⟨a1, a2⟩, _⟩ := hd1.2 p q' hp
    refine ⟨fun z => ?_, fun z => ?_⟩
    · rw [z, a1] at hL
      cases hL
    · rw [z, a2] at hL
      cases hL
  let S : Nat → Hp → Prop := fun i H => ∃ (K3 : Hp) (s3 : DS) (acc : List V) (accD : List D), Gr dp K1 H1 K3 H ∧ DealOk dp K3 H s3 ∧ H L = some (.lst acc) ∧ K3 L = none ∧ Reps X.K K3 acc accD ∧
    PostFr X.K dp K1 H1 ((lcM (wipeE env vs) t tst elt (ds.drop i) accD >>= fun out => pure (.lst out)) s3) Q EE
  refine ⟨fun i m H => m = ds.length - i ∧ i ≤ ds.length ∧ S i H, ⟨ds.length, by simp, Nat.zero_le _, K1, s1, [], [], Gr.add0 e1 hL, (Gr.add0 (dp := dp) (o := .lst []) e1 hL).deal hd1 (ex_upd hL), upd_same, ex_none e1 hL, .nil, q⟩, ?_⟩
  rintro i m H ⟨rfl, hi, K3, s3, acc, accD, g3, hd3, hLH, hLK, hr, hq⟩
  have eK : Ex K1 K3 := g3.kk
  by_cases hlt : i < ds.length
  · refine .inr ⟨hy.go i H hlt (Ex.tr eK g3.sub), S (i + 1), fun H' p => ⟨ds.length - (i + 1), by omega, rfl, hlt, p⟩, fun x H' hyl => ?_⟩
    obtain ⟨K4, d, g4, hd, hrx⟩ := hy.yld i H x H' K3 hlt eK g3.sub hyl
    have g4' : Gr dp K3 H K4 H' := ⟨g4.kk, g4.sub, g4.new, fun a o h _ => g4.fr a o h (fun _ _ z => by cases z)⟩
    have hd4 : DealOk dp K4 H' s3 := g4'.deal hd3 (fun a o h => g4.fr a o h (fun _ _ z => by cases z))
    have edrop : ds.drop i = d :: ds.drop (i + 1) := by
      rw [List.drop_eq_getElem_cons hlt]
      congr
      rw [List.getElem?_eq_getElem hlt] at hd
      exact Option.some.inj hd
    rw [edrop] at hq
    cases hb : t.bind d with
    | none =>
      have z : lcM (wipeE env vs) t tst elt (d :: ds.drop (i + 1)) accD = stuck := by show (match t.bind d with | none => stuck | some l => _) = stuck; rw [hb]
      rw [z] at hq
      exact hq.elim
    | some l =>
      have z : lcM (wipeE env vs) t tst elt (d :: ds.drop (i + 1)) accD = (noExc (tst (setE (wipeE env vs) l)) >>= fun b => if b = true then (noExc (elt (setE (wipeE env vs) l)) >>= fun y => if accD.length < sizeLine then lcM (wipeE env vs) t tst elt (ds.drop (i + 1)) (accD ++ [y]) else stuck) else lcM (wipeE env vs) t tst elt (ds.drop (i + 1)) accD) := by
        show (match t.bind d with | none => stuck | some l => _) = _
        rw [hb]
      rw [z] at hq
      have hLH' : H' L = some (.lst acc) := g4.fr L _ hLH (fun _ _ z => by cases z)
      have hLK4 : K4 L = none := by rw [g4.new L (by rw [hLH]; simp)]; exact hLK
      refine t.ok (K := K4) (l := l) g4.sub hrx hb fun lv hlv => ?_
      refine ⟨wipe_set fun j hj => hsl j (bind_slots t hb j (by rw [← repN_fst hlv]; exact hj)), ?_⟩
      have hE4 : RelE X.K (setV (wipe σ vs) lv) (setE (wipeE env vs) l) K4 := RelE.sets ((hE.mono (Ex.tr eK g4.kk)).wipe vs) hlv
      -- the test
      have as1 : ∀ (m : M Bool) (f : Bool → M (List D)), ((m >>= f) >>= fun out => (pure (.lst out) : M D)) = (m >>= fun b => f b >>= fun out => pure (.lst out)) := fun m f => by
        funext s
        show M.bind (M.bind m f) _ s = M.bind m _ s
        unfold M.bind
        cases m s <;> rfl
      rw [as1] at hq
      obtain ⟨b, s5, eb', q5⟩ := PostFr.casesN hq
      refine ht dp _ _ K4 H' s3 hE4 g4.sub hd4 _ ?_
      rw [eb']
      intro K5 H5 g5 hd5
      have hLH5 : H5 L = some (.lst acc) := g5.fr L _ hLH' nL
      have hLK5 : K5 L = none := by rw [g5.new L (by rw [hLH']; simp)]; exact hLK4
      have G5 : Gr dp K1 H1 K5 H5 := Gr.trans hd1 g3 hd3 (Gr.trans hd3 g4' hd4 g5)
      cases b with
      | false => exact ⟨K5, s5, acc, accD, G5, hd5, hLH5, hLK5, hr.mono (Ex.tr g4.kk g5.kk), q5⟩
      | true =>
        have as2 : ∀ (m : M D) (f : D → M (List D)), ((m >>= f) >>= fun out => (pure (.lst out) : M D)) = (m >>= fun b => f b >>= fun out => pure (.lst out)) := fun m f => by
          funext s
          show M.bind (M.bind m f) _ s = M.bind m _ s
          unfold M.bind
          cases m s <;> rfl
        have q5' : PostFr X.K dp K1 H1 (((noExc (elt (setE (wipeE env vs) l)) >>= fun y => if accD.length < sizeLine then lcM (wipeE env vs) t tst elt (ds.drop (i + 1)) (accD ++ [y]) else stuck) >>= fun out => (pure (.lst out) : M D)) s5) Q EE := q5
        rw [as2] at q5'
        obtain ⟨y, s6, ey', q6⟩ := PostFr.casesN q5'
        refine hel dp _ _ K5 H5 s5 (hE4.mono g5.kk) g5.sub hd5 _ ?_
        rw [ey']
        intro v K6 H6 g6 hd6 r6
        have hLH6 : H6 L = some (.lst acc) := g6.fr L _ hLH5 nL
        have hLK6 : K6 L = none := by rw [g6.new L (by rw [hLH5]; simp)]; exact hLK5
        by_cases hz : accD.length < sizeLine
        · rw [if_pos hz] at q6
          have G6 : Gr dp K1 H1 K6 H6 := Gr.trans hd1 G5 hd5 g6
          have hr6 := hr.mono (Ex.tr (Ex.tr g4.kk g5.kk) g6.kk)
          refine ⟨acc, hLH6, by rw [hr6.len]; exact hz, K6, s6, acc ++ [v], accD ++ [y], ?_, ?_, upd_same, hLK6, hr6.app (.cons r6 .nil), q6⟩
          · refine ⟨G6.kk, fun b o h => ?_, G6.new, fun a o h nd => ?_⟩
            · rw [upd_ne (ne_of_none h hLK6)]
              exact G6.sub _ _ h
            · rw [upd_ne (ne_of_none h hL)]
              exact G6.fr a o h nd
          · refine ⟨hd6.1, fun p q' hp => ?_⟩
            obtain ⟨⟨a1, a2⟩, a3, a4⟩ := hd6.2 p q' hp
            obtain ⟨n1, n2⟩ := nL p q' hp
            exact ⟨⟨by rw [upd_ne (Ne.symm n1)]; exact a1, by rw [upd_ne (Ne.symm n2)]; exact a2⟩, a3, a4⟩
        · rw [if_neg hz] at q6
          exact q6.elim
  · have e : i = ds.length := by omega
    subst e
    refine .inl ⟨hy.stop H (Ex.tr eK g3.sub), ?_⟩
    rw [List.drop_length] at hq
    exact hq L acc K3 H g3 hd3 hL hLH hLK hr
def EvFr (X : Cx) (W : WX) (e : Expr) (m : EM) : Prop :=
  ∀ dp σ env K H s, RelE X.K σ env K → Ex K H → DealOk dp K H s → ∀ Q, PostFr X.K dp K H (m env s) Q (fun c d H => W c d σ H) → sem X e σ H Q
theorem EvFr.x {e : Expr} {m : EM} (h : EvFr X W e m) (hl : ∀ env s d s', m env s = .ok d s' → ∃ ds, d = .lst ds) : EvX X W e m := fun dp σ env K H s hE he hd Q q => by
  refine h dp σ env K H s hE he hd Q ?_
  cases hm : m env s with
  | stuck => rw [hm] at q; exact q
  | exc c fs s' => rw [hm] at q; exact q
  | ok d s' =>
    obtain ⟨ds, rfl⟩ := hl env s d s' hm
    rw [hm] at q
    intro p vs K2 H2 g hd2 hp h2 hk rs
    have q' : ∀ v K2 H2, Gr dp K H K2 H2 → DealOk dp K2 H2 s' → Rep X.K K2 v (.lst ds) → Q v H2 := q
    have hkx : Ex K2 (upd K2 p (.lst vs)) := fun b o e => by rw [upd_ne (ne_of_none e hk)]; exact e
    refine q' (.ref p) (upd K2 p (.lst vs)) H2 ⟨Ex.tr g.kk hkx, fun b o e => ?_, fun a ha => ?_, g.fr⟩ ?_ (.lst upd_same (rs.mono hkx))
    · by_cases hb : b = p
      · subst hb
        rw [upd_same] at e
        cases e
        exact h2
      · rw [upd_ne hb] at e
        exact g.sub _ _ e
    · rw [upd_ne (fun z => ha (by rw [z]; exact hp))]
      exact g.new a ha
    · refine ⟨hd2.1, fun x y hp' => ?_⟩
      obtain ⟨a1, a3, a4⟩ := hd2.2 x y hp'
      obtain ⟨⟨b1, b2⟩, _⟩ := hd.2 x y hp'
      refine ⟨a1, ?_, ?_⟩
      · rw [upd_ne (fun z => by rw [z, hp] at b1; cases b1)]
        exact a3
      · rw [upd_ne (fun z => by rw [z, hp] at b2; cases b2)]
        exact a4
theorem lst_fr {es : List Expr} {pos : Pos} {ma : EA} (ha : EvA X W es ma) : EvFr X W (.List es pos) (E.lst ma) := fun dp σ env K H s hE he hd Q q => by
  refine sem_of (pe_lst (t := semA X es) pa_sem) ?_
  have q' : PostFr X.K dp K H (M.bind (ma env) (fun xs => if xs.length ≤ sizeLine then pure (.lst xs) else stuck) s) Q (fun c d H => W c d σ H) := q
  refine ha dp σ env K H s hE he hd _ ?_
  unfold M.bind at q'
  cases hm : ma env s with
  | stuck => rw [hm] at q'; exact q'.elim
  | exc c fs s' => rw [hm] at q'; exact q'
  | ok xs s' =>
    rw [hm] at q'
    intro vs K2 H2 g hd2 rs
    have q2 : PostFr X.K dp K H ((if xs.length ≤ sizeLine then pure (.lst xs) else stuck : M D) s') Q (fun c d H => W c d σ H) := q'
    by_cases hz : xs.length ≤ sizeLine
    · rw [if_pos hz] at q2
      refine ⟨by rw [rs.len]; exact hz, fun p hp => ?_⟩
      have g2 : Gr dp K2 H2 K2 (upd H2 p (.lst vs)) := Gr.add0 g.sub hp
      exact q2 p vs K2 _ (Gr.trans hd g hd2 g2) (g2.deal hd2 (ex_upd hp)) (g.back hd2 hp) upd_same (ex_none g.sub hp) rs
    · rw [if_neg hz] at q2
      exact q2.elim
theorem list_fr {x : Str} {e : Expr} {p pos : Pos} {ma : EA} (hg : Gl X "list") (hm : X.mg "list" = none) (ha : EvA X W [e] ma)
    (he : starEach [e] X.env = (false, eval e X.env) :: starEach [] X.env := by rfl) : EvFr X W (.Call (.Name "list" p) [e] [] pos) (E.opL dList ma) := fun dp σ env K H s hE heK hd Q q pins sh I => by
  refine wpAny_Call_Name_kw (ld_blt I hg hm boot_list ?_)
  have q' : PostFr X.K dp K H (M.bind (ma env) dList s) Q (fun c d H => W c d σ H) := q
  refine PyProof.Rows.callWith_type1 (thn (ha dp σ env K H s hE heK hd (fun xs H2 => ∃ p ys, xs = [.ref p] ∧ (SqL X.K H2 p ys ∨ SqT X.K H2 p ys) ∧ ∀ l, H2 l = none → Q (.ref l) (upd H2 l (.lst ys))) ?_ pos pins sh I) fun us s1 ⟨vs, H1, I1, r1, q1⟩ => call_list_of pins s1 σ H1 vs us Q I1 r1 q1) he rfl
  unfold M.bind at q'
  cases hma : ma env s with
  | stuck => rw [hma] at q'; exact q'.elim
  | exc c fs s' => rw [hma] at q'; exact q'
  | ok xs s' =>
    rw [hma] at q'
    intro vs K2 H2 g hd2 rs
    match xs, rs, q' with
    | [], _, q => exact q.elim
    | _ :: _ :: _, .cons r _, q => cases r <;> exact q.elim
    | [d], .cons (v := v) r .nil, q =>
      have fin : ∀ (vs : List V) (ds : List D), Reps X.K K2 vs ds → PostFr X.K dp K H (.ok (.lst ds) s') Q (fun c d H => W c d σ H) → ∀ l, H2 l = none → Q (.ref l) (upd H2 l (.lst vs)) := fun vs ds rs q l hl => by
        have g2 : Gr dp K2 H2 K2 (upd H2 l (.lst vs)) := Gr.add0 g.sub hl
        exact q l vs K2 _ (Gr.trans hd g hd2 g2) (g2.deal hd2 (ex_upd hl)) (g.back hd2 hl) upd_same (ex_none g.sub hl) rs
      cases r with
      | @lst a vs ds h rs => exact ⟨_, _, rfl, .inl (.inl (.inl (g.sub _ _ h))), fin vs ds rs q⟩
      | @lsk a vs ds h rs => exact ⟨_, _, rfl, .inl (sqL_mono g.sub h), fin vs ds rs q⟩
      | @tup a vs ds h rs => exact ⟨_, _, rfl, .inr (sqT_mono g.sub h.sqT), fin vs ds rs q⟩
      | _ => exact q.elim
theorem mul_fr {a b : Expr} {pos : Pos} {ma mb : EM} (ha : EvX X W a ma) (hb : EvX X W b mb) : EvFr X W (.BinOp a .Mult b pos) (E.op2 dMul ma mb) := fun dp σ env K H s hE he hd Q q => by
  refine sem_of (pe_op (ta := sem X a) (tb := sem X b) op_rep pe_sem pe_sem) ?_
  have q' : PostFr X.K dp K H (M.bind (ma env) (fun x => mb env >>= fun y => dMul x y) s) Q (fun c d H => W c d σ H) := q
  refine ha dp σ env K H s hE he hd _ ?_
  unfold M.bind at q'
  cases hma : ma env s with
  | stuck => rw [hma] at q'; exact q'.elim
  | exc c fs s' => rw [hma] at q'; exact q'
  | ok x s' =>
    rw [hma] at q'
    intro v K2 H2 g hd2 r
    have q2 : PostFr X.K dp K H (M.bind (mb env) (fun y => dMul x y) s') Q (fun c d H => W c d σ H) := q'
    refine hb dp σ env K2 H2 s' (hE.mono g.kk) g.sub hd2 _ ?_
    unfold M.bind at q2
    cases hmb : mb env s' with
    | stuck => rw [hmb] at q2; exact q2.elim
    | exc c fs s2 => rw [hmb] at q2; exact fun dx gs K3 H3 g3 hd3 r1 r2 => q2 dx gs K3 H3 (Gr.trans hd g hd2 g3) hd3 r1 r2
    | ok y s2 =>
      rw [hmb] at q2
      intro w K3 H3 g3 hd3 r3
      have G := Gr.trans hd g hd2 g3
      cases (r.mono g3.kk) with
      | @lst l vs ds h rs =>
        cases r3 with
        | int k =>
          have q3 : PostFr X.K dp K H ((if (-(2 ^ 63) ≤ k ∧ k < 2 ^ 63) ∧ ds.length * k.toNat ≤ sizeLine then pure (.lst (List.replicate k.toNat ds).flatten) else stuck : M D) s2) Q (fun c d H => W c d σ H) := q2
          by_cases hz : (-(2 ^ 63) ≤ k ∧ k < 2 ^ 63) ∧ ds.length * k.toNat ≤ sizeLine
          · rw [if_pos hz] at q3
            refine ⟨l, k, vs, rfl, rfl, g3.sub _ _ h, hz.1.1, hz.1.2, by rw [rs.len]; exact hz.2, fun p hp => ?_⟩
            have g4 : Gr dp K3 H3 K3 (upd H3 p (.lst (List.replicate k.toNat vs).flatten)) := Gr.add0 g3.sub hp
            exact q3 p _ K3 _ (Gr.trans hd G hd3 g4) (g4.deal hd3 (ex_upd hp)) (G.back hd3 hp) upd_same (ex_none g3.sub hp) (reps_rep rs _)
          · rw [if_neg hz] at q3
            exact q3.elim
        | _ => exact q2.elim
      | int i => cases r3 <;> first | exact q2.elim | (
          have q3 : PostFr X.K dp K H ((if CMul i _ then pure (.int (i * _)) else stuck : M D) s2) Q (fun c d H => W c d σ H) := q2
          split at q3 <;> exact q3.elim)
      | _ => cases r3 <;> exact q2.elim
theorem lcM_lst {env0 : Env} {t : Tg} {tst : ET} {elt : EM} {src : EL} {vs : List Nat} (env : Env) (s : DS) (d : D) (s' : DS) (h : E.lc vs src t tst elt env s = .ok d s') : ∃ ds, d = .lst ds := by
  have h' : M.bind (src env) (fun ds => M.bind (lcM (wipeE env vs) t tst elt ds []) fun out => (pure (.lst out) : M D)) s = .ok d s' := h
  unfold M.bind at h'
  cases e : src env s with
  | ok ds s1 =>
    rw [e] at h'
    simp only at h'
    cases e2 : lcM (wipeE env vs) t tst elt ds [] s1 with
    | ok out s2 =>
      rw [e2] at h'
      cases h'
      exact ⟨_, rfl⟩
    | exc _ _ _ => rw [e2] at h'; cases h'
    | stuck => rw [e2] at h'; cases h'
  | exc _ _ _ => rw [e] at h'; cases h'
  | stuck => rw [e] at h'; cases h'
theorem PostJ.casesFr {F : Fg} {dp : DP} {K H : Hp} {m : M (List D)} {f : List D → M D} {s : DS} {Q : VK} {E : XK} {R : It → Hp → Prop} (h : PostFr F dp K H ((m >>= f) s) Q E)
    (k : ∀ ds J K2 H2 s2, Gr dp K H K2 H2 → DealOk dp K2 H2 s2 → Yields F J K2 ds → PostFr F dp K H (f ds s2) Q E → R J H2) : PostJ F dp K H (m s) R E := by
  rcases PostFr.cases h with ⟨y, s', e, q⟩ | ⟨c, fs, s', e, q⟩
  · rw [e]
    exact fun J K2 H2 g hd ys => k y J K2 H2 s' g hd ys q
  · rw [e]
    exact q
theorem PostFr.later {F : Fg} {dp : DP} {K H K2 H2 : Hp} {s s2 : DS} {r : Res D} {Q : VK} {E : XK} (h0 : DealOk dp K H s) (g : Gr dp K H K2 H2) (h2 : DealOk dp K2 H2 s2) (h : PostFr F dp K H r Q E) : PostFr F dp K2 H2 r Q E := by
  cases r with
  | ok d s' =>
    cases d with
    | lst ds => exact fun p vs K3 H3 g3 hd hp h3 k3 r => h p vs K3 H3 (Gr.trans h0 g h2 g3) hd (g.back h2 hp) h3 k3 r
    | _ => exact h
  | exc c fs s' => exact fun dx gs K3 H3 g3 hd r1 r2 => h dx gs K3 H3 (Gr.trans h0 g h2 g3) hd r1 r2
  | stuck => exact h
theorem lc_read {tg iter : Expr} {own : List Nat} {src : EL} {t : Tg} {tst : ET} {elt : EM} {tt : TT} {te : TE} (hi : EvI X W tg iter src) (hsl : ∀ j ∈ t.slots, j ∈ own)
    (ht : ∀ dp σ env K H s, RelE X.K σ env K → Ex K H → DealOk dp K H s → ∀ Q, PostB X.K dp K H (tst env s) Q (fun _ _ _ => False) → tt σ H Q)
    (hel : ∀ dp σ env K H s, RelE X.K σ env K → Ex K H → DealOk dp K H s → ∀ Q, Post X.K dp K H (elt env s) Q (fun _ _ _ => False) → te σ H Q)
    {dp : DP} {σ : Sg} {env : Env} {K H : Hp} {s : DS} (hE : RelE X.K σ env K) (he : Ex K H) (hd : DealOk dp K H s) {Q : VK} (q : PostFr X.K dp K H (E.lc own src t tst elt env s) Q (fun c d H => W c d σ H)) :
    tLc (semI X tg iter) (t.g X.K) tt te own σ H Q := by
  refine hi dp σ env K H s hE he hd _ (PostJ.casesFr q fun ds J K2 H2 s2 g hd2 ys q2 L hL => ?_)
  exact lc_run hsl rfl (hE.mono g.kk) g.sub hd2 ys hL ht hel (PostFr.later hd g hd2 q2)
section
variable {elt tg iter : Expr} {scope : Scope} {own : List (Str × Nat)} {pos : Pos} {src : EL} {t : Tg} {me : EM} {mt : ET} {c : Expr}
abbrev Cx.bk (X : Cx) (scope : Scope) (z : Shared × Hp × Addr × List (Str × Addr) × List Addr) : Cx := L2.Cx.blk X z.1 z.2.1 scope (compEnvC scope z.2.2.2.1 z.2.2.1 X.env) z.2.2.2.2
def teB (X : Cx) (scope : Scope) (e : Expr) : TE := fun σ H Q => ∀ z, sem (Cx.bk X scope z) e σ H Q
def ttB (X : Cx) (scope : Scope) (e : Expr) : TT := fun σ H Q => ∀ z, semT (Cx.bk X scope z) e σ H Q
theorem lc_fr0 (hc : X.calm = true) (hN : X.N.Nodup) (hi : EvI X W tg iter src) (ok : BlkOk X.N X.env.scope scope own) (hsl : ∀ j ∈ t.slots, j ∈ own.map (·.2)) (hg : ∀ z, PG (Cx.bk X scope z) tg (t.g X.K)) (he : ∀ z, EvX (Cx.bk X scope z) W0 elt me)
    (hs : ∀ x, foldedSetIterable iter X.env x = pure x := by intro _; rfl) : EvFr X W (.ListComp elt [⟨tg, iter, [], 0⟩] scope pos) (E.lc (own.map (·.2)) src t E.yes me) := fun dp σ env K H s hE heK hd Q q => by
  refine sem_of (pe_lc (g := t.g X.K) (wi := semI X tg iter) (tt := tYes) (te := teB X scope elt) hc hN pi_sem ok (fun s H C cl fp => hg (s, H, C, cl, fp)) (fun _ _ _ _ _ => pts_nil) (fun s H C cl fp => ⟨fun pins s' σ H' Q I h => h (s, H, C, cl, fp) pins s' I⟩) hs) ?_
  exact lc_read (tst := E.yes) hi hsl (fun dp σ env K H s hE he hd Q q => (show ∀ K2 H2, Gr dp K H K2 H2 → DealOk dp K2 H2 s → Q true H2 from q) K H (Gr.rfl' he) hd) (fun dp σ env K H s hE heK hd Q q z => he z dp σ env K H s hE heK hd Q q) hE heK hd q
theorem lc_fr1 (hc : X.calm = true) (hN : X.N.Nodup) (hi : EvI X W tg iter src) (ok : BlkOk X.N X.env.scope scope own) (hsl : ∀ j ∈ t.slots, j ∈ own.map (·.2)) (hg : ∀ z, PG (Cx.bk X scope z) tg (t.g X.K)) (ht : ∀ z, EvT (Cx.bk X scope z) W0 c mt) (he : ∀ z, EvX (Cx.bk X scope z) W0 elt me)
    (hs : ∀ x, foldedSetIterable iter X.env x = pure x := by intro _; rfl) : EvFr X W (.ListComp elt [⟨tg, iter, [c], 0⟩] scope pos) (E.lc (own.map (·.2)) src t mt me) := fun dp σ env K H s hE heK hd Q q => by
  refine sem_of (pe_lc (g := t.g X.K) (wi := semI X tg iter) (tt := ttB X scope c) (te := teB X scope elt) hc hN pi_sem ok (fun s H C cl fp => hg (s, H, C, cl, fp)) (fun s H C cl fp => pts_one ⟨fun pins s' σ H' Q I h => h (s, H, C, cl, fp) pins s' I⟩) (fun s H C cl fp => ⟨fun pins s' σ H' Q I h => h (s, H, C, cl, fp) pins s' I⟩) hs) ?_
  exact lc_read hi hsl (fun dp σ env K H s hE heK hd Q q z => ht z dp σ env K H s hE heK hd Q q) (fun dp σ env K H s hE heK hd Q q z => he z dp σ env K H s hE heK hd Q q) hE heK hd q
theorem e_lc {e : Expr} {own : List Nat} (h : EvFr X W e (E.lc own src t mt me)) : EvX X W e (E.lc own src t mt me) := h.x (fun env s d s' z => lcM_lst (env0 := env) env s d s' z)
end
end
end T
end
section
set_option Elab.async false
set_option linter.all false
set_option maxRecDepth 100000
set_option maxHeartbeats 4000000
namespace T
open PySem PySem.Spec PyProof.Rows L2
inductive SV where
  | val (d : D)
  | own (ds : List D)
  | slf (c : Str) (fs : List (Str × D))
abbrev VEnv := List (Option SV)
def seen1 (vis : List Nat) (i : Nat) : Option SV → Option D
  | some (.val d) => some d
  | some (.own ds) => if vis.contains i = true then some (.lst ds) else none
  | some (.slf c fs) => if vis.contains i = true then some (.ins c fs) else none
  | _ => none
def view (vis : List Nat) : Nat → VEnv → Env
  | _, [] => []
  | i, x :: r => seen1 vis i x :: view vis (i + 1) r
theorem view_length (vis : List Nat) : ∀ (i : Nat) (env : VEnv), (view vis i env).length = env.length
  | _, [] => rfl
  | i, x :: r => congrArg (· + 1) (view_length vis (i + 1) r)
theorem view_get (vis : List Nat) : ∀ (k : Nat) (env : VEnv) (i : Nat), (view vis k env)[i]? = (env[i]?).map (seen1 vis (k + i))
  | _, [], i => by simp [view]
  | k, x :: r, 0 => by simp [view]
  | k, x :: r, i + 1 => by
    simp only [view, List.getElem?_cons_succ]
    rw [view_get vis (k + 1) r i]
    have e : k + 1 + i = k + (i + 1) := by omega
    rw [e]
def Own (env : VEnv) (i : Nat) : Prop := (∃ ds, env[i]? = some (some (SV.own ds))) ∨ ∃ c fs, env[i]? = some (some (SV.slf c fs))
structure Sta (F : Fg) (dp : DP) (K0 H0 : Hp) (σ : Sg) (env : VEnv) (K H : Hp) (s : DS) : Prop where
  gr : Gr dp K0 H0 K H
  dl : DealOk dp K H s
  d0 : ∃ s0, DealOk dp K0 H0 s0
  e0 : Ex K0 H0
  len : σ.length = env.length
  val : ∀ (i : Nat) (d : D), env[i]? = some (some (SV.val d)) → ∃ v, σ[i]? = some (some v) ∧ Rep F K v d
  own : ∀ (i : Nat) (ds : List D), env[i]? = some (some (SV.own ds)) → ∃ a vs, σ[i]? = some (some (V.ref a)) ∧ H a = some (.lst vs) ∧ H0 a = none ∧ K a = none ∧ Reps F K vs ds
  slf : ∀ (i : Nat) (c : Str) (fs : List (Str × D)), env[i]? = some (some (SV.slf c fs)) → ∃ a dx gs, a = dp.self ∧ σ[i]? = some (some (V.ref a)) ∧ H a = some (.ins (He.ga F c) dx gs) ∧ H0 a = none ∧ K a = none ∧ RepF F K gs fs
  apart : ∀ (i j : Nat) (a : Addr), Own env i → Own env j → σ[i]? = some (some (V.ref a)) → σ[j]? = some (some (V.ref a)) → i = j
mutual
def noLst (b : Bool) : D → Bool
  | .lst _ => false
  | .tup xs => noLsts b xs
  | .lsk _ => false
  | .ins _ fs => !b && noLstF b fs
  | .exc _ _ _ fs => noLstF b fs
  | _ => true
def noLsts (b : Bool) : List D → Bool
  | [] => true
  | x :: r => noLst b x && noLsts b r
def noLstF (b : Bool) : List (Str × D) → Bool
  | [] => true
  | x :: r => noLst b x.2 && noLstF b r
end
def isSlf : Option (Option SV) → Bool
  | some (some (.slf _ _)) => true
  | _ => false
def selfSeen (vis : List Nat) (env : VEnv) : Bool := vis.any fun i => isSlf env[i]?
def Seen (vis : List Nat) (σ : Sg) (env : VEnv) (b : Addr) : Prop := ∃ i, vis.contains i = true ∧ Own env i ∧ σ[i]? = some (some (V.ref b))
def OwnO (b : Bool) (o : HO) : Prop := (∃ vs, o = .lst vs) ∨ (b = true ∧ ∃ C dx gs, o = .ins C dx gs)
open Classical in
noncomputable def plusK (P : Addr → Prop) (K H : Hp) : Hp := fun b => if P b then H b else K b
open Classical in
noncomputable def lessK (P : Addr → Prop) (K : Hp) : Hp := fun b => if P b then none else K b
theorem plusK_yes {P : Addr → Prop} {K H : Hp} {b : Addr} (h : P b) : plusK P K H b = H b := if_pos h
theorem plusK_no {P : Addr → Prop} {K H : Hp} {b : Addr} (h : ¬ P b) : plusK P K H b = K b := if_neg h
theorem lessK_yes {P : Addr → Prop} {K : Hp} {b : Addr} (h : P b) : lessK P K b = none := if_pos h
theorem lessK_no {P : Addr → Prop} {K : Hp} {b : Addr} (h : ¬ P b) : lessK P K b = K b := if_neg h
theorem sqT_less {F : Fg} {P : Addr → Prop} {K : Hp} {fl : Bool} {a : Addr} {vs : List V} (hP : ∀ b, P b → ∃ o, K b = some o ∧ OwnO fl o) (h : SqT F K a vs) : SqT F (lessK P K) a vs := by
  rcases h with (h | ⟨o, h⟩) | h
  · exact .inl (.inl (by rw [lessK_no (fun p => by obtain ⟨z, e, e2⟩ := hP a p; rw [h] at e; cases e; rcases e2 with ⟨_, e2⟩ | ⟨_, _, _, _, e2⟩ <;> cases e2)]; exact h))
  · exact .inl (.inr ⟨o, by rw [lessK_no (fun p => by obtain ⟨z, e, e2⟩ := hP a p; rw [h] at e; cases e; rcases e2 with ⟨_, e2⟩ | ⟨_, _, _, _, e2⟩ <;> cases e2)]; exact h⟩)
  · exact .inr h
theorem tupN_less {F : Fg} {P : Addr → Prop} {K : Hp} {fl : Bool} {a : Addr} {vs : List V} (hP : ∀ b, P b → ∃ o, K b = some o ∧ OwnO fl o) (h : TupN F K a vs) : TupN F (lessK P K) a vs := by
  rcases h with ⟨o, h, hd⟩ | h
  · exact .inl ⟨o, by rw [lessK_no (fun p => by obtain ⟨z, e, e2⟩ := hP a p; rw [h] at e; cases e; rcases e2 with ⟨_, e2⟩ | ⟨_, _, _, _, e2⟩ <;> cases e2)]; exact h, hd⟩
  · exact .inr h
theorem sqL_less {F : Fg} {P : Addr → Prop} {K : Hp} {a : Addr} {vs : List V} (hP : ¬ P a) (h : SqL F K a vs) : SqL F (lessK P K) a vs := by
  rcases h with (h | ⟨o, h⟩) | h
  · exact .inl (.inl (by rw [lessK_no hP]; exact h))
  · exact .inl (.inr ⟨o, by rw [lessK_no hP]; exact h⟩)
  · exact .inr h
mutual
theorem rep_less {F : Fg} {P : Addr → Prop} {K : Hp} {fl : Bool} (hP : ∀ b, P b → ∃ o, K b = some o ∧ OwnO fl o) : ∀ {v : V} {d : D}, Rep F K v d → noLst fl d = true → Rep F (lessK P K) v d
  | _, _, .non, _ => .non
  | _, _, .bl b, _ => .bl b
  | _, _, .int i, _ => .int i
  | _, _, .str x, _ => .str x
  | _, _, .tup h r, p => .tup (tupN_less hP h) (reps_less hP r p)
  | _, _, .lst h r, p => by cases p
  | _, _, .lsk h r, p => by cases p
  | _, _, .ins (a := a) h r, p => .ins (by rw [lessK_no (fun q => by obtain ⟨z, e, e2⟩ := hP a q; rw [h] at e; cases e; rcases e2 with ⟨_, e2⟩ | ⟨e2, _⟩; cases e2; rw [e2] at p; cases p)]; exact h) (repF_less hP r (Bool.and_eq_true_iff.mp p).2)
  | _, _, .ref a, _ => .ref a
  | _, _, .exc (dx := dx) h r, p => .exc (by rw [lessK_no (fun q => by obtain ⟨z, e, e2⟩ := hP dx q; rw [h] at e; cases e; rcases e2 with ⟨_, e2⟩ | ⟨_, _, _, _, e2⟩ <;> cases e2)]; exact h) (repF_less hP r p)
theorem reps_less {F : Fg} {P : Addr → Prop} {K : Hp} {fl : Bool} (hP : ∀ b, P b → ∃ o, K b = some o ∧ OwnO fl o) : ∀ {v : List V} {d : List D}, Reps F K v d → noLsts fl d = true → Reps F (lessK P K) v d
  | _, _, .nil, _ => .nil
  | _, _, .cons h r, p => .cons (rep_less hP h (Bool.and_eq_true_iff.mp p).1) (reps_less hP r (Bool.and_eq_true_iff.mp p).2)
theorem repF_less {F : Fg} {P : Addr → Prop} {K : Hp} {fl : Bool} (hP : ∀ b, P b → ∃ o, K b = some o ∧ OwnO fl o) : ∀ {v : List (Str × V)} {d : List (Str × D)}, RepF F K v d → noLstF fl d = true → RepF F (lessK P K) v d
  | _, _, .nil, _ => .nil
  | _, _, .cons h r, p => .cons (rep_less hP h (Bool.and_eq_true_iff.mp p).1) (repF_less hP r (Bool.and_eq_true_iff.mp p).2)
end
section
variable {F : Fg} {dp : DP} {K0 H0 K H K2 H2 : Hp} {σ : Sg} {env : VEnv} {s s2 : DS}
theorem NotDeal.fresh {s0 : DS} (h : DealOk dp K0 H0 s0) {a : Addr} (n : H0 a = none) : NotDeal dp a := fun p q hp => by
  obtain ⟨⟨b1, b2⟩, _⟩ := h.2 p q hp
  refine ⟨fun z => ?_, fun z => ?_⟩
  · rw [z, b1] at n
    cases n
  · rw [z, b2] at n
    cases n
theorem Sta.seen (S : Sta F dp K0 H0 σ env K H s) {vis : List Nat} {b : Addr} (h : Seen vis σ env b) : ∃ o, H b = some o ∧ K b = none ∧ H0 b = none ∧ NotDeal dp b ∧ OwnO (selfSeen vis env) o := by
  obtain ⟨i, hv, ho, h3⟩ := h
  obtain ⟨s0, d0⟩ := S.d0
  rcases ho with ⟨ds, h2⟩ | ⟨c, fs, h2⟩
  · obtain ⟨a, vs, e1, e2, e3, e4, _⟩ := S.own i ds h2
    rw [h3] at e1
    cases e1
    exact ⟨_, e2, e4, e3, NotDeal.fresh d0 e3, .inl ⟨vs, rfl⟩⟩
  · obtain ⟨a, dx, gs, e0, e1, e2, e3, e4, _⟩ := S.slf i c fs h2
    rw [h3] at e1
    cases e1
    exact ⟨_, e2, e4, e3, NotDeal.fresh d0 e3, .inr ⟨List.any_eq_true.mpr ⟨i, by simpa using hv, by rw [h2]; rfl⟩, _, _, _, rfl⟩⟩
theorem Sta.plus (S : Sta F dp K0 H0 σ env K H s) (vis : List Nat) : Ex K (plusK (Seen vis σ env) K H) ∧ Ex (plusK (Seen vis σ env) K H) H ∧ DealOk dp (plusK (Seen vis σ env) K H) H s ∧ RelE F σ (view vis 0 env) (plusK (Seen vis σ env) K H) := by
  have hk : Ex K (plusK (Seen vis σ env) K H) := fun b o e => by
    rw [plusK_no (fun p => by obtain ⟨_, _, k, _⟩ := S.seen p; rw [k] at e; cases e)]
    exact e
  refine ⟨hk, fun b o e => ?_, ⟨S.dl.1, fun p q hp => ?_⟩, by rw [view_length]; exact S.len, fun i d hi => ?_⟩
  · by_cases hb : Seen vis σ env b
    · rw [plusK_yes hb] at e
      exact e
    · rw [plusK_no hb] at e
      exact S.gr.sub _ _ e
  · obtain ⟨a1, a2, a3⟩ := S.dl.2 p q hp
    refine ⟨a1, ?_, ?_⟩
    · rw [plusK_no (fun z => by obtain ⟨_, _, _, _, nd, _⟩ := S.seen z; exact (nd p q hp).1 rfl)]
      exact a2
    · rw [plusK_no (fun z => by obtain ⟨_, _, _, _, nd, _⟩ := S.seen z; exact (nd p q hp).2 rfl)]
      exact a3
  · rw [view_get, Nat.zero_add] at hi
    cases he : env[i]? with
    | none => rw [he] at hi; cases hi
    | some x =>
      rw [he] at hi
      have hi' : seen1 vis i x = some d := Option.some.inj hi
      cases x with
      | none => cases hi'
      | some y =>
        cases y with
        | val z =>
          cases hi'
          obtain ⟨v, h1, h2⟩ := S.val i d he
          exact ⟨v, h1, h2.mono hk⟩
        | own ds =>
          have hi2 : (if vis.contains i = true then some (D.lst ds) else none) = some d := hi'
          by_cases hv : vis.contains i = true
          · rw [if_pos hv] at hi2
            cases hi2
            obtain ⟨a, vs, e1, e2, e3, e4, e5⟩ := S.own i ds he
            refine ⟨.ref a, e1, .lst ?_ (e5.mono hk)⟩
            rw [plusK_yes ⟨i, hv, .inl ⟨ds, he⟩, e1⟩]
            exact e2
          · rw [if_neg hv] at hi2
            cases hi2
        | slf c fs =>
          have hi2 : (if vis.contains i = true then some (D.ins c fs) else none) = some d := hi'
          by_cases hv : vis.contains i = true
          · rw [if_pos hv] at hi2
            cases hi2
            obtain ⟨a, dx, gs, e0, e1, e2, e3, e4, e5⟩ := S.slf i c fs he
            refine ⟨.ref a, e1, .ins (dx := dx) ?_ (e5.mono hk)⟩
            rw [plusK_yes ⟨i, hv, .inr ⟨c, fs, he⟩, e1⟩]
            exact e2
          · rw [if_neg hv] at hi2
            cases hi2
theorem Sta.less (S : Sta F dp K0 H0 σ env K H s) {vis : List Nat} (g : Gr dp (plusK (Seen vis σ env) K H) H K2 H2) (hd : DealOk dp K2 H2 s2) : Sta F dp K0 H0 σ env (lessK (Seen vis σ env) K2) H2 s2 := by
  obtain ⟨p1, p2, p3, p4⟩ := S.plus vis
  have kk : Ex K (lessK (Seen vis σ env) K2) := fun b o e => by
    rw [lessK_no (fun p => by obtain ⟨_, _, k, _⟩ := S.seen p; rw [k] at e; cases e)]
    exact g.kk _ _ (p1 _ _ e)
  have nn : ∀ a, H0 a = none → H a ≠ none → K a = none → lessK (Seen vis σ env) K2 a = none := fun a h0 hH hk => by
    by_cases hs : Seen vis σ env a
    · exact lessK_yes hs
    · rw [lessK_no hs, g.new a hH, plusK_no hs]
      exact hk
  obtain ⟨s0, d0⟩ := S.d0
  have there : ∀ a, H0 a ≠ none → H a ≠ none := fun a ha z => by
    cases e : H0 a with
    | none => exact ha e
    | some o =>
      by_cases nd : NotDeal dp a
      · rw [S.gr.fr a o e nd] at z
        cases z
      · refine nd fun p q hp => ?_
        obtain ⟨⟨b1, b2⟩, _⟩ := S.dl.2 p q hp
        refine ⟨fun y => ?_, fun y => ?_⟩
        · rw [y, b1] at z
          cases z
        · rw [y, b2] at z
          cases z
  refine ⟨⟨Ex.tr S.gr.kk kk, fun b o e => ?_, fun a ha => ?_, fun a o h nd => g.fr a o (S.gr.fr a o h nd) nd⟩, ⟨hd.1, fun p q hp => ?_⟩, ⟨s0, d0⟩, S.e0, S.len, fun i d hi => ?_, fun i ds hi => ?_, fun i c fs hi => ?_, S.apart⟩
  · by_cases hb : Seen vis σ env b
    · rw [lessK_yes hb] at e
      cases e
    · rw [lessK_no hb] at e
      exact g.sub _ _ e
  · have ns : ¬ Seen vis σ env a := fun p => by
      obtain ⟨_, _, _, h, _⟩ := S.seen p
      exact ha h
    rw [lessK_no ns, g.new a (there a ha), plusK_no ns, S.gr.new a ha]
  · obtain ⟨a1, a2, a3⟩ := hd.2 p q hp
    refine ⟨a1, ?_, ?_⟩
    · rw [lessK_no (fun z => by obtain ⟨_, _, _, _, nd, _⟩ := S.seen z; exact (nd p q hp).1 rfl)]
      exact a2
    · rw [lessK_no (fun z => by obtain ⟨_, _, _, _, nd, _⟩ := S.seen z; exact (nd p q hp).2 rfl)]
      exact a3
  · obtain ⟨v, h1, h2⟩ := S.val i d hi
    exact ⟨v, h1, h2.mono kk⟩
  · obtain ⟨a, vs, e1, e2, e3, e4, e5⟩ := S.own i ds hi
    exact ⟨a, vs, e1, g.fr a _ e2 (NotDeal.fresh d0 e3), e3, nn a e3 (by rw [e2]; simp) e4, e5.mono kk⟩
  · obtain ⟨a, dx, gs, e0, e1, e2, e3, e4, e5⟩ := S.slf i c fs hi
    exact ⟨a, dx, gs, e0, e1, g.fr a _ e2 (NotDeal.fresh d0 e3), e3, nn a e3 (by rw [e2]; simp) e4, e5.mono kk⟩
theorem Sta.end_ (S : Sta F dp K0 H0 σ env K H s) {vis : List Nat} (g : Gr dp (plusK (Seen vis σ env) K H) H K2 H2) (hd : DealOk dp K2 H2 s2) : Gr dp K0 H0 K2 H2 := by
  obtain ⟨p1, p2, p3, p4⟩ := S.plus vis
  obtain ⟨s0, d0⟩ := S.d0
  have L := S.less g hd
  refine ⟨Ex.tr S.gr.kk (Ex.tr p1 g.kk), g.sub, fun a ha => ?_, L.gr.fr⟩
  have ns : ¬ Seen vis σ env a := fun p => by
    obtain ⟨_, _, _, h, _⟩ := S.seen p
    exact ha h
  rw [← L.gr.new a ha, lessK_no ns]
end
namespace Bd
def okV (vis : List Nat) (env : VEnv) (d : D) : Bool := vis.isEmpty || noLst (selfSeen vis env) d
def okF (vis : List Nat) (env : VEnv) (fs : List (Str × D)) : Bool := vis.isEmpty || noLstF (selfSeen vis env) fs
def ev (vis : List Nat) (m : EM) : VEnv → M D := fun env s => match m (view vis 0 env) s with
  | .ok d s' => if okV vis env d = true then .ok d s' else .stuck
  | .exc c fs s' => if okF vis env fs = true then .exc c fs s' else .stuck
  | .stuck => .stuck
def evT (vis : List Nat) (m : ET) : VEnv → M Bool := fun env s => match m (view vis 0 env) s with
  | .ok d s' => .ok d s'
  | .exc c fs s' => if okF vis env fs = true then .exc c fs s' else .stuck
  | .stuck => .stuck
end Bd
section
variable {X : Cx} {W : WX} {dp : DP} {K0 H0 K H K2 H2 : Hp} {σ : Sg} {env : VEnv} {s s2 : DS}
def PostE (F : Fg) (dp : DP) (K0 H0 : Hp) (σ : Sg) (env : VEnv) (K : Hp) (r : Res D) (Q : VK) (W : WX) : Prop := match r with
  | .ok d s => ∀ v K2 H2, Sta F dp K0 H0 σ env K2 H2 s → Ex K K2 → Rep F K2 v d → Q v H2
  | .exc c fs s => ∀ dx gs K2 H2, Sta F dp K0 H0 σ env K2 H2 s → Ex K K2 → K2 dx = some (.xd gs) → RepF F K2 gs fs → W (.ref (He.ga F c)) (some dx) σ H2
  | .stuck => False
def PostET (F : Fg) (dp : DP) (K0 H0 : Hp) (σ : Sg) (env : VEnv) (K : Hp) (r : Res Bool) (Q : Bool → Hp → Prop) (W : WX) : Prop := match r with
  | .ok b s => ∀ K2 H2, Sta F dp K0 H0 σ env K2 H2 s → Ex K K2 → Q b H2
  | .exc c fs s => ∀ dx gs K2 H2, Sta F dp K0 H0 σ env K2 H2 s → Ex K K2 → K2 dx = some (.xd gs) → RepF F K2 gs fs → W (.ref (He.ga F c)) (some dx) σ H2
  | .stuck => False
theorem Seen.nil {b : Addr} : ¬ Seen [] σ env b := fun ⟨i, h, _⟩ => by simp at h
theorem lessK_nil {K2 : Hp} : lessK (Seen [] σ env) K2 = K2 := funext fun b => lessK_no Seen.nil
theorem plusK_nil {K2 H2 : Hp} : plusK (Seen [] σ env) K2 H2 = K2 := funext fun b => plusK_no Seen.nil
theorem Sta.known (S : Sta X.K dp K0 H0 σ env K H s) {vis : List Nat} (g : Gr dp (plusK (Seen vis σ env) K H) H K2 H2) : ∀ b, Seen vis σ env b → ∃ o, K2 b = some o ∧ OwnO (selfSeen vis env) o := fun b h => by
  obtain ⟨o, e, _, _, _, oo⟩ := S.seen h
  exact ⟨o, g.kk _ _ (by rw [plusK_yes h]; exact e), oo⟩
theorem Sta.lessEx (S : Sta X.K dp K0 H0 σ env K H s) {vis : List Nat} (g : Gr dp (plusK (Seen vis σ env) K H) H K2 H2) : Ex K (lessK (Seen vis σ env) K2) := fun b o e => by
  obtain ⟨p1, p2, p3, p4⟩ := S.plus vis
  rw [lessK_no (fun p => by obtain ⟨_, _, k, _⟩ := S.seen p; rw [k] at e; cases e)]
  exact g.kk _ _ (p1 _ _ e)
theorem rep_back {vis : List Nat} {v : V} {d : D} (S : Sta X.K dp K0 H0 σ env K H s) (g : Gr dp (plusK (Seen vis σ env) K H) H K2 H2) (h : Bd.okV vis env d = true) (r : Rep X.K K2 v d) : Rep X.K (lessK (Seen vis σ env) K2) v d := by
  rcases Bool.or_eq_true_iff.mp h with e | e
  · cases vis with
    | nil => rw [lessK_nil]; exact r
    | cons _ _ => cases e
  · exact rep_less (S.known g) r e
theorem repF_back {vis : List Nat} {v : List (Str × V)} {d : List (Str × D)} (S : Sta X.K dp K0 H0 σ env K H s) (g : Gr dp (plusK (Seen vis σ env) K H) H K2 H2) (h : Bd.okF vis env d = true) (r : RepF X.K K2 v d) : RepF X.K (lessK (Seen vis σ env) K2) v d := by
  rcases Bool.or_eq_true_iff.mp h with e | e
  · cases vis with
    | nil => rw [lessK_nil]; exact r
    | cons _ _ => cases e
  · exact repF_less (S.known g) r e
theorem less_xd {vis : List Nat} {dx : Addr} {gs : List (Str × V)} (S : Sta X.K dp K0 H0 σ env K H s) (g : Gr dp (plusK (Seen vis σ env) K H) H K2 H2) (h : K2 dx = some (.xd gs)) : lessK (Seen vis σ env) K2 dx = some (.xd gs) := by
  rw [lessK_no (fun p => by obtain ⟨z, e, e2⟩ := S.known g dx p; rw [h] at e; cases e; rcases e2 with ⟨_, e2⟩ | ⟨_, _, _, _, e2⟩ <;> cases e2)]
  exact h
theorem ev_x {e : Expr} {m : EM} {vis : List Nat} (he : EvX X W e m) (S : Sta X.K dp K0 H0 σ env K H s) {Q : VK} (q : PostE X.K dp K0 H0 σ env K (Bd.ev vis m env s) Q W) : sem X e σ H Q := by
  obtain ⟨p1, p2, p3, p4⟩ := S.plus vis
  refine he dp σ _ _ H s p4 p2 p3 Q ?_
  unfold Bd.ev at q
  cases hm : m (view vis 0 env) s with
  | stuck => rw [hm] at q; exact q
  | exc c fs s' =>
    rw [hm] at q
    simp only at q
    by_cases hv : Bd.okF vis env fs = true
    · rw [if_pos hv] at q
      exact fun dx gs K2 H2 g hd h1 h2 => q dx gs _ H2 (S.less g hd) (S.lessEx g) (less_xd S g h1) (repF_back S g hv h2)
    · rw [if_neg hv] at q
      exact q.elim
  | ok d s' =>
    rw [hm] at q
    simp only at q
    by_cases hv : Bd.okV vis env d = true
    · rw [if_pos hv] at q
      exact fun v K2 H2 g hd r => q v _ H2 (S.less g hd) (fun b o e => by
        rw [lessK_no (fun p => by obtain ⟨_, _, k, _⟩ := S.seen p; rw [k] at e; cases e)]
        exact g.kk _ _ (p1 _ _ e)) (rep_back S g hv r)
    · rw [if_neg hv] at q
      exact q.elim
theorem ev_t {e : Expr} {m : ET} {vis : List Nat} (he : EvT X W e m) (S : Sta X.K dp K0 H0 σ env K H s) {Q : Bool → Hp → Prop} (q : PostET X.K dp K0 H0 σ env K (Bd.evT vis m env s) Q W) : semT X e σ H Q := by
  obtain ⟨p1, p2, p3, p4⟩ := S.plus vis
  refine he dp σ _ _ H s p4 p2 p3 Q ?_
  unfold Bd.evT at q
  cases hm : m (view vis 0 env) s with
  | stuck => rw [hm] at q; exact q
  | exc c fs s' =>
    rw [hm] at q
    simp only at q
    by_cases hv : Bd.okF vis env fs = true
    · rw [if_pos hv] at q
      exact fun dx gs K2 H2 g hd h1 h2 => q dx gs _ H2 (S.less g hd) (S.lessEx g) (less_xd S g h1) (repF_back S g hv h2)
    · rw [if_neg hv] at q
      exact q.elim
  | ok d s' =>
    rw [hm] at q
    exact fun K2 H2 g hd => q _ H2 (S.less g hd) (fun b o e => by
        rw [lessK_no (fun p => by obtain ⟨_, _, k, _⟩ := S.seen p; rw [k] at e; cases e)]
        exact g.kk _ _ (p1 _ _ e))
def PostEF (F : Fg) (dp : DP) (K0 H0 : Hp) (σ : Sg) (env : VEnv) (K : Hp) (r : Res D) (Q : VK) (W : WX) : Prop := match r with
  | .ok (.lst ds) s => ∀ p vs K2 H2, Sta F dp K0 H0 σ env K2 H2 s → Ex K K2 → H2 p = some (.lst vs) → H0 p = none → K2 p = none → (∀ i a, Own env i → σ[i]? = some (some (V.ref a)) → a ≠ p) → Reps F K2 vs ds → Q (.ref p) H2
  | .ok _ _ => False
  | .exc c fs s => ∀ dx gs K2 H2, Sta F dp K0 H0 σ env K2 H2 s → Ex K K2 → K2 dx = some (.xd gs) → RepF F K2 gs fs → W (.ref (He.ga F c)) (some dx) σ H2
  | .stuck => False
namespace Bd
def evF (vis : List Nat) (m : EM) : VEnv → M D := fun env s => match m (view vis 0 env) s with
  | .ok (.lst ds) s' => if (vis.isEmpty || noLsts (selfSeen vis env) ds) = true then .ok (.lst ds) s' else .stuck
  | .ok _ _ => .stuck
  | .exc c fs s' => if okF vis env fs = true then .exc c fs s' else .stuck
  | .stuck => .stuck
end Bd
theorem ev_f' {t : TE} {m : EM} {vis : List Nat} (he : ∀ dp σ env K H s, RelE X.K σ env K → Ex K H → DealOk dp K H s → ∀ Q, PostFr X.K dp K H (m env s) Q (fun c d H => W c d σ H) → t σ H Q) (S : Sta X.K dp K0 H0 σ env K H s) {Q : VK} (q : PostEF X.K dp K0 H0 σ env K (Bd.evF vis m env s) Q W) : t σ H Q := by
  obtain ⟨p1, p2, p3, p4⟩ := S.plus vis
  refine he dp σ _ _ H s p4 p2 p3 Q ?_
  unfold Bd.evF at q
  cases hm : m (view vis 0 env) s with
  | stuck => rw [hm] at q; exact q
  | exc c fs s' =>
    rw [hm] at q
    simp only at q
    by_cases hv : Bd.okF vis env fs = true
    · rw [if_pos hv] at q
      exact fun dx gs K2 H2 g hd h1 h2 => q dx gs _ H2 (S.less g hd) (S.lessEx g) (less_xd S g h1) (repF_back S g hv h2)
    · rw [if_neg hv] at q
      exact q.elim
  | ok d s' =>
    rw [hm] at q
    cases d with
    | lst ds =>
      simp only at q
      by_cases hv : (vis.isEmpty || noLsts (selfSeen vis env) ds) = true
      · rw [if_pos hv] at q
        intro p vs K2 H2 g hd hp h2 hk rs
        have hH0 : H0 p = none := S.gr.back S.dl hp
        refine q p vs _ H2 (S.less g hd) (fun b o e => ?_) h2 hH0 ?_ (fun i a ho hi z => ?_) ?_
        · rw [lessK_no (fun p => by obtain ⟨_, _, k, _⟩ := S.seen p; rw [k] at e; cases e)]
          exact g.kk _ _ (p1 _ _ e)
        · by_cases hs : Seen vis σ env p
          · exact lessK_yes hs
          · rw [lessK_no hs]
            exact hk
        · subst z
          rcases ho with ⟨ds, ho⟩ | ⟨c, fs, ho⟩
          · obtain ⟨a', vs', e1, e2, _⟩ := S.own i ds ho
            rw [hi] at e1
            cases e1
            rw [hp] at e2
            cases e2
          · obtain ⟨a', dx, gs, _, e1, e2, _⟩ := S.slf i c fs ho
            rw [hi] at e1
            cases e1
            rw [hp] at e2
            cases e2
        · rcases Bool.or_eq_true_iff.mp hv with e | e
          · cases vis with
            | nil => rw [lessK_nil]; exact rs
            | cons _ _ => cases e
          · exact reps_less (S.known g) rs e
      · rw [if_neg hv] at q
        exact q.elim
    | _ => exact q.elim
theorem ev_f {e : Expr} {m : EM} {vis : List Nat} (he : EvFr X W e m) (S : Sta X.K dp K0 H0 σ env K H s) {Q : VK} (q : PostEF X.K dp K0 H0 σ env K (Bd.evF vis m env s) Q W) : sem X e σ H Q := ev_f' he S q
end
end T
end
section
set_option Elab.async false
set_option linter.all false
set_option maxRecDepth 100000
set_option maxHeartbeats 4000000
namespace T
open PySem PySem.Spec PyProof.Rows L2
inductive Fl where
  | nx | bk | ct | rt (d : D)
  | rtD (g : List Int) (m : Int)
  | rtL (ds : List D)
inductive RB where
  | ok (f : Fl) (env : VEnv) (s : DS)
  | exc (c : Str) (fs : List (Str × D)) (env : VEnv) (s : DS)
  | stuck
abbrev BM := VEnv → DS → RB
def PostS (F : Fg) (dp : DP) (K0 H0 K : Hp) (r : RB) (D : Ends) (W : WX) : Prop := match r with
  | .ok .nx env s => ∀ σ K2 H2, Sta F dp K0 H0 σ env K2 H2 s → Ex K K2 → D.nx σ H2
  | .ok .bk env s => ∀ σ K2 H2, Sta F dp K0 H0 σ env K2 H2 s → Ex K K2 → D.bk σ H2
  | .ok .ct env s => ∀ σ K2 H2, Sta F dp K0 H0 σ env K2 H2 s → Ex K K2 → D.ct σ H2
  | .ok (.rt d) _ s => ∀ v K2 H2, Gr dp K0 H0 K2 H2 → DealOk dp K2 H2 s → Rep F K2 v d → D.rt v H2
  | .ok (.rtD g m) _ s => ∀ p q K2 H2, Gr dp K0 H0 K2 H2 → DealOk dp K2 H2 s → H0 p = none → H0 q = none → K2 p = none → K2 q = none → H2 p = some (.lst [.ref q, .int m]) → H2 q = some (.lst (g.map V.int)) → D.rt (.ref p) H2
  | .ok (.rtL ds) _ s => ∀ p vs K2 H2, Gr dp K0 H0 K2 H2 → DealOk dp K2 H2 s → H0 p = none → K2 p = none → H2 p = some (.lst vs) → Reps F K2 vs ds → D.rt (.ref p) H2
  | .exc c fs env s => ∀ σ dx gs K2 H2, Sta F dp K0 H0 σ env K2 H2 s → Ex K K2 → K2 dx = some (.xd gs) → RepF F K2 gs fs → W (.ref (He.ga F c)) (some dx) σ H2
  | .stuck => False
def semS (X : Cx) (st : Stmt) : TS := fun D σ H => ∀ pins s, Inv X pins σ H s → wpAny (model X.prog X.w) X.A (exec st X.env) (SP X pins D) X.xe s
def semB (X : Cx) (st : List Stmt) : TS := fun D σ H => ∀ pins s, Inv X pins σ H s → wpAny (model X.prog X.w) X.A (execs st X.env) (SP X pins D) X.xe s
theorem ps_sem {X : Cx} {st : Stmt} : PS X st (semS X st) := ⟨fun pins s σ H D I h => h pins s I⟩
theorem pss_sem {X : Cx} {st : List Stmt} : PSs X st (semB X st) := ⟨fun pins s σ H D I h => h pins s I⟩
theorem semS_of {X : Cx} {st : Stmt} {t : TS} (h : PS X st t) {D : Ends} {σ : Sg} {H : Hp} (q : t D σ H) : semS X st D σ H := fun pins s I => h.run pins s σ H D I q
theorem semB_of {X : Cx} {st : List Stmt} {t : TS} (h : PSs X st t) {D : Ends} {σ : Sg} {H : Hp} (q : t D σ H) : semB X st D σ H := fun pins s I => h.run pins s σ H D I q
def StX (X : Cx) (W : WX) (st : Stmt) (m : BM) : Prop :=
  ∀ dp K0 H0 σ env K H s, Sta X.K dp K0 H0 σ env K H s → ∀ D, PostS X.K dp K0 H0 K (m env s) D W → semS X st D σ H
def StB (X : Cx) (W : WX) (st : List Stmt) (m : BM) : Prop :=
  ∀ dp K0 H0 σ env K H s, Sta X.K dp K0 H0 σ env K H s → ∀ D, PostS X.K dp K0 H0 K (m env s) D W → semB X st D σ H
theorem PostS.later {F : Fg} {dp : DP} {K0 H0 K K2 : Hp} {r : RB} {D : Ends} {W : WX} (e : Ex K K2) (h : PostS F dp K0 H0 K r D W) : PostS F dp K0 H0 K2 r D W := by
  match r, h with
  | .ok .nx env s, h => exact fun σ K3 H3 S e2 => h σ K3 H3 S (Ex.tr e e2)
  | .ok .bk env s, h => exact fun σ K3 H3 S e2 => h σ K3 H3 S (Ex.tr e e2)
  | .ok .ct env s, h => exact fun σ K3 H3 S e2 => h σ K3 H3 S (Ex.tr e e2)
  | .ok (.rt d) env s, h => exact h
  | .ok (.rtD g m) env s, h => exact h
  | .ok (.rtL ds) env s, h => exact h
  | .exc c fs env s, h => exact fun σ dx gs K3 H3 S e2 => h σ dx gs K3 H3 S (Ex.tr e e2)
  | .stuck, h => exact h
section
variable {F : Fg} {dp : DP} {K0 H0 K H : Hp} {σ : Sg} {env : VEnv} {s : DS}
theorem own_set {env : VEnv} {j i : Nat} {x : Option SV} (hx : (∀ ds, x ≠ some (.own ds)) ∧ ∀ c fs, x ≠ some (.slf c fs)) (h : Own (env.set j x) i) : Own env i ∧ i ≠ j := by
  have key : ∀ z : SV, (env.set j x)[i]? = some (some z) → (i = j → x = some z) ∧ (i ≠ j → env[i]? = some (some z)) := fun z h => by
    refine ⟨fun e => ?_, fun e => ?_⟩
    · subst e
      by_cases hl : i < env.length
      · rw [List.getElem?_set_self hl] at h
        exact Option.some.inj h
      · rw [List.getElem?_eq_none (by rw [List.length_set]; omega)] at h
        cases h
    · rwa [List.getElem?_set_ne (Ne.symm e)] at h
  rcases h with ⟨ds, h⟩ | ⟨c, fs, h⟩
  · obtain ⟨h1, h2⟩ := key _ h
    have ne : i ≠ j := fun e => hx.1 ds (h1 e)
    exact ⟨.inl ⟨ds, h2 ne⟩, ne⟩
  · obtain ⟨h1, h2⟩ := key _ h
    have ne : i ≠ j := fun e => hx.2 c fs (h1 e)
    exact ⟨.inr ⟨c, fs, h2 ne⟩, ne⟩
theorem get_set {α : Type} {l : List α} {i j : Nat} {x y : α} (h : (l.set j x)[i]? = some y) : (i = j ∧ x = y ∧ j < l.length) ∨ (i ≠ j ∧ l[i]? = some y) := by
  by_cases e : i = j
  · subst e
    by_cases hl : i < l.length
    · rw [List.getElem?_set_self hl] at h
      exact .inl ⟨rfl, Option.some.inj h, hl⟩
    · rw [List.getElem?_eq_none (by rw [List.length_set]; omega)] at h
      cases h
  · rw [List.getElem?_set_ne (Ne.symm e)] at h
    exact .inr ⟨e, h⟩
theorem Sta.setVal (S : Sta F dp K0 H0 σ env K H s) {v : V} {d : D} (r : Rep F K v d) (j : Nat) : Sta F dp K0 H0 (σ.set j (some v)) (env.set j (some (.val d))) K H s where
  gr := S.gr
  dl := S.dl
  d0 := S.d0
  e0 := S.e0
  len := by rw [List.length_set, List.length_set]; exact S.len
  val := fun i e hi => by
    rcases get_set hi with ⟨rfl, hx, hl⟩ | ⟨ne, hi⟩
    · cases hx
      exact ⟨v, by rw [List.getElem?_set_self (by rw [S.len]; exact hl)], r⟩
    · rw [List.getElem?_set_ne (Ne.symm ne)]
      exact S.val i e hi
  own := fun i ds hi => by
    rcases get_set hi with ⟨rfl, hx, hl⟩ | ⟨ne, hi⟩
    · cases hx
    · rw [List.getElem?_set_ne (Ne.symm ne)]
      exact S.own i ds hi
  slf := fun i c fs hi => by
    rcases get_set hi with ⟨rfl, hx, hl⟩ | ⟨ne, hi⟩
    · cases hx
    · rw [List.getElem?_set_ne (Ne.symm ne)]
      exact S.slf i c fs hi
  apart := fun i k a hi hk e1 e2 => by
    obtain ⟨o1, n1⟩ := own_set ⟨fun _ => by simp, fun _ _ => by simp⟩ hi
    obtain ⟨o2, n2⟩ := own_set ⟨fun _ => by simp, fun _ _ => by simp⟩ hk
    rw [List.getElem?_set_ne (Ne.symm n1)] at e1
    rw [List.getElem?_set_ne (Ne.symm n2)] at e2
    exact S.apart i k a o1 o2 e1 e2
theorem own_setO {env : VEnv} {j i : Nat} {x : Option SV} (h : Own (env.set j x) i) : i = j ∨ (i ≠ j ∧ Own env i) := by
  by_cases e : i = j
  · exact .inl e
  · refine .inr ⟨e, ?_⟩
    rcases h with ⟨ds, h⟩ | ⟨c, fs, h⟩
    · rw [List.getElem?_set_ne (Ne.symm e)] at h
      exact .inl ⟨ds, h⟩
    · rw [List.getElem?_set_ne (Ne.symm e)] at h
      exact .inr ⟨c, fs, h⟩
theorem Sta.setOwn (S : Sta F dp K0 H0 σ env K H s) {p : Addr} {vs : List V} {ds : List D} (h1 : H p = some (.lst vs)) (h2 : H0 p = none) (h3 : K p = none) (h4 : ∀ i a, Own env i → σ[i]? = some (some (V.ref a)) → a ≠ p) (r : Reps F K vs ds) (j : Nat) :
    Sta F dp K0 H0 (σ.set j (some (.ref p))) (env.set j (some (.own ds))) K H s where
  gr := S.gr
  dl := S.dl
  d0 := S.d0
  e0 := S.e0
  len := by rw [List.length_set, List.length_set]; exact S.len
  val := fun i e hi => by
    rcases get_set hi with ⟨rfl, hx, hl⟩ | ⟨ne, hi⟩
    · cases hx
    · rw [List.getElem?_set_ne (Ne.symm ne)]
      exact S.val i e hi
  own := fun i ds' hi => by
    rcases get_set hi with ⟨rfl, hx, hl⟩ | ⟨ne, hi⟩
    · cases hx
      exact ⟨p, vs, by rw [List.getElem?_set_self (by rw [S.len]; exact hl)], h1, h2, h3, r⟩
    · rw [List.getElem?_set_ne (Ne.symm ne)]
      exact S.own i ds' hi
  slf := fun i c fs hi => by
    rcases get_set hi with ⟨rfl, hx, hl⟩ | ⟨ne, hi⟩
    · cases hx
    · rw [List.getElem?_set_ne (Ne.symm ne)]
      exact S.slf i c fs hi
  apart := fun i k a hi hk e1 e2 => by
    rcases own_setO hi with z1 | ⟨n1, o1⟩
    · rcases own_setO hk with z2 | ⟨n2, o2⟩
      · rw [z1, z2]
      · subst z1
        rw [List.getElem?_set_ne (Ne.symm n2)] at e2
        rcases get_set e1 with ⟨_, hx, _⟩ | ⟨ne, _⟩
        · cases hx
          exact absurd rfl (h4 k p o2 e2)
        · exact absurd rfl ne
    · rw [List.getElem?_set_ne (Ne.symm n1)] at e1
      rcases own_setO hk with z2 | ⟨n2, o2⟩
      · subst z2
        rcases get_set e2 with ⟨_, hx, _⟩ | ⟨ne, _⟩
        · cases hx
          exact absurd rfl (h4 i p o1 e1)
        · exact absurd rfl ne
      · rw [List.getElem?_set_ne (Ne.symm n2)] at e2
        exact S.apart i k a o1 o2 e1 e2
theorem Sta.forget (S : Sta F dp K0 H0 σ env K H s) (j : Nat) : Sta F dp K0 H0 σ (env.set j none) K H s where
  gr := S.gr
  dl := S.dl
  d0 := S.d0
  e0 := S.e0
  len := by rw [List.length_set]; exact S.len
  val := fun i e hi => by
    rcases get_set hi with ⟨rfl, hx, hl⟩ | ⟨ne, hi⟩
    · cases hx
    · exact S.val i e hi
  own := fun i e hi => by
    rcases get_set hi with ⟨rfl, hx, hl⟩ | ⟨ne, hi⟩
    · cases hx
    · exact S.own i e hi
  slf := fun i c e hi => by
    rcases get_set hi with ⟨rfl, hx, hl⟩ | ⟨ne, hi⟩
    · cases hx
    · exact S.slf i c e hi
  apart := fun i k a hi hk e1 e2 => S.apart i k a (own_set ⟨fun _ => by simp, fun _ _ => by simp⟩ hi).1 (own_set ⟨fun _ => by simp, fun _ _ => by simp⟩ hk).1 e1 e2
theorem Sta.freeze (S : Sta F dp K0 H0 σ env K H s) {j : Nat} {ds : List D} (h : env[j]? = some (some (.own ds))) : ∃ K2, Sta F dp K0 H0 σ (env.set j (some (.val (.lst ds)))) K2 H s ∧ Ex K K2 := by
  obtain ⟨a, vs, e1, e2, e3, e4, e5⟩ := S.own j ds h
  have ek : Ex K (upd K a (.lst vs)) := fun b o e => by rw [upd_ne (ne_of_none e e4)]; exact e
  have hj : j < env.length := by
    rcases List.getElem?_eq_some_iff.mp h with ⟨hl, _⟩
    exact hl
  obtain ⟨s0, d0⟩ := S.d0
  have nd := NotDeal.fresh d0 e3
  have oj : Own env j := .inl ⟨ds, h⟩
  have other : ∀ i b, i ≠ j → Own env i → σ[i]? = some (some (V.ref b)) → b ≠ a := fun i b ne o e z => ne (S.apart i j a o oj (by rw [← z]; exact e) e1)
  refine ⟨upd K a (.lst vs), ?_, ek⟩
  exact {
    gr := ⟨Ex.tr S.gr.kk ek, fun b o e => by
        by_cases hb : b = a
        · subst hb
          rw [upd_same] at e
          cases e
          exact e2
        · rw [upd_ne hb] at e
          exact S.gr.sub _ _ e,
      fun b hb => by
        rw [upd_ne (fun z => hb (by rw [z]; exact e3))]
        exact S.gr.new b hb, S.gr.fr⟩
    dl := ⟨S.dl.1, fun p q hp => by
      obtain ⟨a1, a2, a3⟩ := S.dl.2 p q hp
      obtain ⟨n1, n2⟩ := nd p q hp
      exact ⟨a1, by rw [upd_ne (Ne.symm n1)]; exact a2, by rw [upd_ne (Ne.symm n2)]; exact a3⟩⟩
    d0 := ⟨s0, d0⟩
    e0 := S.e0
    len := by rw [List.length_set]; exact S.len
    val := fun i e hi => by
      rcases get_set hi with ⟨rfl, hx, hl⟩ | ⟨ne, hi⟩
      · cases hx
        exact ⟨.ref a, e1, .lst upd_same (e5.mono ek)⟩
      · obtain ⟨v, h1, h2⟩ := S.val i e hi
        exact ⟨v, h1, h2.mono ek⟩
    own := fun i ds' hi => by
      rcases get_set hi with ⟨rfl, hx, hl⟩ | ⟨ne, hi⟩
      · cases hx
      · obtain ⟨b, ws, f1, f2, f3, f4, f5⟩ := S.own i ds' hi
        exact ⟨b, ws, f1, f2, f3, by rw [upd_ne (other i b ne (.inl ⟨_, hi⟩) f1)]; exact f4, f5.mono ek⟩
    slf := fun i c fs hi => by
      rcases get_set hi with ⟨rfl, hx, hl⟩ | ⟨ne, hi⟩
      · cases hx
      · obtain ⟨b, dx, ws, f0, f1, f2, f3, f4, f5⟩ := S.slf i c fs hi
        exact ⟨b, dx, ws, f0, f1, f2, f3, by rw [upd_ne (other i b ne (.inr ⟨_, _, hi⟩) f1)]; exact f4, f5.mono ek⟩
    apart := fun i k a hi hk e1 e2 => S.apart i k a (own_set ⟨fun _ => by simp, fun _ _ => by simp⟩ hi).1 (own_set ⟨fun _ => by simp, fun _ _ => by simp⟩ hk).1 e1 e2 }
theorem Sta.change (S : Sta F dp K0 H0 σ env K H s) {j : Nat} {ds ds2 : List D} {a : Addr} {vs2 : List V} (h : env[j]? = some (some (.own ds))) (e1 : σ[j]? = some (some (V.ref a))) (r : Reps F K vs2 ds2) : Sta F dp K0 H0 σ (env.set j (some (.own ds2))) K (upd H a (.lst vs2)) s := by
  obtain ⟨a', vs', e1', e2, e3, e4, e5⟩ := S.own j ds h
  rw [e1] at e1'
  cases e1'
  have hj : j < env.length := by
    rcases List.getElem?_eq_some_iff.mp h with ⟨hl, _⟩
    exact hl
  obtain ⟨s0, d0⟩ := S.d0
  have nd := NotDeal.fresh d0 e3
  have oj : Own env j := .inl ⟨ds, h⟩
  have other : ∀ i b, i ≠ j → Own env i → σ[i]? = some (some (V.ref b)) → b ≠ a := fun i b ne o e z => ne (S.apart i j a o oj (by rw [← z]; exact e) e1)
  exact {
    gr := ⟨S.gr.kk, fun b o e => by rw [upd_ne (ne_of_none e e4)]; exact S.gr.sub _ _ e, S.gr.new, fun b o e nd => by rw [upd_ne (ne_of_none e e3)]; exact S.gr.fr b o e nd⟩
    dl := ⟨S.dl.1, fun p q hp => by
      obtain ⟨⟨a1, a1'⟩, a2, a3⟩ := S.dl.2 p q hp
      obtain ⟨n1, n2⟩ := nd p q hp
      exact ⟨⟨by rw [upd_ne (Ne.symm n1)]; exact a1, by rw [upd_ne (Ne.symm n2)]; exact a1'⟩, a2, a3⟩⟩
    d0 := ⟨s0, d0⟩
    e0 := S.e0
    len := by rw [List.length_set]; exact S.len
    val := fun i e hi => by
      rcases get_set hi with ⟨rfl, hx, hl⟩ | ⟨ne, hi⟩
      · cases hx
      · exact S.val i e hi
    own := fun i ds' hi => by
      rcases get_set hi with ⟨rfl, hx, hl⟩ | ⟨ne, hi⟩
      · cases hx
        exact ⟨a, vs2, e1, upd_same, e3, e4, r⟩
      · obtain ⟨b, ws, f1, f2, f3, f4, f5⟩ := S.own i ds' hi
        exact ⟨b, ws, f1, by rw [upd_ne (other i b ne (.inl ⟨_, hi⟩) f1)]; exact f2, f3, f4, f5⟩
    slf := fun i c fs hi => by
      rcases get_set hi with ⟨rfl, hx, hl⟩ | ⟨ne, hi⟩
      · cases hx
      · obtain ⟨b, dx, ws, f0, f1, f2, f3, f4, f5⟩ := S.slf i c fs hi
        exact ⟨b, dx, ws, f0, f1, by rw [upd_ne (other i b ne (.inr ⟨_, _, hi⟩) f1)]; exact f2, f3, f4, f5⟩
    apart := fun i k b hi hk f1 f2 => by
      have up : ∀ i, Own (env.set j (some (.own ds2))) i → Own env i := fun i hi => by
        rcases own_setO hi with rfl | ⟨_, o⟩
        · exact oj
        · exact o
      exact S.apart i k b (up i hi) (up k hk) f1 f2 }
end
namespace Bd
def nx : BM := fun env s => .ok .nx env s
def bk : BM := fun env s => .ok .bk env s
def ct : BM := fun env s => .ok .ct env s
def seq (a b : BM) : BM := fun env s => match a env s with
  | .ok .nx env' s' => b env' s'
  | r => r
def withE (r : Res D) (env : VEnv) (k : D → DS → RB) : RB := match r with
  | .ok d s' => k d s'
  | .exc c fs s' => .exc c fs env s'
  | .stuck => .stuck
def withT (r : Res Bool) (env : VEnv) (k : Bool → DS → RB) : RB := match r with
  | .ok d s' => k d s'
  | .exc c fs s' => .exc c fs env s'
  | .stuck => .stuck
def setS (env : VEnv) : List (Nat × D) → VEnv
  | [] => env
  | p :: r => setS (env.set p.1 (some (.val p.2))) r
def asg (t : Tg) (vis : List Nat) (m : EM) : BM := fun env s => withE (ev vis m env s) env fun d s' => match t.bind d with
  | some l => .ok .nx (setS env l) s'
  | none => .stuck
def asgO (i : Nat) (vis : List Nat) (m : EM) : BM := fun env s => withE (evF vis m env s) env fun d s' => match d with
  | .lst ds => .ok .nx (env.set i (some (.own ds))) s'
  | _ => .stuck
def exp (vis : List Nat) (m : EM) : BM := fun env s => withE (ev vis m env s) env fun _ s' => .ok .nx env s'
def ret (vis : List Nat) (m : EM) : BM := fun env s => match m (view vis 0 env) s with
  | .ok d s' => .ok (.rt d) env s'
  | .exc c fs s' => if okF vis env fs = true then .exc c fs env s' else .stuck
  | .stuck => .stuck
def retN : BM := fun env s => .ok (.rt .non) env s
def ite (vis : List Nat) (c : ET) (a b : BM) : BM := fun env s => withT (evT vis c env s) env fun d s' => if d = true then a env s' else b env s'
def frz (j : Nat) : BM := fun env s => match env[j]? with
  | some (some (.own ds)) => .ok .nx (env.set j (some (.val (.lst ds)))) s
  | _ => .stuck
end Bd
section
variable {X : Cx} {W : WX}
theorem st_nil : StB X W [] Bd.nx := fun dp K0 H0 σ env K H s S D q => semB_of pss_nil ((show ∀ σ K2 H2, Sta X.K dp K0 H0 σ env K2 H2 s → Ex K K2 → D.nx σ H2 from q) σ K H S (Ex.rfl' K))
theorem st_cons {st : Stmt} {rest : List Stmt} {a b : BM} (ha : StX X W st a) (hb : StB X W rest b) : StB X W (st :: rest) (Bd.seq a b) := fun dp K0 H0 σ env K H s S D q => by
  refine semB_of (pss_cons (t := semS X st) (u := semB X rest) ps_sem pss_sem) ?_
  refine ha dp K0 H0 σ env K H s S _ ?_
  unfold Bd.seq at q
  cases hr : a env s with
  | stuck => rw [hr] at q; exact q
  | exc c fs env' s' => rw [hr] at q; exact q
  | ok f env' s' =>
    rw [hr] at q
    cases f with
    | nx => exact fun σ2 K2 H2 S2 e2 => hb dp K0 H0 σ2 env' K2 H2 s' S2 D (PostS.later e2 q)
    | bk => exact q
    | ct => exact q
    | rt d => exact q
    | rtD g m => exact q
    | rtL ds => exact q
theorem st_frz {st : Stmt} {b : BM} (j : Nat) (hb : StX X W st b) : StX X W st (Bd.seq (Bd.frz j) b) := fun dp K0 H0 σ env K H s S D q => by
  unfold Bd.seq Bd.frz at q
  cases hj : env[j]? with
  | none => rw [hj] at q; exact q.elim
  | some o =>
    cases o with
    | none => rw [hj] at q; exact q.elim
    | some z =>
      cases z with
      | own ds =>
        rw [hj] at q
        obtain ⟨K2, S2, e2⟩ := S.freeze hj
        exact hb dp K0 H0 σ _ K2 H s S2 D (PostS.later e2 q)
      | val d => rw [hj] at q; exact q.elim
      | slf c fs => rw [hj] at q; exact q.elim
theorem PostE.of {dp : DP} {K0 H0 K : Hp} {σ : Sg} {env : VEnv} {r : Res D} {k : D → DS → RB} {Dn : Ends} {Q : VK} (q : PostS X.K dp K0 H0 K (Bd.withE r env k) Dn W)
    (h : ∀ d s' v K2 H2, Sta X.K dp K0 H0 σ env K2 H2 s' → Ex K K2 → Rep X.K K2 v d → PostS X.K dp K0 H0 K2 (k d s') Dn W → Q v H2) : PostE X.K dp K0 H0 σ env K r Q W := by
  cases r with
  | ok d s' => exact fun v K2 H2 S e r => h d s' v K2 H2 S e r (PostS.later e q)
  | exc c fs s' => exact fun dx gs K2 H2 S e h1 h2 => q σ dx gs K2 H2 S e h1 h2
  | stuck => exact q
theorem PostET.of {dp : DP} {K0 H0 K : Hp} {σ : Sg} {env : VEnv} {r : Res Bool} {k : Bool → DS → RB} {Dn : Ends} {Q : Bool → Hp → Prop} (q : PostS X.K dp K0 H0 K (Bd.withT r env k) Dn W)
    (h : ∀ d s' K2 H2, Sta X.K dp K0 H0 σ env K2 H2 s' → Ex K K2 → PostS X.K dp K0 H0 K2 (k d s') Dn W → Q d H2) : PostET X.K dp K0 H0 σ env K r Q W := by
  cases r with
  | ok d s' => exact fun K2 H2 S e => h d s' K2 H2 S e (PostS.later e q)
  | exc c fs s' => exact fun dx gs K2 H2 S e h1 h2 => q σ dx gs K2 H2 S e h1 h2
  | stuck => exact q
theorem Sta.sets {F : Fg} {dp : DP} {K0 H0 K H : Hp} {s : DS} : ∀ {lv : List (Nat × V)} {l : List (Nat × D)} {σ : Sg} {env : VEnv}, Sta F dp K0 H0 σ env K H s → RepN F K lv l → Sta F dp K0 H0 (setV σ lv) (Bd.setS env l) K H s
  | _, _, _, _, h, .nil => h
  | _, _, σ, env, h, .cons (j := j) (v := v) (d := d) r t => by
    show Sta F dp K0 H0 (setV (σ.set j (some v)) _) (Bd.setS (env.set j (some (.val d))) _) K H s
    exact Sta.sets (h.setVal r j) t
theorem st_asg {st : Stmt} {e : Expr} {t : Tg} {vis : List Nat} {m : EM} (h : PS X st (tAsg (sem X e) (t.g X.K))) (he : EvX X W e m) : StX X W st (Bd.asg t vis m) := fun dp K0 H0 σ env K H s S D q => by
  refine semS_of h ?_
  refine ev_x he S (PostE.of q fun d s' v K2 H2 S2 e2 r q2 => ?_)
  cases hb : t.bind d with
  | none => rw [hb] at q2; exact q2.elim
  | some l =>
    rw [hb] at q2
    have q2 : ∀ σ K3 H3, Sta X.K dp K0 H0 σ (Bd.setS env l) K3 H3 s' → Ex K2 K3 → D.nx σ H3 := q2
    exact Tg.ok t S2.gr.sub r hb fun lv rl => q2 _ K2 H2 (S2.sets rl) (Ex.rfl' K2)
theorem st_set {i : Nat} {x : Str} {e : Expr} {pos pos' : Pos} {vis : List Nat} {m : EM} (he : EvX X W e m) (hN : X.N.Nodup) (hi : X.N[i]? = some x) (hx : X.env.scope.names.lookup x = some .local) (hs : swapsWith e (some (.Name x pos')) pos.line X.env = pure false := by rfl) :
    StX X W (.Assign [.Name x pos'] e pos) (Bd.asg (.nm i) vis m) := st_asg (ps_set hN hi (.inl hx) pe_sem hs (.inr hx)) he
theorem asgO_read {t : TE} {g : TG} {i : Nat} {vis : List Nat} {m : EM} (hg : g = gName i)
    (he : ∀ dp σ env K H s, RelE X.K σ env K → Ex K H → DealOk dp K H s → ∀ Q, PostFr X.K dp K H (m env s) Q (fun c d H => W c d σ H) → t σ H Q)
    {dp : DP} {K0 H0 K H : Hp} {σ : Sg} {env : VEnv} {s : DS} {D : Ends} (S : Sta X.K dp K0 H0 σ env K H s) (q : PostS X.K dp K0 H0 K (Bd.asgO i vis m env s) D W) : tAsg t g D σ H := by
  subst hg
  refine ev_f' (vis := vis) he S ?_
  unfold Bd.asgO at q
  cases hr : Bd.evF vis m env s with
  | stuck => rw [hr] at q; exact q
  | exc c fs s' => rw [hr] at q; exact fun dx gs K2 H2 S e h1 h2 => q σ dx gs K2 H2 S e h1 h2
  | ok d s' =>
    rw [hr] at q
    cases d with
    | lst ds => exact fun p vs K2 H2 S2 e h1 h2 h3 h4 r => q _ K2 H2 (S2.setOwn h1 h2 h3 h4 r i) e
    | _ => exact q.elim
theorem st_setO {i : Nat} {x : Str} {e : Expr} {pos pos' : Pos} {vis : List Nat} {m : EM} (he : EvFr X W e m) (hN : X.N.Nodup) (hi : X.N[i]? = some x) (hx : X.env.scope.names.lookup x = some .local) (hs : swapsWith e (some (.Name x pos')) pos.line X.env = pure false := by rfl) :
    StX X W (.Assign [.Name x pos'] e pos) (Bd.asgO i vis m) := fun dp K0 H0 σ env K H s S D q => semS_of (ps_set hN hi (.inl hx) (te := sem X e) pe_sem hs (.inr hx)) (asgO_read rfl he S q)
theorem st_lcO0 {i : Nat} {y : Str} {py : Pos} {elt tg iter : Expr} {scope : Scope} {own : List (Str × Nat)} {pos spos : Pos} {src : EL} {t : Tg} {me : EM} {vis : List Nat} (hy : X.env.scope.names.lookup y = some .local) (hiy : X.N[i]? = some y)
    (hsw : swapsWith (.ListComp elt [⟨tg, iter, [], 0⟩] scope pos) (some (.Name y py)) spos.line X.env = pure true)
    (hc : X.calm = true) (hN : X.N.Nodup) (hi : EvI X W tg iter src) (ok : BlkOk X.N X.env.scope scope own) (hsl : ∀ j ∈ t.slots, j ∈ own.map (·.2)) (hg : ∀ z, PG (Cx.bk X scope z) tg (t.g X.K)) (he : ∀ z, EvX (Cx.bk X scope z) W0 elt me)
    (hs : ∀ x, foldedSetIterable iter X.env x = pure x := by intro _; rfl) : StX X W (.Assign [.Name y py] (.ListComp elt [⟨tg, iter, [], 0⟩] scope pos) spos) (Bd.asgO i vis (E.lc (own.map (·.2)) src t E.yes me)) := fun dp K0 H0 σ env K H s S D q => by
  refine semS_of (ps_setLc (g := t.g X.K) (wi := semI X tg iter) (tt := tYes) (te := teB X scope elt) hc hN hiy hy hsw pi_sem ok (fun s H C cl fp => hg (s, H, C, cl, fp)) (fun _ _ _ _ _ => pts_nil) (fun s H C cl fp => ⟨fun pins s' σ H' Q I h => h (s, H, C, cl, fp) pins s' I⟩) hs) ?_
  refine asgO_read rfl (fun dp σ env K H s hE heK hd Q q => ?_) S q
  exact lc_read (tst := E.yes) hi hsl (fun dp σ env K H s hE he hd Q q => (show ∀ K2 H2, Gr dp K H K2 H2 → DealOk dp K2 H2 s → Q true H2 from q) K H (Gr.rfl' he) hd) (fun dp σ env K H s hE heK hd Q q z => he z dp σ env K H s hE heK hd Q q) hE heK hd q
theorem st_lcO1 {i : Nat} {y : Str} {py : Pos} {elt tg iter c : Expr} {scope : Scope} {own : List (Str × Nat)} {pos spos : Pos} {src : EL} {t : Tg} {me : EM} {mt : ET} {vis : List Nat} (hy : X.env.scope.names.lookup y = some .local) (hiy : X.N[i]? = some y)
    (hsw : swapsWith (.ListComp elt [⟨tg, iter, [c], 0⟩] scope pos) (some (.Name y py)) spos.line X.env = pure true)
    (hc : X.calm = true) (hN : X.N.Nodup) (hi : EvI X W tg iter src) (ok : BlkOk X.N X.env.scope scope own) (hsl : ∀ j ∈ t.slots, j ∈ own.map (·.2)) (hg : ∀ z, PG (Cx.bk X scope z) tg (t.g X.K)) (ht : ∀ z, EvT (Cx.bk X scope z) W0 c mt) (he : ∀ z, EvX (Cx.bk X scope z) W0 elt me)
    (hs : ∀ x, foldedSetIterable iter X.env x = pure x := by intro _; rfl) : StX X W (.Assign [.Name y py] (.ListComp elt [⟨tg, iter, [c], 0⟩] scope pos) spos) (Bd.asgO i vis (E.lc (own.map (·.2)) src t mt me)) := fun dp K0 H0 σ env K H s S D q => by
  refine semS_of (ps_setLc (g := t.g X.K) (wi := semI X tg iter) (tt := ttB X scope c) (te := teB X scope elt) hc hN hiy hy hsw pi_sem ok (fun s H C cl fp => hg (s, H, C, cl, fp)) (fun s H C cl fp => pts_one ⟨fun pins s' σ H' Q I h => h (s, H, C, cl, fp) pins s' I⟩) (fun s H C cl fp => ⟨fun pins s' σ H' Q I h => h (s, H, C, cl, fp) pins s' I⟩) hs) ?_
  refine asgO_read rfl (fun dp σ env K H s hE heK hd Q q => ?_) S q
  exact lc_read hi hsl (fun dp σ env K H s hE heK hd Q q z => ht z dp σ env K H s hE heK hd Q q) (fun dp σ env K H s hE heK hd Q q z => he z dp σ env K H s hE heK hd Q q) hE heK hd q
theorem st_exp {e : Expr} {pos : Pos} {vis : List Nat} {m : EM} (he : EvX X W e m) (hs : swapsWith e none pos.line X.env = pure false := by rfl) : StX X W (.Expr e pos) (Bd.exp vis m) := fun dp K0 H0 σ env K H s S D q => by
  refine semS_of (ps_expr (te := sem X e) pe_sem hs) ?_
  refine ev_x he S (PostE.of q fun d s' v K2 H2 S2 e2 r q2 => ?_)
  exact (show ∀ σ K3 H3, Sta X.K dp K0 H0 σ env K3 H3 s' → Ex K2 K3 → D.nx σ H3 from q2) σ K2 H2 S2 (Ex.rfl' K2)
theorem st_if {c : Expr} {a b : List Stmt} {pos : Pos} {vis : List Nat} {mc : ET} {ma mb : BM} (hc : EvT X W c mc) (ha : StB X W a ma) (hb : StB X W b mb) : StX X W (.If c a b pos) (Bd.ite vis mc ma mb) := fun dp K0 H0 σ env K H s S D q => by
  refine semS_of (ps_if (tc := semT X c) (t := semB X a) (u := semB X b) pt_sem pss_sem pss_sem) ?_
  refine ev_t hc S (PostET.of q fun d s' K2 H2 S2 e2 q2 => ?_)
  cases d with
  | true => exact ha dp K0 H0 σ env K2 H2 s' S2 D q2
  | false => exact hb dp K0 H0 σ env K2 H2 s' S2 D q2
theorem st_ret {e : Expr} {pos : Pos} {vis : List Nat} {m : EM} (he : EvX X W e m) : StX X W (.Return (some e) pos) (Bd.ret vis m) := fun dp K0 H0 σ env K H s S D q => by
  refine semS_of (ps_ret (te := sem X e) pe_sem) ?_
  obtain ⟨p1, p2, p3, p4⟩ := S.plus vis
  refine he dp σ _ _ H s p4 p2 p3 _ ?_
  unfold Bd.ret at q
  cases hm : m (view vis 0 env) s with
  | stuck => rw [hm] at q; exact q
  | exc c fs s' =>
    rw [hm] at q
    simp only at q
    by_cases hv : Bd.okF vis env fs = true
    · rw [if_pos hv] at q
      exact fun dx gs K2 H2 g hd h1 h2 => q σ dx gs _ H2 (S.less g hd) (S.lessEx g) (less_xd S g h1) (repF_back S g hv h2)
    · rw [if_neg hv] at q
      exact q.elim
  | ok d s' =>
    rw [hm] at q
    exact fun v K2 H2 g hd r => q v K2 H2 (S.end_ g hd) hd r
theorem st_retN {pos : Pos} : StX X W (.Return none pos) Bd.retN := fun dp K0 H0 σ env K H s S D q => semS_of ps_retN (q .non K H S.gr S.dl .non)
theorem st_bk {pos : Pos} : StX X W (.Break pos) Bd.bk := fun dp K0 H0 σ env K H s S D q => semS_of ps_break ((show ∀ σ K2 H2, Sta X.K dp K0 H0 σ env K2 H2 s → Ex K K2 → D.bk σ H2 from q) σ K H S (Ex.rfl' K))
theorem st_ct {pos : Pos} : StX X W (.Continue pos) Bd.ct := fun dp K0 H0 σ env K H s S D q => semS_of ps_continue ((show ∀ σ K2 H2, Sta X.K dp K0 H0 σ env K2 H2 s → Ex K K2 → D.ct σ H2 from q) σ K H S (Ex.rfl' K))
theorem st_pass {pos : Pos} : StX X W (.Pass pos) Bd.nx := fun dp K0 H0 σ env K H s S D q => semS_of ps_pass ((show ∀ σ K2 H2, Sta X.K dp K0 H0 σ env K2 H2 s → Ex K K2 → D.nx σ H2 from q) σ K H S (Ex.rfl' K))
end
end T
end
section
set_option Elab.async false
set_option linter.all false
set_option maxRecDepth 100000
set_option maxHeartbeats 4000000
namespace T
open PySem PySem.Spec PyProof.Rows L2
abbrev SM := (D → BM) → BM
namespace Bd
def ownAt (env : VEnv) (j : Nat) : Option (List D) := match env[j]? with
  | some (some (.own ds)) => some ds
  | _ => none
def sx (vis : List Nat) (m : EM) : SM := fun k env s => withE (ev vis m env s) env fun d s' => k d env s'
def pop (j : Nat) : SM := fun k env s => match ownAt env j with
  | some ds => match ds[ds.length - 1]? with
    | some d => k d (env.set j (some (.own ds.dropLast))) s
    | none => .stuck
  | none => .stuck
def popAt (j : Nat) (mi : SM) : SM := fun k env s => match ownAt env j with
  | none => .stuck
  | some _ => mi (fun i env' s' => match ownAt env' j, i with
  | some ds, .int i => if -(2 ^ 63) ≤ i ∧ i < 2 ^ 63 then match seqIndex? i ds.length with
      | some n => match ds[n]? with
        | some d => k d (env'.set j (some (.own (ds.eraseIdx n)))) s'
        | none => .stuck
      | none => .stuck
    else .stuck
  | _, _ => .stuck) env s
def app (j : Nat) (m : SM) : BM := fun env s => match ownAt env j with
  | none => .stuck
  | some _ => m (fun d env' s' => match ownAt env' j with
    | some ds => if ds.length < sizeLine then .ok .nx (env'.set j (some (.own (ds ++ [d])))) s' else .stuck
    | none => .stuck) env s
def ext (j : Nat) (m : SM) : BM := fun env s => match ownAt env j with
  | none => .stuck
  | some _ => m (fun d env' s' => match ownAt env' j, d with
    | some ds, .lst es => if ds.length + es.length ≤ sizeLine then .ok .nx (env'.set j (some (.own (ds ++ es)))) s' else .stuck
    | _, _ => .stuck) env s
def put (j : Nat) (mi m : SM) : BM := fun env s => m (fun d env1 s1 => match ownAt env1 j with
  | none => .stuck
  | some _ => mi (fun k env' s' => match ownAt env' j, k with
  | some ds, .int k => match ixN ds.length k with
    | some n => .ok .nx (env'.set j (some (.own (ds.set n d)))) s'
    | none => .stuck
  | _, _ => .stuck) env1 s1) env s
def asgX (i : Nat) (m : SM) : BM := m fun d env s => .ok .nx (env.set i (some (.val d))) s
def expX (m : SM) : BM := m fun _ env s => .ok .nx env s
end Bd
theorem ownAt_ok {env : VEnv} {j : Nat} {ds : List D} (h : Bd.ownAt env j = some ds) : env[j]? = some (some (.own ds)) := by
  unfold Bd.ownAt at h
  cases e : env[j]? with
  | none => rw [e] at h; cases h
  | some o =>
    rw [e] at h
    cases o with
    | none => cases h
    | some z => cases z <;> first | (cases h; rfl) | cases h
def SxX (X : Cx) (W : WX) (e : Expr) (m : SM) : Prop :=
  ∀ dp K0 H0 σ env K H s, Sta X.K dp K0 H0 σ env K H s → ∀ Dn k Q, PostS X.K dp K0 H0 K (m k env s) Dn W →
    (∀ d env' s' v K2 H2, Sta X.K dp K0 H0 σ env' K2 H2 s' → Ex K K2 → Rep X.K K2 v d → PostS X.K dp K0 H0 K2 (k d env' s') Dn W → Q v H2) → sem X e σ H Q
section
variable {X : Cx} {W : WX}
theorem kown {dp : DP} {K0 H0 K H : Hp} {σ : Sg} {env : VEnv} {s : DS} (S : Sta X.K dp K0 H0 σ env K H s) {j : Nat} {ds : List D} (h : Bd.ownAt env j = some ds) :
    ∃ a vs, σ[j]? = some (some (V.ref a)) ∧ H a = some (.lst vs) ∧ Reps X.K K vs ds := by
  obtain ⟨a, vs, h1, h2, h3, h4, h5⟩ := S.own j ds (ownAt_ok h)
  exact ⟨a, vs, h1, h2, h5⟩
theorem nxP {dp : DP} {K0 H0 K : Hp} {env : VEnv} {s : DS} {D : Ends} (q : PostS X.K dp K0 H0 K (.ok .nx env s) D W) {σ : Sg} {K2 H2 : Hp} (S : Sta X.K dp K0 H0 σ env K2 H2 s) (e : Ex K K2) : D.nx σ H2 := (show ∀ σ K2 H2, Sta X.K dp K0 H0 σ env K2 H2 s → Ex K K2 → D.nx σ H2 from q) σ K2 H2 S e
theorem sx_e {e : Expr} {m : EM} (vis : List Nat) (he : EvX X W e m) : SxX X W e (Bd.sx vis m) := fun dp K0 H0 σ env K H s S Dn k Q q h => ev_x he S (PostE.of q fun d s' v K2 H2 S2 e2 r q2 => h d env s' v K2 H2 S2 e2 r q2)
structure Rcv (X : Cx) (x : Str) (j : Nat) : Prop where
  at_ : X.N[j]? = some x
  vis : Vis X.env.scope x
  dbg : (x == ("__debug__" : Str)) = false
  cdc : (x == ("__classdict__" : Str)) = false
theorem Rcv.sem {x : Str} {j : Nat} (R : Rcv X x j) {p : Pos} {σ : Sg} {H : Hp} {v : V} {Q : VK} (h : σ[j]? = some (some v)) (q : Q v H) : sem X (.Name x p) σ H Q :=
  sem_of (pe_var R.at_ R.vis R.dbg R.cdc) ⟨v, h, q⟩
structure Lk (X : Cx) (o : Expr) (m : Str) (apos : Pos) (cpos : Pos) : Prop where
  base : attributeBase o m X.env (eval o X.env) = eval o X.env
  line : (apos.endLine == cpos.line) = true
structure Lk1 (X : Cx) (o : Expr) (m : Str) (apos : Pos) (e : Expr) (cpos : Pos) : Prop extends Lk X o m apos cpos where
  few : ((backTo cpos (starEach [e] X.env)).all (fun x => !x.1) && (backToKw cpos (keywordEach [] X.env)).all (fun x => x.1.isSome)
    && decide ([e].length + ([] : List Keyword).length + (if ([] : List Keyword).isEmpty then 0 else 1) < 30)) = true
  star : starEach [e] X.env = (false, eval e X.env) :: starEach [] X.env
  plain : (backTo cpos (starEach [] X.env)).any (·.1) = false
theorem sx_pop {x : Str} {p apos cpos : Pos} (j : Nat) (R : Rcv X x j) (L : Lk X (.Name x p) "pop" apos cpos) : SxX X W (.Call (.Attribute (.Name x p) "pop" apos) [] [] cpos) (Bd.pop j) := fun dp K0 H0 σ env K H s S Dn k Q q h => by
  refine sem_of (pe_bm0 PySem.F.plainAttrs_list PySem.F.slot_list_pop PySem.F.type_list_pop mt_pop (to := sem X (.Name x p)) pe_sem L.base L.line) ?_
  unfold Bd.pop at q
  cases ho : Bd.ownAt env j with
  | none => rw [ho] at q; exact q.elim
  | some ds =>
    rw [ho] at q
    simp only at q
    cases hd : ds[ds.length - 1]? with
    | none => rw [hd] at q; exact q.elim
    | some d =>
      rw [hd] at q
      obtain ⟨a, vs, h1, h2, h5⟩ := kown S ho
      obtain ⟨v, hv, rv⟩ := h5.get hd
      refine R.sem h1 ⟨Or.inl ⟨rfl, _, Or.inl (Or.inl h2)⟩, a, vs, v, rfl, rfl, h2, by rw [h5.len]; exact hv, ?_⟩
      have S2 := S.change (vs2 := vs.dropLast) (ds2 := ds.dropLast) (ownAt_ok ho) h1 (by rw [List.dropLast_eq_take, List.dropLast_eq_take, h5.len]; exact h5.take _)
      exact h d _ s v K _ S2 (Ex.rfl' K) rv q
theorem sx_popAt {x : Str} {e : Expr} {p apos cpos : Pos} {mi : SM} (j : Nat) (R : Rcv X x j) (L : Lk1 X (.Name x p) "pop" apos e cpos) (he : SxX X W e mi) : SxX X W (.Call (.Attribute (.Name x p) "pop" apos) [e] [] cpos) (Bd.popAt j mi) := fun dp K0 H0 σ env K H s S Dn k Q q h => by
  refine sem_of (pe_bm PySem.F.plainAttrs_list PySem.F.slot_list_pop PySem.F.type_list_pop mt_popAt (to := sem X (.Name x p)) pe_sem (pa_cons (te := sem X e) pe_sem pa_nil L.star) L.base L.few L.line L.star L.plain) ?_
  unfold Bd.popAt at q
  cases ho : Bd.ownAt env j with
  | none => rw [ho] at q; exact q.elim
  | some ds0 =>
    rw [ho] at q
    obtain ⟨a, vs0, h1, h20, h50⟩ := kown S ho
    refine R.sem h1 ⟨Or.inl ⟨rfl, _, Or.inl (Or.inl h20)⟩, ?_⟩
    refine he dp K0 H0 σ env K H s S Dn _ _ q fun i env' s' v K2 H2 S2 e2 r q2 => ?_
    cases ho2 : Bd.ownAt env' j with
    | none => rw [ho2] at q2; cases i <;> exact q2.elim
    | some ds =>
      rw [ho2] at q2
      cases r with
      | int i =>
        simp only at q2
        by_cases hi : -(2 ^ 63) ≤ i ∧ i < 2 ^ 63
        · rw [if_pos hi] at q2
          cases hn : seqIndex? i ds.length with
          | none => rw [hn] at q2; exact q2.elim
          | some n =>
            rw [hn] at q2
            simp only at q2
            cases hd : ds[n]? with
            | none => rw [hd] at q2; exact q2.elim
            | some d =>
              rw [hd] at q2
              obtain ⟨a', vs, h1', h2, h5⟩ := kown S2 ho2
              rw [h1] at h1'
              cases h1'
              obtain ⟨v, hv, rv⟩ := h5.get hd
              refine ⟨a, vs, i, n, v, rfl, rfl, h2, hi.1, hi.2, by rw [h5.len]; exact hn, hv, ?_⟩
              exact h d _ s' v K2 _ (S2.change (ownAt_ok ho2) h1 (h5.erase n)) e2 rv q2
        · rw [if_neg hi] at q2
          exact q2.elim
      | _ => exact q2.elim
theorem st_app {x : Str} {e : Expr} {p apos cpos pos : Pos} {m : SM} (j : Nat) (R : Rcv X x j) (L : Lk1 X (.Name x p) "append" apos e cpos) (he : SxX X W e m)
    (hsw : swapsWith (.Call (.Attribute (.Name x p) "append" apos) [e] [] cpos) none pos.line X.env = pure false := by rfl) :
    StX X W (.Expr (.Call (.Attribute (.Name x p) "append" apos) [e] [] cpos) pos) (Bd.app j m) := fun dp K0 H0 σ env K H s S D q => by
  refine semS_of (ps_expr (pe_bm PySem.F.plainAttrs_list PySem.F.slot_list_append PySem.F.type_list_append mt_append (to := sem X (.Name x p)) pe_sem (pa_cons (te := sem X e) pe_sem pa_nil L.star) L.base L.few L.line L.star L.plain) hsw) ?_
  unfold Bd.app at q
  cases ho : Bd.ownAt env j with
  | none => rw [ho] at q; exact q.elim
  | some ds0 =>
    rw [ho] at q
    obtain ⟨a, vs0, h1, h20, h50⟩ := kown S ho
    refine R.sem h1 ⟨Or.inl ⟨rfl, _, Or.inl (Or.inl h20)⟩, ?_⟩
    refine he dp K0 H0 σ env K H s S D _ _ q fun d env' s' v K2 H2 S2 e2 r q2 => ?_
    cases ho2 : Bd.ownAt env' j with
    | none => rw [ho2] at q2; exact q2.elim
    | some ds =>
      rw [ho2] at q2
      simp only at q2
      by_cases hz : ds.length < sizeLine
      · rw [if_pos hz] at q2
        obtain ⟨a', vs, h1', h2, h5⟩ := kown S2 ho2
        rw [h1] at h1'
        cases h1'
        refine ⟨a, vs, v, rfl, rfl, h2, by rw [h5.len]; exact hz, ?_⟩
        exact nxP q2 (S2.change (ownAt_ok ho2) h1 (h5.app (.one r))) (Ex.rfl' K2)
      · rw [if_neg hz] at q2
        exact q2.elim
theorem st_ext {x : Str} {e : Expr} {p apos cpos pos : Pos} {m : SM} (j : Nat) (R : Rcv X x j) (L : Lk1 X (.Name x p) "extend" apos e cpos) (he : SxX X W e m)
    (hsw : swapsWith (.Call (.Attribute (.Name x p) "extend" apos) [e] [] cpos) none pos.line X.env = pure false := by rfl) :
    StX X W (.Expr (.Call (.Attribute (.Name x p) "extend" apos) [e] [] cpos) pos) (Bd.ext j m) := fun dp K0 H0 σ env K H s S D q => by
  refine semS_of (ps_expr (pe_bm PySem.F.plainAttrs_list PySem.F.slot_list_extend PySem.F.type_list_extend mt_extend (to := sem X (.Name x p)) pe_sem (pa_cons (te := sem X e) pe_sem pa_nil L.star) L.base L.few L.line L.star L.plain) hsw) ?_
  unfold Bd.ext at q
  cases ho : Bd.ownAt env j with
  | none => rw [ho] at q; exact q.elim
  | some ds0 =>
    rw [ho] at q
    obtain ⟨a, vs0, h1, h20, h50⟩ := kown S ho
    refine R.sem h1 ⟨Or.inl ⟨rfl, _, Or.inl (Or.inl h20)⟩, ?_⟩
    refine he dp K0 H0 σ env K H s S D _ _ q fun d env' s' v K2 H2 S2 e2 r q2 => ?_
    cases ho2 : Bd.ownAt env' j with
    | none => rw [ho2] at q2; cases d <;> exact q2.elim
    | some ds =>
      rw [ho2] at q2
      cases r with
      | @lst b ws es hb rs =>
        simp only at q2
        by_cases hz : ds.length + es.length ≤ sizeLine
        · rw [if_pos hz] at q2
          obtain ⟨a', vs, h1', h2, h5⟩ := kown S2 ho2
          rw [h1] at h1'
          cases h1'
          refine ⟨a, b, vs, ws, rfl, rfl, h2, S2.gr.sub _ _ hb, by rw [h5.len, rs.len]; exact hz, ?_⟩
          exact nxP q2 (S2.change (ownAt_ok ho2) h1 (h5.app rs)) (Ex.rfl' K2)
        · rw [if_neg hz] at q2
          exact q2.elim
      | _ => exact q2.elim
theorem st_asgX {i : Nat} {x : Str} {e : Expr} {pos pos' : Pos} {m : SM} (he : SxX X W e m) (hN : X.N.Nodup) (hi : X.N[i]? = some x) (hx : X.env.scope.names.lookup x = some .local) (hs : swapsWith e (some (.Name x pos')) pos.line X.env = pure false := by rfl) :
    StX X W (.Assign [.Name x pos'] e pos) (Bd.asgX i m) := fun dp K0 H0 σ env K H s S D q => by
  refine semS_of (ps_set hN hi (.inl hx) (te := sem X e) pe_sem hs (.inr hx)) ?_
  exact he dp K0 H0 σ env K H s S D _ _ q fun d env' s' v K2 H2 S2 e2 r q2 => nxP q2 (S2.setVal r i) (Ex.rfl' K2)
theorem st_expX {e : Expr} {pos : Pos} {m : SM} (he : SxX X W e m) (hs : swapsWith e none pos.line X.env = pure false := by rfl) : StX X W (.Expr e pos) (Bd.expX m) := fun dp K0 H0 σ env K H s S D q => by
  refine semS_of (ps_expr (te := sem X e) pe_sem hs) ?_
  exact he dp K0 H0 σ env K H s S D _ _ q fun d env' s' v K2 H2 S2 e2 r q2 => nxP q2 S2 (Ex.rfl' K2)
theorem st_put {x : Str} {i e : Expr} {p p2 pos : Pos} {mi m : SM} (j : Nat) (R : Rcv X x j) (hi : SxX X W i mi) (he : SxX X W e m)
    (ha : ∀ v, assign (.Subscript (.Name x p) i p2) X.env v = (do
      let ov ← holding [v] (eval (.Name x p) X.env)
      let iv ← holding [v, ov] (eval i X.env)
      standAt p2
      holding [v, ov, iv] (setItem ov iv v)
      release [v, ov, iv] []) := by intro _; rfl)
    (hs : swapsWithSole [.Subscript (.Name x p) i p2] e pos.line X.env = pure false := by rfl) (hw : swappedStores [.Subscript (.Name x p) i p2] e X.env = pure none := by rfl)
    (h1 : (assignEach [.Subscript (.Name x p) i p2] X.env).map (·.2) = [assign (.Subscript (.Name x p) i p2) X.env] := by rfl) :
    StX X W (.Assign [.Subscript (.Name x p) i p2] e pos) (Bd.put j mi m) := fun dp K0 H0 σ env K H s S D q => by
  refine semS_of (ps_asg (te := sem X e) pe_sem (pg_sub (to := sem X (.Name x p)) (ti := sem X i) pe_sem pe_sem set_list ha) hs hw h1) ?_
  refine he dp K0 H0 σ env K H s S D _ _ q fun d env' s' v K2 H2 S2 e2 r q2 => ?_
  cases ho : Bd.ownAt env' j with
  | none => rw [ho] at q2; exact q2.elim
  | some ds0 =>
    rw [ho] at q2
    obtain ⟨a, vs0, h1, h20, h50⟩ := kown S2 ho
    refine R.sem h1 ?_
    refine hi dp K0 H0 σ env' K2 H2 s' S2 D _ _ q2 fun i env3 s3 v3 K3 H3 S3 e3 r3 q3 => ?_
    cases ho2 : Bd.ownAt env3 j with
    | none => rw [ho2] at q3; cases i <;> exact q3.elim
    | some ds =>
      rw [ho2] at q3
      cases r3 with
      | int i =>
        simp only at q3
        cases hn : ixN ds.length i with
        | none => rw [hn] at q3; exact q3.elim
        | some n =>
          rw [hn] at q3
          obtain ⟨a', vs, h1', h2, h5⟩ := kown S3 ho2
          rw [h1] at h1'
          cases h1'
          exact ⟨a, vs, i, n, rfl, rfl, h2, by rw [h5.len]; exact hn, nxP q3 (S3.change (ownAt_ok ho2) h1 (h5.set n (r.mono e3))) (Ex.rfl' K3)⟩
      | _ => exact q3.elim
end
end T
end
section
set_option Elab.async false
set_option linter.all false
set_option maxRecDepth 100000
set_option maxHeartbeats 4000000
namespace T
open PySem PySem.Spec PyProof.Rows L2
namespace Bd
def forL (t : Tg) (body : BM) : List D → BM
  | [], env, s => .ok .nx env s
  | d :: r, env, s => match t.bind d with
    | none => .stuck
    | some l => match body (setS env l) s with
      | .ok .nx env' s' => forL t body r env' s'
      | .ok .ct env' s' => forL t body r env' s'
      | .ok .bk env' s' => .ok .nx env' s'
      | x => x
def loop (t : Tg) (src : EL) (body : BM) : BM := fun env s => match src (view [] 0 env) s with
  | .ok ds s' => forL t body ds env s'
  | .exc c fs s' => .exc c fs env s'
  | .stuck => .stuck
def loopR (t : Tg) (vis : List Nat) (m : EM) (body : BM) : BM := fun env s => withE (ev vis m env s) env fun d s' => match d with
  | .int j => if -(2 ^ 62) ≤ j ∧ j < 2 ^ 62 then forL t body (rangeD 0 j.toNat) env s' else .stuck
  | _ => .stuck
def loopW (vis : List Nat) (c : ET) (body : BM) : Nat → BM
  | 0, _, _ => .stuck
  | n + 1, env, s => withT (evT vis c env s) env fun b s' => if b = true then (match body env s' with
      | .ok .nx env' s' => loopW vis c body n env' s'
      | .ok .ct env' s' => loopW vis c body n env' s'
      | .ok .bk env' s' => .ok .nx env' s'
      | x => x) else .ok .nx env s'
def whl (n : VEnv → DS → Nat) (vis : List Nat) (c : ET) (body : BM) : BM := fun env s => loopW vis c body (n env s) env s
def aug (i : Nat) (g : D → D → M D) (vis : List Nat) (m : EM) : BM := fun env s => match env[i]? with
  | some (some (.val d0)) => withE (ev vis m env s) env fun d s' => match g d0 d s' with
    | .ok r s'' => .ok .nx (env.set i (some (.val r))) s''
    | _ => .stuck
  | _ => .stuck
end Bd
section
variable {X : Cx} {W : WX}
theorem Sta.step {dp : DP} {K0 H0 K H K2 H2 : Hp} {σ : Sg} {env : VEnv} {s s2 : DS} (S : Sta X.K dp K0 H0 σ env K H s) (g : Gr dp K H K2 H2) (hd : DealOk dp K2 H2 s2) : Sta X.K dp K0 H0 σ env K2 H2 s2 := by
  have h := S.less (vis := []) (K2 := K2) (H2 := H2) (s2 := s2) (by rw [plusK_nil]; exact g) hd
  rwa [lessK_nil] at h
theorem Gr.of_none {dp : DP} {K H K2 H2 : Hp} (g : Gr dp0 K H K2 H2) : Gr dp K H K2 H2 := ⟨g.kk, g.sub, g.new, fun a o h _ => g.fr a o h (fun p q hp => by cases hp)⟩
theorem Gr.none_ex {K H K2 H2 : Hp} (g : Gr dp0 K H K2 H2) : Ex H H2 := fun a o h => g.fr a o h (fun p q hp => by cases hp)
theorem forL_run {body : List Stmt} {t : Tg} {mb : BM} {ds : List D} {dp : DP} {K0 H0 K2 H2 : Hp} {σ : Sg} {env : VEnv} {s2 : DS} {J : It} {D : Ends} (hb : StB X W body mb) (S2 : Sta X.K dp K0 H0 σ env K2 H2 s2) (hy : Yields X.K J K2 ds)
    (q : PostS X.K dp K0 H0 K2 (Bd.forL t mb ds env s2) D W) :
    ∃ Wm : Nat → Nat → Sg → Hp → Prop, (∃ m, Wm 0 m σ H2) ∧ ∀ i m σ H, Wm i m σ H →
      (J.stop i H ∧ D.nx σ H) ∨ (J.go i H ∧ ∃ N : Sg → Hp → Prop, (∀ σ' H', N σ' H' → ∃ m', m' < m ∧ Wm (i + 1) m' σ' H') ∧ ∀ x H', J.yld i H x H' → t.g X.K x σ H' fun σ2 H2 => semB X body { D with nx := N, ct := N, bk := D.nx } σ2 H2) := by
  refine ⟨fun i m σ H => m = ds.length - i ∧ i ≤ ds.length ∧ ∃ (env' : VEnv) (s' : DS) (K' : Hp), Sta X.K dp K0 H0 σ env' K' H s' ∧ Ex K2 K' ∧ PostS X.K dp K0 H0 K' (Bd.forL t mb (ds.drop i) env' s') D W, ⟨ds.length, by simp, Nat.zero_le _, env, s2, K2, S2, Ex.rfl' K2, by rw [List.drop_zero]; exact q⟩, ?_⟩
  rintro i m σ H ⟨rfl, hi, env', s', K', S', e', q'⟩
  by_cases hlt : i < ds.length
  · refine .inr ⟨hy.go i H hlt (Ex.tr e' S'.gr.sub), fun σ2 H2 => i + 1 ≤ ds.length ∧ ∃ (env' : VEnv) (s' : DS) (K' : Hp), Sta X.K dp K0 H0 σ2 env' K' H2 s' ∧ Ex K2 K' ∧ PostS X.K dp K0 H0 K' (Bd.forL t mb (ds.drop (i + 1)) env' s') D W, fun σ3 H3 n => ⟨ds.length - (i + 1), by omega, rfl, n.1, n.2⟩, fun x H' y => ?_⟩
    obtain ⟨K3, d, g3, hd, rd⟩ := hy.yld i H x H' K' hlt e' S'.gr.sub y
    have S3 := S'.step g3.of_none (S'.dl.ext g3.none_ex g3.new)
    rw [List.drop_eq_getElem_cons hlt] at q'
    have hd' : ds[i] = d := by rw [List.getElem?_eq_getElem hlt] at hd; exact Option.some.inj hd
    rw [hd'] at q'
    unfold Bd.forL at q'
    cases hbd : t.bind d with
    | none => rw [hbd] at q'; exact q'.elim
    | some l =>
      rw [hbd] at q'
      simp only at q'
      refine Tg.ok t S3.gr.sub rd hbd fun lv rl => ?_
      have S4 := S3.sets rl
      refine hb dp K0 H0 _ _ K3 H' s' S4 _ ?_
      have q' := PostS.later g3.kk q'
      have e3 := Ex.tr e' g3.kk
      cases hr : mb (Bd.setS env' l) s' with
      | stuck => rw [hr] at q'; exact q'
      | exc c fs env2 s2 => rw [hr] at q'; exact q'
      | ok f env2 s2 =>
        rw [hr] at q'
        cases f with
        | nx => exact fun σ4 K4 H4 S4 e4 => ⟨hlt, env2, s2, K4, S4, Ex.tr e3 e4, PostS.later e4 q'⟩
        | ct => exact fun σ4 K4 H4 S4 e4 => ⟨hlt, env2, s2, K4, S4, Ex.tr e3 e4, PostS.later e4 q'⟩
        | bk => exact q'
        | rt d => exact q'
        | rtD g m => exact q'
        | rtL ds => exact q'
  · have e : i = ds.length := by omega
    subst e
    refine .inl ⟨hy.stop H (Ex.tr e' S'.gr.sub), ?_⟩
    rw [List.drop_length] at q'
    exact nxP q' S' (Ex.rfl' K')
theorem st_for {tg iter : Expr} {body : List Stmt} {pos : Pos} {t : Tg} {src : EL} {mb : BM} (hp : PassesOwn (model X.prog X.w) X.A X.env X.xe) (hc : X.calm = true) (hi : EvI X W tg iter src) (hg : PG X tg (t.g X.K)) (hb : StB X W body mb)
    (hs : ∀ x, foldedSetIterable iter X.env x = pure x := by intro _; rfl) : StX X W (.For tg iter body [] pos) (Bd.loop t src mb) := fun dp K0 H0 σ env K H s S D q => by
  refine semS_of (ps_for (wi := semI X tg iter) (tb := semB X body) hp hc pi_sem hg pss_sem hs) ?_
  obtain ⟨p1, p2, p3, p4⟩ := S.plus []
  rw [plusK_nil] at p2 p3 p4
  refine hi dp σ _ K H s p4 p2 p3 _ ?_
  unfold Bd.loop at q
  cases hm : src (view [] 0 env) s with
  | stuck => rw [hm] at q; exact q
  | exc c fs s' => rw [hm] at q; exact fun dx gs K2 H2 g hd h1 h2 => q σ dx gs K2 H2 (S.step g hd) g.kk h1 h2
  | ok ds s' =>
    rw [hm] at q
    exact fun J K2 H2 g hd hy => forL_run hb (S.step g hd) hy (PostS.later g.kk q)
theorem yields_rK {F : Fg} {K : Hp} {n : Nat} : Yields F (Itr 0 n) K (rangeD 0 n) := yields_r
theorem st_forR {tg a : Expr} {body : List Stmt} {p cp pos : Pos} {t : Tg} {vis : List Nat} {m : EM} {mb : BM} (hp : PassesOwn (model X.prog X.w) X.A X.env X.xe) (hc : X.calm = true) (hgr : Gl X "range") (hm : X.mg "range" = none) (ha : EvX X W a m) (hg : PG X tg (t.g X.K)) (hb : StB X W body mb)
    (hst : starEach [a] X.env = [(false, eval a X.env)] := by rfl) (hs : ∀ x, foldedSetIterable (.Call (.Name "range" p) [a] [] cp) X.env x = pure x := by intro _; rfl) : StX X W (.For tg (.Call (.Name "range" p) [a] [] cp) body [] pos) (Bd.loopR t vis m mb) := fun dp K0 H0 σ env K H s S D q => by
  refine semS_of (ps_for (tb := semB X body) hp hc (pi_range1 (ta := tCons (sem X a) tNil) hgr hm (pa_cons pe_sem pa_nil hst) hst) hg pss_sem hs) ?_
  refine ev_x ha S (PostE.of q fun d s' v K2 H2 S2 e2 r q2 => ?_)
  cases r with
  | int j =>
    simp only at q2
    by_cases hj : -(2 ^ 62) ≤ j ∧ j < 2 ^ 62
    · rw [if_pos hj] at q2
      exact ⟨j, rfl, hj.1, hj.2, forL_run hb S2 yields_rK q2⟩
    · rw [if_neg hj] at q2
      exact q2.elim
  | _ => exact q2.elim
theorem st_while {c : Expr} {body : List Stmt} {pos : Pos} {vis : List Nat} {mc : ET} {mb : BM} (n : VEnv → DS → Nat) (hp : PassesOwn (model X.prog X.w) X.A X.env X.xe) (hc : EvT X W c mc) (hb : StB X W body mb) : StX X W (.While c body [] pos) (Bd.whl n vis mc mb) := fun dp K0 H0 σ env K H s S D q => by
  refine semS_of (ps_while (tc := semT X c) (tb := semB X body) hp pt_sem pss_sem) ?_
  refine ⟨fun m σ H => ∃ (env' : VEnv) (s' : DS) (K' : Hp), Sta X.K dp K0 H0 σ env' K' H s' ∧ PostS X.K dp K0 H0 K' (Bd.loopW vis mc mb m env' s') D W, ⟨n env s, env, s, K, S, q⟩, ?_⟩
  rintro m σ H ⟨env', s', K', S', q'⟩
  cases m with
  | zero => exact q'.elim
  | succ m =>
    unfold Bd.loopW at q'
    refine ev_t hc S' (PostET.of q' fun b s2 K2 H2 S2 e2 q2 => ?_)
    cases b with
    | true =>
      rw [if_pos rfl] at q2 ⊢
      refine ⟨fun σ H => ∃ (env' : VEnv) (s' : DS) (K' : Hp), Sta X.K dp K0 H0 σ env' K' H s' ∧ PostS X.K dp K0 H0 K' (Bd.loopW vis mc mb m env' s') D W, fun σ3 H3 h => ⟨m, Nat.lt_succ_self m, h⟩, ?_⟩
      refine hb dp K0 H0 σ env' K2 H2 s2 S2 _ ?_
      cases hr : mb env' s2 with
      | stuck => rw [hr] at q2; exact q2
      | exc c fs env2 s2 => rw [hr] at q2; exact q2
      | ok f env2 s2 =>
        rw [hr] at q2
        cases f with
        | nx => exact fun σ4 K4 H4 S4 e4 => ⟨env2, s2, K4, S4, PostS.later e4 q2⟩
        | ct => exact fun σ4 K4 H4 S4 e4 => ⟨env2, s2, K4, S4, PostS.later e4 q2⟩
        | bk => exact q2
        | rt d => exact q2
        | rtD g m => exact q2
        | rtL ds => exact q2
    | false =>
      rw [if_neg Bool.false_ne_true] at q2 ⊢
      exact nxP q2 S2 (Ex.rfl' K2)
def ipD (X : Cx) (g : D → D → M D) : TIp := fun x y H Q => ∃ (dp : DP) (K : Hp) (s : DS) (dx dy : D), Ex K H ∧ DealOk dp K H s ∧ Rep X.K K x dx ∧ Rep X.K K y dy ∧ Post X.K dp K H (g dx dy s) Q (fun _ _ _ => False)
theorem pip_of {op : Operator} {g : D → D → M D} (h : Op2X X W0 (inplaceOp op) g) : PIp X op (ipD X g) := fun pins s σ H x y v u Q I rx ry ⟨dp, K, s0, dx, dy, e, hd, r1, r2, q⟩ =>
  h dp σ K H s0 x y dx dy Q e hd r1 r2 q pins s v u I rx ry
theorem st_aug {i : Nat} {x : Str} {e : Expr} {op : Operator} {pos pos' : Pos} {vis : List Nat} {m : EM} {g : D → D → M D} (ho : Op2X X W0 (inplaceOp op) g) (he : EvX X W e m) (hN : X.N.Nodup) (hi : X.N[i]? = some x) (hx : X.env.scope.names.lookup x = some .local) :
    StX X W (.AugAssign (.Name x pos') op e pos) (Bd.aug i g vis m) := fun dp K0 H0 σ env K H s S D q => by
  refine semS_of (ps_aug (te := sem X e) hN hi (.inl hx) pe_sem (pip_of ho) (.inr hx)) ?_
  unfold Bd.aug at q
  cases hj : env[i]? with
  | none => rw [hj] at q; exact q.elim
  | some o =>
    cases o with
    | none => rw [hj] at q; exact q.elim
    | some z =>
      cases z with
      | own ds => rw [hj] at q; exact q.elim
      | slf c fs => rw [hj] at q; exact q.elim
      | val d0 =>
        rw [hj] at q
        obtain ⟨v0, h1, r0⟩ := S.val i d0 hj
        refine ⟨v0, h1, ?_⟩
        refine ev_x he S (PostE.of q fun d s' v K2 H2 S2 e2 r q2 => ?_)
        refine ⟨dp, K2, s', d0, d, S2.gr.sub, S2.dl, r0.mono e2, r, ?_⟩
        cases hg : g d0 d s' with
        | stuck => rw [hg] at q2; exact q2
        | exc c fs s'' => rw [hg] at q2; exact q2.elim
        | ok r s'' =>
          rw [hg] at q2
          exact fun v K3 H3 g3 hd3 r3 => nxP q2 ((S2.step g3 hd3).setVal r3 i) g3.kk
theorem pg_nm {j : Nat} {x : Str} {p : Pos} (hN : X.N.Nodup) (hi : X.N[j]? = some x) (hx : X.env.scope.names.lookup x = some .local) : PG X (.Name x p) ((Tg.nm j).g X.K) := pg_name hN hi (.inl hx) (.inr hx)
theorem pg_tp {es : List Expr} {k : Nat} {pos : Pos} {js : List Nat} (hc : X.calm = true) (h : PGs X es (gsN js)) (hn : (assignEach es X.env).length = js.length := by rfl) (hst : (assignEach es X.env).findIdx? (·.1) = none := by rfl) : PG X (.Tuple es k pos) ((Tg.tp js).g X.K) := pg_tup hc h hn hst
theorem pg_ls {es : List Expr} {k : Nat} {pos : Pos} {js : List Nat} (hc : X.calm = true) (h : PGs X es (gsN js)) (hn : (assignEach es X.env).length = js.length := by rfl) (hst : (assignEach es X.env).findIdx? (·.1) = none := by rfl) : PG X (.Tuple es k pos) ((Tg.ls js).g X.K) := pg_lst hc h hn hst
theorem pgs0 : PGs X [] (gsN []) := pgs_nil
theorem pgs1 {e : Expr} {es : List Expr} {j : Nat} {js : List Nat} (h : PG X e (gName j)) (hs : PGs X es (gsN js)) (ha : (assignEach (e :: es) X.env).map (·.2) = assign e X.env :: (assignEach es X.env).map (·.2) := by rfl) : PGs X (e :: es) (gsN (j :: js)) := pgs_cons h hs ha
end
end T
end
section
set_option Elab.async false
set_option linter.all false
set_option maxRecDepth 100000
set_option maxHeartbeats 4000000
namespace T
open PySem PySem.Spec PyProof.Rows L2
namespace Bd
def start (n : Nat) (ds : List D) : VEnv := ds.map (fun d => some (.val d)) ++ List.replicate (n - ds.length) none
def outM (r : RB) : Res D := match r with
  | .ok (.rt d) _ s => .ok d s
  | .ok .nx _ s => .ok .non s
  | .exc c fs _ s => .exc c fs s
  | _ => .stuck
def run (n np : Nat) (mb : BM) : List D → M D := fun ds s => if ds.length = np then outM (mb (start n ds) s) else .stuck
def startI (c : Str) (n : Nat) (ds : List D) : VEnv := some (.slf c []) :: (ds.map (fun d => some (.val d)) ++ List.replicate (n - (ds.length + 1)) none)
def slf0 (c : Str) (env : VEnv) : Option (List (Str × D)) := match env with
  | some (SV.slf c' fs) :: _ => if c' = c then some fs else none
  | _ => none
def outI (c : Str) (r : RB) : Res (List (Str × D)) := match r with
  | .ok .nx env s => match slf0 c env with
    | some fs => .ok fs s
    | none => .stuck
  | .exc c fs _ s => .exc c fs s
  | _ => .stuck
def runI (c : Str) (n np : Nat) (mb : BM) : List D → M (List (Str × D)) := fun ds s => if ds.length = np then outI c (mb (startI c n ds) s) else .stuck
end Bd
theorem reps_get {F : Fg} {K : Hp} {vs : List V} {ds : List D} (r : Reps F K vs ds) {n n' : Nat} {i : Nat} {d : D} (h : (ds.map (fun d => some (SV.val d)) ++ List.replicate n none)[i]? = some (some (SV.val d))) :
    ∃ v, (vs.map some ++ List.replicate n' none)[i]? = some (some v) ∧ Rep F K v d := by
  by_cases hi : i < ds.length
  · rw [List.getElem?_append_left (by simpa using hi), List.getElem?_map] at h
    cases e : ds[i]? with
    | none => rw [e] at h; cases h
    | some d' =>
      rw [e] at h
      cases h
      obtain ⟨v, h1, h2⟩ := r.get e
      exact ⟨v, by rw [List.getElem?_append_left (by rw [List.length_map, r.len]; exact hi), List.getElem?_map, h1]; rfl, h2⟩
  · rw [List.getElem?_append_right (by simpa using hi), List.getElem?_replicate] at h
    split at h <;> cases h
theorem not_own {ds : List D} {n i : Nat} {z : SV} (hz : ∀ d, z ≠ .val d) : (ds.map (fun d => some (SV.val d)) ++ List.replicate n none)[i]? ≠ some (some z) := fun h => by
  by_cases hi : i < ds.length
  · rw [List.getElem?_append_left (by simpa using hi), List.getElem?_map] at h
    cases e : ds[i]? with
    | none => rw [e] at h; cases h
    | some d' =>
      rw [e] at h
      cases h
      exact hz d' rfl
  · rw [List.getElem?_append_right (by simpa using hi), List.getElem?_replicate] at h
    split at h <;> cases h
section
variable {F : Fg} {dp : DP} {K H : Hp} {s : DS} {N : List Str} {vs : List V} {ds : List D}
theorem sta_start (he : Ex K H) (hd : DealOk dp K H s) (r : Reps F K vs ds) : Sta F dp K H (L2.start N vs) (Bd.start N.length ds) K H s where
  gr := Gr.rfl' he
  dl := hd
  d0 := ⟨s, hd⟩
  e0 := he
  len := by simp [L2.start, Bd.start, r.len]
  val := fun i d h => reps_get r h
  own := fun i ds' h => absurd h (not_own (fun _ => by simp))
  slf := fun i c fs h => absurd h (not_own (fun _ => by simp))
  apart := fun i j a hi _ _ _ => by
    rcases hi with ⟨ds', h⟩ | ⟨c, fs, h⟩
    · exact absurd h (not_own (fun _ => by simp))
    · exact absurd h (not_own (fun _ => by simp))
theorem post_run {K0 H0 : Hp} {r : RB} {Q : VK} {E : XK} (q : Post F dp K0 H0 (Bd.outM r) Q E) (K2 : Hp) : PostS F dp K0 H0 K2 r { nx := fun _ H' => Q .non H', rt := Q } (fun cls d _ H => E cls d H) := by
  match r, q with
  | .ok .nx env s', q => exact fun σ K3 H3 S _ => (show ∀ v K2 H2, Gr dp K0 H0 K2 H2 → DealOk dp K2 H2 s' → Rep F K2 v .non → Q v H2 from q) .non K3 H3 S.gr S.dl .non
  | .ok .bk env s', q => exact q.elim
  | .ok .ct env s', q => exact q.elim
  | .ok (.rt d) env s', q => exact q
  | .ok (.rtD g m) env s', q => exact q.elim
  | .ok (.rtL ds) env s', q => exact q.elim
  | .exc c fs env s', q => exact fun σ dx gs K3 H3 S _ h1 h2 => (show ∀ dx gs K2 H2, Gr dp K0 H0 K2 H2 → DealOk dp K2 H2 s' → K2 dx = some (.xd gs) → RepF F K2 gs fs → E (.ref (He.ga F c)) (some dx) H2 from q) dx gs K3 H3 S.gr S.dl h1 h2
  | .stuck, q => exact q.elim
end
section
variable {P : Program} {w : World} {K : Fg} {mg : Str → Option Value} {base : Heap} {x qual : Str} {params : Arguments} {body : List Stmt} {scope : Scope} {dvs : List V} {kws : List (Str × V)} {f : Addr} {fd : FuncData} {N ps : List Str} {k : Nat} {mb : BM}
def BodyOk (P : Program) (w : World) (K : Fg) (mg : Str → Option Value) (base : Heap) (N : List Str) (qual : Str) (scope : Scope) (k : Nat) (body : List Stmt) (mb : BM) : Prop :=
  ∀ (f : Addr) (cdv : Value) (A : Around) (outer : List PySem.Env) (s : Shared) (H : Hp) (E : XK), Room k (A.deeper (envOfC qual scope s.heap.objs.size f cdv)) →
    StB (cxOf (L2N.CX P w) P w K mg base N qual scope f cdv A outer s H E) (fun c d _ H => E c d H) body mb
theorem fn_ok (F : FunD K x qual params body scope dvs kws f fd) (S : FnScope N ps scope) (hb : BodyOk P w K mg base N qual scope k body mb) : FnOk P w K mg base (L2N.CX P w) (k + 1) f fd ps (spM K ps.length (Bd.run N.length ps.length mb)) :=
  F.ok S (fun vs H Q E h => h.1) fun cdv A outer s H vs Q E hr h => by
    refine ⟨semB (cxOf (L2N.CX P w) P w K mg base N qual scope f cdv A outer s H E) body, pss_sem, ?_⟩
    obtain ⟨hl, dp, K1, ds, s0, he, hd, r, q⟩ := h
    refine hb f cdv A outer s H E hr dp K1 H _ _ K1 H s0 (sta_start he hd r) _ ?_
    have q2 : Post K dp K1 H (if ds.length = ps.length then Bd.outM (mb (Bd.start N.length ds) s0) else .stuck) Q E := q
    rw [if_pos (by rw [← r.len]; exact hl)] at q2
    exact post_run q2 K1
theorem in_ok {c : Str} (F : FunD K x qual params body scope dvs kws f fd) (S : FnScope N ps scope) (hp : 0 < ps.length) (hb : BodyOk P w K mg base N qual scope k body mb) : FnOk P w K mg base (L2N.CX P w) (k + 1) f fd ps (spI K (ps.length - 1) c (Bd.runI c N.length (ps.length - 1) mb)) :=
  F.ok S (fun vs H Q E h => by have := h.1; omega) fun cdv A outer s H vs Q E hr h => by
    refine ⟨semB (cxOf (L2N.CX P w) P w K mg base N qual scope f cdv A outer s H E) body, pss_sem, ?_⟩
    obtain ⟨hl, x, dx, ws, dp, K1, H0, ds, s0, rfl, hx, hdx, hne, rfl, he, hd, r, q⟩ := h
    have hwl : ws.length = ps.length - 1 := by simpa using hl
    have hdl : ds.length = ps.length - 1 := by rw [← r.len]; exact hwl
    have hnx : NotDeal dp x := NotDeal.fresh hd hx
    have hndx : NotDeal dp dx := NotDeal.fresh hd hdx
    have ex1 : Ex H0 (upd (upd H0 dx (.own x)) x (.ins (He.ga K c) dx [])) := fun b o e => by rw [upd_ne (ne_of_none e hx), upd_ne (ne_of_none e hdx)]; exact e
    have st : Sta K ⟨dp.deal, x⟩ K1 H0 (L2.start N (V.ref x :: ws)) (Bd.startI c N.length ds) K1 (upd (upd H0 dx (.own x)) x (.ins (He.ga K c) dx [])) s0 := {
      gr := ⟨Ex.rfl' K1, Ex.tr he ex1, fun _ _ => rfl, fun a o h _ => ex1 a o h⟩
      dl := ⟨hd.1, fun p q hp => by
        obtain ⟨⟨a1, a2⟩, a3, a4⟩ := hd.2 p q hp
        exact ⟨⟨ex1 _ _ a1, ex1 _ _ a2⟩, a3, a4⟩⟩
      d0 := ⟨s0, hd⟩
      e0 := he
      len := by simp [L2.start, Bd.startI, r.len]
      val := fun i d h => by
        cases i with
        | zero => cases h
        | succ i =>
          obtain ⟨v, h1, h2⟩ := reps_get (n' := N.length - (ws.length + 1)) r (show (ds.map (fun d => some (SV.val d)) ++ List.replicate _ none)[i]? = _ from by simpa [Bd.startI] using h)
          exact ⟨v, by simpa [L2.start] using h1, h2⟩
      own := fun i ds' h => by
        cases i with
        | zero => cases h
        | succ i => exact absurd (show (ds.map (fun d => some (SV.val d)) ++ List.replicate _ none)[i]? = _ from by simpa [Bd.startI] using h) (not_own (fun _ => by simp))
      slf := fun i c' fs h => by
        cases i with
        | zero =>
          cases h
          exact ⟨x, dx, [], rfl, rfl, upd_same, hx, ex_none he hx, .nil⟩
        | succ i => exact absurd (show (ds.map (fun d => some (SV.val d)) ++ List.replicate _ none)[i]? = _ from by simpa [Bd.startI] using h) (not_own (fun _ => by simp))
      apart := fun i j a hi hj _ _ => by
        have key : ∀ i, Own (Bd.startI c N.length ds) i → i = 0 := fun i hi => by
          cases i with
          | zero => rfl
          | succ i =>
            rcases hi with ⟨ds', h⟩ | ⟨c', fs, h⟩
            · exact absurd (show (ds.map (fun d => some (SV.val d)) ++ List.replicate _ none)[i]? = _ from by simpa [Bd.startI] using h) (not_own (fun _ => by simp))
            · exact absurd (show (ds.map (fun d => some (SV.val d)) ++ List.replicate _ none)[i]? = _ from by simpa [Bd.startI] using h) (not_own (fun _ => by simp))
        rw [key i hi, key j hj] }
    refine hb f cdv A outer s _ E hr ⟨dp.deal, x⟩ K1 H0 _ _ K1 _ s0 st _ ?_
    have q2 : PostI K c x dp K1 H0 (if ds.length = ps.length - 1 then Bd.outI c (mb (Bd.startI c N.length ds) s0) else .stuck) Q E := q
    rw [if_pos hdl] at q2
    have gb : ∀ {K2 H2 : Hp}, Gr ⟨dp.deal, x⟩ K1 H0 K2 H2 → Gr dp K1 H0 K2 H2 := fun g => ⟨g.kk, g.sub, g.new, g.fr⟩
    cases hr : mb (Bd.startI c N.length ds) s0 with
    | stuck => rw [hr] at q2; exact q2.elim
    | exc c' fs env' s' =>
      rw [hr] at q2
      exact fun σ dx' gs K3 H3 S _ h1 h2 => (show ∀ dx gs K2 H2, Gr dp K1 H0 K2 H2 → DealOk dp K2 H2 s' → K2 dx = some (.xd gs) → RepF K K2 gs fs → E (.ref (He.ga K c')) (some dx) H2 from q2) dx' gs K3 H3 (gb S.gr) S.dl h1 h2
    | ok fl env' s' =>
      rw [hr] at q2
      cases fl with
      | nx =>
        unfold Bd.outI at q2
        intro σ K3 H3 S _
        cases env' with
        | nil => exact q2.elim
        | cons o r =>
          cases o with
          | none => exact q2.elim
          | some z =>
            cases z with
            | val d => exact q2.elim
            | own d => exact q2.elim
            | slf c' fs =>
              have q3 : PostI K c x dp K1 H0 (match (if c' = c then some fs else none) with
                | some fs => .ok fs s'
                | none => .stuck) Q E := q2
              by_cases hc : c' = c
              · subst hc
                rw [if_pos rfl] at q3
                obtain ⟨a, dx', gs, e0, e1, e2, e3, e4, e5⟩ := S.slf 0 c' fs rfl
                subst e0
                exact (show ∀ gs dx K2 H2, Gr dp K1 H0 K2 H2 → DealOk dp K2 H2 s' → H2 a = some (.ins (He.ga K c') dx gs) → K2 a = none → RepF K K2 gs fs → Q .non H2 from q3) gs dx' K3 H3 (gb S.gr) S.dl e2 e4 e5
              · rw [if_neg hc] at q3
                exact q3.elim
      | bk => exact q2.elim
      | ct => exact q2.elim
      | rt d => exact q2.elim
      | rtD g m => exact q2.elim
      | rtL ds => exact q2.elim
end
end T
end
section
set_option Elab.async false
set_option linter.all false
set_option maxRecDepth 100000
set_option maxHeartbeats 4000000
namespace T
open PySem PySem.Spec PyProof.Rows L2
def putD (f : Str) (d : D) : List (Str × D) → List (Str × D)
  | [] => [(f, d)]
  | (g, x) :: r => if g = f then (g, d) :: r else (g, x) :: putD f d r
theorem repF_put {F : Fg} {K : Hp} {f : Str} {v : V} {d : D} (h : Rep F K v d) : ∀ {gs : List (Str × V)} {fs : List (Str × D)}, RepF F K gs fs → RepF F K (putF f v gs) (putD f d fs)
  | _, _, .nil => .cons h .nil
  | _, _, .cons (f := g) r t => by
    show RepF F K (if g = f then _ else _) (if g = f then _ else _)
    by_cases e : g = f
    · rw [if_pos e, if_pos e]
      exact .cons h t
    · rw [if_neg e, if_neg e]
      exact .cons r (repF_put h t)
theorem repF_len {F : Fg} {K : Hp} : ∀ {gs : List (Str × V)} {fs : List (Str × D)}, RepF F K gs fs → gs.length = fs.length
  | _, _, .nil => rfl
  | _, _, .cons _ t => congrArg (· + 1) (repF_len t)
namespace Bd
def fld (tb : Tab) (j : Nat) (f : Str) (vis : List Nat) (m : EM) : BM := fun env s => withE (ev vis m env s) env fun d s' => match env[j]? with
  | some (some (.slf c fs)) => if tb.fld c f = true ∧ fs.length < 1000 then .ok .nx (env.set j (some (.slf c (putD f d fs)))) s' else .stuck
  | _ => .stuck
def rais (c f : Str) (vis : List Nat) (m : EM) : BM := fun env s => withE (ev vis m env s) env fun d s' => .exc c [(f, d)] env s'
def par (i j : Nat) (ma mb : EM) : BM := fun env s => withE (ma (view [] 0 env) s) env fun a s1 => withE (mb (view [] 0 env) s1) env fun b s2 => .ok .nx ((env.set i (some (.val a))).set j (some (.val b))) s2
end Bd
section
variable {F : Fg} {dp : DP} {K0 H0 K H : Hp} {σ : Sg} {env : VEnv} {s : DS}
theorem Sta.field (S : Sta F dp K0 H0 σ env K H s) {j : Nat} {c : Str} {fs fs2 : List (Str × D)} {a dx : Addr} {gs2 : List (Str × V)} (h : env[j]? = some (some (.slf c fs))) (e0 : a = dp.self) (e1 : σ[j]? = some (some (V.ref a))) (r : RepF F K gs2 fs2) : Sta F dp K0 H0 σ (env.set j (some (.slf c fs2))) K (upd H a (.ins (He.ga F c) dx gs2)) s := by
  obtain ⟨a', dx', gs', e0', e1', e2, e3, e4, e5⟩ := S.slf j c fs h
  rw [e1] at e1'
  cases e1'
  have hj : j < env.length := by
    rcases List.getElem?_eq_some_iff.mp h with ⟨hl, _⟩
    exact hl
  obtain ⟨s0, d0⟩ := S.d0
  have nd := NotDeal.fresh d0 e3
  have oj : Own env j := .inr ⟨c, fs, h⟩
  have other : ∀ i b, i ≠ j → Own env i → σ[i]? = some (some (V.ref b)) → b ≠ a := fun i b ne o e z => ne (S.apart i j a o oj (by rw [← z]; exact e) e1)
  exact {
    gr := ⟨S.gr.kk, fun b o e => by rw [upd_ne (ne_of_none e e4)]; exact S.gr.sub _ _ e, S.gr.new, fun b o e nd => by rw [upd_ne (ne_of_none e e3)]; exact S.gr.fr b o e nd⟩
    dl := ⟨S.dl.1, fun p q hp => by
      obtain ⟨⟨a1, a1'⟩, a2, a3⟩ := S.dl.2 p q hp
      obtain ⟨n1, n2⟩ := nd p q hp
      exact ⟨⟨by rw [upd_ne (Ne.symm n1)]; exact a1, by rw [upd_ne (Ne.symm n2)]; exact a1'⟩, a2, a3⟩⟩
    d0 := ⟨s0, d0⟩
    e0 := S.e0
    len := by rw [List.length_set]; exact S.len
    val := fun i e hi => by
      rcases get_set hi with ⟨rfl, hx, hl⟩ | ⟨ne, hi⟩
      · cases hx
      · exact S.val i e hi
    own := fun i ds' hi => by
      rcases get_set hi with ⟨rfl, hx, hl⟩ | ⟨ne, hi⟩
      · cases hx
      · obtain ⟨b, ws, f1, f2, f3, f4, f5⟩ := S.own i ds' hi
        exact ⟨b, ws, f1, by rw [upd_ne (other i b ne (.inl ⟨_, hi⟩) f1)]; exact f2, f3, f4, f5⟩
    slf := fun i c' fs' hi => by
      rcases get_set hi with ⟨rfl, hx, hl⟩ | ⟨ne, hi⟩
      · cases hx
        exact ⟨a, dx, gs2, e0, e1, upd_same, e3, e4, r⟩
      · obtain ⟨b, dx, ws, f0, f1, f2, f3, f4, f5⟩ := S.slf i c' fs' hi
        exact ⟨b, dx, ws, f0, f1, by rw [upd_ne (other i b ne (.inr ⟨_, _, hi⟩) f1)]; exact f2, f3, f4, f5⟩
    apart := fun i k b hi hk f1 f2 => by
      have up : ∀ i, Own (env.set j (some (.slf c fs2))) i → Own env i := fun i hi => by
        rcases own_setO hi with rfl | ⟨_, o⟩
        · exact oj
        · exact o
      exact S.apart i k b (up i hi) (up k hk) f1 f2 }
end
section
variable {X : Cx} {W : WX} {tb : Tab} {k : Nat}
theorem st_fld {x f : Str} {e : Expr} {p p' pos : Pos} {vis : List Nat} {m : EM} (j : Nat) (TO : TabOk X.prog X.w X.K X.mg X.base k tb) (R : Rcv X x j) (he : EvX X W e m) (hs : swapsWith e (some (.Attribute (.Name x p) f p')) pos.line X.env = pure false := by rfl) :
    StX X W (.Assign [.Attribute (.Name x p) f p'] e pos) (Bd.fld tb j f vis m) := fun dp K0 H0 σ env K H s S D q => by
  refine semS_of (ps_fld (ta := sem X (.Name x p)) (tv := sem X e) pe_sem pe_sem hs) ?_
  refine ev_x he S (PostE.of q fun d s' v K2 H2 S2 e2 r q2 => ?_)
  cases hj : env[j]? with
  | none => rw [hj] at q2; exact q2.elim
  | some o =>
    cases o with
    | none => rw [hj] at q2; exact q2.elim
    | some z =>
      cases z with
      | own ds => rw [hj] at q2; exact q2.elim
      | val ds => rw [hj] at q2; exact q2.elim
      | slf c fs =>
        rw [hj] at q2
        simp only at q2
        by_cases hf : tb.fld c f = true ∧ fs.length < 1000
        · rw [if_pos hf] at q2
          obtain ⟨a, dx, gs, e0, e1, h2, h3, h4, h5⟩ := S2.slf j c fs hj
          obtain ⟨t1, t2⟩ := TO.fld c f hf.1
          refine R.sem e1 ⟨a, _, dx, gs, rfl, h2, t1, t2, by rw [repF_len h5]; exact hf.2, ?_⟩
          exact nxP q2 (S2.field hj e0 e1 (repF_put r h5)) (Ex.rfl' K2)
        · rw [if_neg hf] at q2
          exact q2.elim
def spX (K : Fg) (c f : Str) : Sp := fun vs H Q EE => ∃ (a : Addr) (y : V), vs = [.ref a, y] ∧ H a = some (exo a (He.ga K c) none) ∧ ∀ dx, H dx = none → dx ≠ a → Q .non (upd (upd H dx (exd dx [(f, y)])) a (exo a (He.ga K c) (some dx)))
structure ExI (P : Program) (w : World) (K : Fg) (mg : Str → Option Value) (base : Heap) (k : Nat) (c f : Str) : Prop where
  ex : ∃ (fI : Addr) (fd : FuncData) (ps : List Str), OexC K (He.ga K c) ∧ PySem.W.findIn K (.ref (He.ga K c)) "__init__" = some (some (.ref fI)) ∧ PySem.W.typeIn K (.ref fI) = some (.type "function") ∧ FnOk P w K mg base (L2N.CX P w) k fI fd ps (spX K c f) ∧ Binds K fd ps [] ∧ mg c = some (.ref (He.ga K c))
theorem ex_ok {P : Program} {w : World} {K : Fg} {mg : Str → Option Value} {base : Heap} {x qual c f self_ prm : Str} {params : Arguments} {scope : Scope} {kws : List (Str × V)} {fA : Addr} {fd : FuncData} {k : Nat} {p1 p2 p3 pos : Pos} (F : FunD K x qual params [.Assign [.Attribute (.Name self_ p1) f p2] (.Name prm p3) pos] scope [] kws fA fd) (S : FnScope [self_, prm] [self_, prm] scope)
    (TC : OexC K (He.ga K c)) (hno : PySem.W.findIn K (.ref (He.ga K c)) f = some none) (v1 : Vis scope self_) (v2 : Vis scope prm) (d1 : (self_ == ("__debug__" : Str)) = false := by decide) (d2 : (prm == ("__debug__" : Str)) = false := by decide) (c1 : (self_ == ("__classdict__" : Str)) = false := by decide) (c2 : (prm == ("__classdict__" : Str)) = false := by decide)
    (hs : ∀ env : PySem.Env, env.scope = scope → swapsWith (.Name prm p3) (some (.Attribute (.Name self_ p1) f p2)) pos.line env = pure false) : FnOk P w K mg base (L2N.CX P w) (k + 1) fA fd [self_, prm] (spX K c f) :=
  F.ok S (fun vs H Q E h => by obtain ⟨a, y, rfl, _⟩ := h; rfl) fun cdv A outer s H vs Q E hr h => by
    obtain ⟨a, y, rfl, ha, q⟩ := h
    refine ⟨_, pss_one (ps_ost (pe_var (i := 0) rfl v1 d1 c1) (pe_var (i := 1) rfl v2 d2 c2) (hs _ rfl)), ?_⟩
    exact ⟨y, rfl, .ref a, rfl, a, _, rfl, TC, hno, .inl ⟨ha, fun dx n ne => q dx n ne⟩⟩
theorem pmkN {CX : CXT} {x : Str} {C fI : Addr} {k : Nat} {fd : FuncData} {ps : List Str} {sp : Sp} {e : Expr} {es : List Expr} {p pos : Pos} {ta : TA} (TC : OexC X.K C) (iC : PySem.W.findIn X.K (.ref C) "__init__" = some (some (.ref fI))) (tI : PySem.W.typeIn X.K (.ref fI) = some (.type "function"))
    (F1 : FnOk X.prog X.w X.K X.mg X.base CX k fI fd ps sp) (hr : Room (k + 1) X.A) (hb : Binds X.K fd ps []) (hx : Passes CX X (fun _ _ _ => False)) (hg : Gl X x) (hm : X.mg x = some (.ref C)) (ha : PA X (e :: es) ta)
    (hdb : (x == ("__debug__" : Str)) = false := by decide) (he : starEach (e :: es) X.env = (false, eval e X.env) :: starEach es X.env := by rfl) (hpl : (backTo pos (starEach es X.env)).any (·.1) = false := by rfl) :
    L2N.PMk X (.Call (.Name x p) (e :: es) [] pos) (tMkO C sp [] ta) := by
  intro pins s σ H Q I h
  obtain ⟨nm, q, N, bs, bm, sn, sub, ab, col, dd, k0, k1, k2, k3, k5, hC, hbm⟩ := TC.cls
  refine wpAny_Call_Name_kw (ld_glob I hg hm ?_ hdb)
  refine PySem.W.callWith_K (h₀ := X.base) I.ok.mod.kin TC.kC (thn (ha.run pos pins s σ H _ I h) fun us s1 ⟨vs, H1, I1, r1, hz, q1⟩ => ⟨I1.kIn, ?_⟩) he hpl
  show wpAny _ _ (call (.ref C) us) _ _ _
  obtain ⟨hp, g, dr, tk, os⟩ := s1
  have hsz : hp.objs.size ≤ hp.objs.size + 1 := Nat.le_succ _
  have hn : H1 (hp.objs.size + 1) = none := I1.hok.fresh hsz
  have hq := q1 (hp.objs.size + 1) hn
  rw [List.append_nil] at hq
  have kk : ∀ b o, hp.get? b = some o → ((hp.push (PySem.W.kdv_tup us)).push (PySem.HandSPX.excO C hp.objs.size)).get? b = some o := fun b o e => Heap.get?_push_of_some _ (Heap.get?_push_of_some _ e)
  have hget : ((hp.push (PySem.W.kdv_tup us)).push (PySem.HandSPX.excO C hp.objs.size)).get? (hp.objs.size + 1) = some (PySem.HandSPX.excO C hp.objs.size) := by heap_get
  have I2 : Inv X pins σ (upd H1 (hp.objs.size + 1) (exo (hp.objs.size + 1) C none)) ⟨(hp.push (PySem.W.kdv_tup us)).push (PySem.HandSPX.excO C hp.objs.size), g, dr, tk, os⟩ :=
    I1.laid (t' := tk) (a := hp.objs.size + 1) (o := exo (hp.objs.size + 1) C none) (h' := (hp.push (PySem.W.kdv_tup us)).push (PySem.HandSPX.excO C hp.objs.size)) kk hsz (exo_ok hget)
  have r2 : Vals (V.ref (hp.objs.size + 1) :: vs) (Value.ref (hp.objs.size + 1) :: us) := .cons rfl r1
  have hl : (Value.ref (hp.objs.size + 1) :: us).length = ps.length := by
    have e := r2.length
    rw [F1.len _ _ _ _ hq] at e
    exact e.symm
  have hus : us.length ≤ sizeLine := by
    rw [← Paired.length r1, sizeLine_eq]
    omega
  refine wpAny_call (PySem.HandSPX.call_own F.excBase_ValueError (fun Y => PySem.HandSPX.refsVE_contains Y bm hbm) (I1.kIn _ _ hC) (PySem.W.looks_findIn I1.kIn iC) (fun self => PySem.W.bind_fn I1.kIn self tI) hus
    (codeAny_mono (F1.run _ X.stack _ _ ⟨Value.ref (hp.objs.size + 1) :: us, []⟩ (Value.ref (hp.objs.size + 1) :: us) _ _ (fun _ _ _ => False) (hr.make C us []) (I2.env0.make C us []) (by
      have b := hb _ (Value.ref (hp.objs.size + 1) :: us) I2.kIn (by rw [List.append_nil]; exact hl)
      rw [List.append_nil] at b
      exact b) r2 hq) fun r s' hq' => ?_))
  cases r with
  | error er => exact hx pins σ _ _ er s' I2 hq'
  | ok fl =>
    cases fl with
    | ret u =>
      obtain ⟨v, H2, os2, bare2, un2, hok2, rv, ev, d, fs, ea, ed, hd1, q2⟩ := hq'
      subst ev
      obtain ⟨h2, g2, d2, t2, os'⟩ := s'
      obtain ⟨t0, G, J, kG, ge, hoe, na⟩ := mk_end0 (d2 := d2) (t2 := t2) I1 hsz kk un2 hok2 os2 bare2 ea ed hd1
      exact ⟨rv, ⟨_, _, _, ⟨G, g2, d2, t2, os'⟩, _, .ref C, some d, rfl, J, kG, ge, hoe, ⟨rfl, rfl, fun vs e => by cases e; rfl⟩, rfl, rfl, na, rfl, bare2, raises_own TC.exC TC.tyC, q2⟩⟩
    | next => exact False.elim hq'
    | brk => exact False.elim hq'
    | cont => exact False.elim hq'
theorem st_rais {c f : Str} {e : Expr} {p cp pos : Pos} {vis : List Nat} {m : EM} (Ei : ExI X.prog X.w X.K X.mg X.base k c f) (hr : Room (k + 1) X.A) (hc : X.calm = true) (tk : L2N.Takes X W) (hg : Gl X c) (he : EvX X W e m)
    (hdb : (c == ("__debug__" : Str)) = false := by decide) (hst : starEach [e] X.env = (false, eval e X.env) :: starEach [] X.env := by rfl) (hpl : (backTo cp (starEach [] X.env)).any (·.1) = false := by rfl) :
    StX X W (.Raise (some (.Call (.Name c p) [e] [] cp)) none pos) (Bd.rais c f vis m) := fun dp K0 H0 σ env K H s S D q => by
  obtain ⟨fI, fd, ps, T, iC, tI, F1, hb, hm⟩ := Ei.ex
  refine semS_of (L2N.ps_raise hc tk (pmkN T iC tI F1 hr hb (fun pins σ H s e s' I cx => tk e s' (L2N.XE.of_call I (fun _ _ _ h => False.elim h) cx)) hg hm (pa_cons (te := sem X e) pe_sem pa_nil hst) hdb hst hpl)) ?_
  refine ev_x he S (PostE.of q fun d s' v K2 H2 S2 e2 r q2 => ?_)
  refine ⟨by simp, fun a ha => ?_⟩
  refine ⟨a, v, rfl, upd_same, fun dx hdx hne => ?_⟩
  have hd2 : H2 dx = none := by rwa [upd_ne hne] at hdx
  refine ⟨rfl, dx, [(f, v)], upd_same, by rw [upd_ne hne, upd_same], hd2, ?_⟩
  have e : upd (del (upd (upd (upd H2 a (exo a (He.ga X.K c) none)) dx (exd dx [(f, v)])) a (exo a (He.ga X.K c) (some dx))) a) dx (.xd [(f, v)]) = upd H2 dx (.xd [(f, v)]) := by
    funext b
    by_cases hb : b = dx
    · subst hb
      rw [upd_same, upd_same]
    · rw [upd_ne hb, upd_ne hb]
      by_cases ha' : b = a
      · subst ha'
        rw [del_same, ha]
      · rw [del_ne ha', upd_ne ha', upd_ne hb, upd_ne ha']
  rw [e]
  have g : Gr dp K2 H2 (upd K2 dx (.xd [(f, v)])) (upd H2 dx (.xd [(f, v)])) := Gr.add S2.gr.sub hd2
  have S3 := S2.step g (g.deal S2.dl (ex_upd hd2))
  exact (show ∀ σ dx gs K3 H3, Sta X.K dp K0 H0 σ env K3 H3 s' → Ex K2 K3 → K3 dx = some (.xd gs) → RepF X.K K3 gs [(f, d)] → W (.ref (He.ga X.K c)) (some dx) σ H3 from q2) σ dx [(f, v)] _ _ S3 g.kk upd_same (.cons (r.mono g.kk) .nil)
theorem st_par {i j : Nat} {x y : Str} {a b : Expr} {ma mb : EM} {px py pt pos : Pos} {kt k2 pt2} (hc : X.calm = true) (hN : X.N.Nodup) (hi : X.N[i]? = some x) (hj : X.N[j]? = some y) (hij : i ≠ j)
    (hx : X.env.scope.names.lookup x = some .local) (hy : X.env.scope.names.lookup y = some .local) (ha : EvX X W a ma) (hb : EvX X W b mb)
    (hw : swappedStores [.Tuple [.Name x px, .Name y py] kt pt] (.Tuple [a, b] k2 pt2) X.env = pure (some [x, y])) (s1 : starEach [a, b] X.env = (false, eval a X.env) :: starEach [b] X.env := by rfl) (s2 : starEach [b] X.env = (false, eval b X.env) :: starEach [] X.env := by rfl)
    (hs : swapsWithSole [.Tuple [.Name x px, .Name y py] kt pt] (.Tuple [a, b] k2 pt2) pos.line X.env = pure false := by rfl) :
    StX X W (.Assign [.Tuple [.Name x px, .Name y py] kt pt] (.Tuple [a, b] k2 pt2) pos) (Bd.par i j ma mb) := fun dp K0 H0 σ env K H s S D q => by
  refine semS_of (ps_par hc hN hi hj hij hx hy (pa_cons (te := sem X a) pe_sem (pa_cons (te := sem X b) pe_sem pa_nil s2) s1) hw hs) ?_
  have hev : ∀ (m : EM) (env : VEnv) (s : DS), Bd.ev [] m env s = m (view [] 0 env) s := fun m env s => by
    unfold Bd.ev
    cases m (view [] 0 env) s <;> rfl
  unfold Bd.par at q
  rw [← hev ma] at q
  refine ev_x ha S (PostE.of q fun d s' v K2 H2 S2 e2 r q2 => ?_)
  rw [← hev mb] at q2
  refine ev_x hb S2 (PostE.of q2 fun d2 s2 v2 K3 H3 S3 e3 r3 q3 => ?_)
  exact ⟨v, v2, rfl, nxP q3 ((S3.setVal (r.mono e3) i).setVal r3 j) (Ex.rfl' K3)⟩
end
end T
end
section
set_option Elab.async false
set_option linter.all false
set_option maxRecDepth 100000
set_option maxHeartbeats 4000000
namespace T
open PySem PySem.Spec PyProof.Rows L2
namespace Bd
def parOV (i j : Nat) (ma mb : EM) : BM := fun env s => withE (ma (view [] 0 env) s) env fun a s1 => match a with
  | .lst ds => withE (mb (view [] 0 env) s1) env fun b s2 => .ok .nx ((env.set i (some (.own ds))).set j (some (.val b))) s2
  | _ => .stuck
def parVO (i j : Nat) (ma mb : EM) : BM := fun env s => withE (ma (view [] 0 env) s) env fun a s1 => withE (mb (view [] 0 env) s1) env fun b s2 => match b with
  | .lst ds => .ok .nx ((env.set i (some (.val a))).set j (some (.own ds))) s2
  | _ => .stuck
def parOO (i j : Nat) (ma mb : EM) : BM := fun env s => withE (ma (view [] 0 env) s) env fun a s1 => match a with
  | .lst ds => withE (mb (view [] 0 env) s1) env fun b s2 => match b with
    | .lst es => .ok .nx ((env.set i (some (.own ds))).set j (some (.own es))) s2
    | _ => .stuck
  | _ => .stuck
end Bd
section
variable {X : Cx} {W : WX}
theorem Sta.notp {F : Fg} {dp : DP} {K0 H0 K H : Hp} {σ : Sg} {env : VEnv} {s : DS} (S : Sta F dp K0 H0 σ env K H s) {p : Addr} (hp : H p = none) : ∀ i a, Own env i → σ[i]? = some (some (V.ref a)) → a ≠ p := fun i a ho hi z => by
  subst z
  rcases ho with ⟨ds, ho⟩ | ⟨c, fs, ho⟩
  · obtain ⟨a', vs', e1, e2, _⟩ := S.own i ds ho
    rw [hi] at e1
    cases e1
    rw [hp] at e2
    cases e2
  · obtain ⟨a', dx, gs, _, e1, e2, _⟩ := S.slf i c fs ho
    rw [hi] at e1
    cases e1
    rw [hp] at e2
    cases e2
theorem relV {dp : DP} {K0 H0 K H : Hp} {σ : Sg} {env : VEnv} {s : DS} (S : Sta X.K dp K0 H0 σ env K H s) : RelE X.K σ (view [] 0 env) K := by
  obtain ⟨p1, p2, p3, p4⟩ := S.plus []
  rw [plusK_nil] at p4
  exact p4
theorem run_v {e : Expr} {m : EM} {dp : DP} {K0 H0 K H : Hp} {σ : Sg} {env : VEnv} {s : DS} {Dn : Ends} {Q : VK} {k : D → DS → RB} (he : EvX X W e m) (S : Sta X.K dp K0 H0 σ env K H s) (q : PostS X.K dp K0 H0 K (Bd.withE (m (view [] 0 env) s) env k) Dn W)
    (h : ∀ d s' v K2 H2, Gr dp K H K2 H2 → Sta X.K dp K0 H0 σ env K2 H2 s' → Rep X.K K2 v d → PostS X.K dp K0 H0 K2 (k d s') Dn W → Q v H2) : sem X e σ H Q := by
  refine he dp σ _ K H s (relV S) S.gr.sub S.dl Q ?_
  cases hm : m (view [] 0 env) s with
  | stuck => rw [hm] at q; exact q
  | exc c fs s' => rw [hm] at q; exact fun dx gs K2 H2 g hd h1 h2 => q σ dx gs K2 H2 (S.step g hd) g.kk h1 h2
  | ok d s' => rw [hm] at q; exact fun v K2 H2 g hd r => h d s' v K2 H2 g (S.step g hd) r (PostS.later g.kk q)
theorem run_f {e : Expr} {m : EM} {dp : DP} {K0 H0 K H : Hp} {σ : Sg} {env : VEnv} {s : DS} {Dn : Ends} {Q : VK} {k : List T.D → DS → RB} (he : EvFr X W e m) (S : Sta X.K dp K0 H0 σ env K H s) (q : PostS X.K dp K0 H0 K (Bd.withE (m (view [] 0 env) s) env fun a s1 => match a with
      | .lst ds => k ds s1
      | _ => .stuck) Dn W)
    (h : ∀ ds s' p vs K2 H2, Gr dp K H K2 H2 → Sta X.K dp K0 H0 σ env K2 H2 s' → H p = none → H2 p = some (.lst vs) → K2 p = none → Reps X.K K2 vs ds → PostS X.K dp K0 H0 K2 (k ds s') Dn W → Q (.ref p) H2) : sem X e σ H Q := by
  refine he dp σ _ K H s (relV S) S.gr.sub S.dl Q ?_
  cases hm : m (view [] 0 env) s with
  | stuck => rw [hm] at q; exact q
  | exc c fs s' => rw [hm] at q; exact fun dx gs K2 H2 g hd h1 h2 => q σ dx gs K2 H2 (S.step g hd) g.kk h1 h2
  | ok d s' =>
    rw [hm] at q
    cases d with
    | lst ds => exact fun p vs K2 H2 g hd hp h2 hk r => h ds s' p vs K2 H2 g (S.step g hd) hp h2 hk r (PostS.later g.kk q)
    | _ => exact q.elim
theorem gr_lst {dp : DP} {K0 H0 K H K2 H2 : Hp} {σ : Sg} {env : VEnv} {s : DS} (S : Sta X.K dp K0 H0 σ env K H s) {p : Addr} {vs : List V} (g : Gr dp K H K2 H2) (hp : H p = some (.lst vs)) (h0 : H0 p = none) (hk : K p = none) : H2 p = some (.lst vs) ∧ K2 p = none := by
  obtain ⟨s0, d0⟩ := S.d0
  exact ⟨g.fr p _ hp (NotDeal.fresh d0 h0), by rw [g.new p (by rw [hp]; simp)]; exact hk⟩
section
variable {i j : Nat} {x y : Str} {a b : Expr} {ma mb : EM} {px py pt pos : Pos} {kt k2 : Nat} {pt2 : Pos}
theorem st_parOV (hc : X.calm = true) (hN : X.N.Nodup) (hi : X.N[i]? = some x) (hj : X.N[j]? = some y) (hij : i ≠ j)
    (hx : X.env.scope.names.lookup x = some .local) (hy : X.env.scope.names.lookup y = some .local) (ha : EvFr X W a ma) (hb : EvX X W b mb)
    (hw : swappedStores [.Tuple [.Name x px, .Name y py] kt pt] (.Tuple [a, b] k2 pt2) X.env = pure (some [x, y])) (s1 : starEach [a, b] X.env = (false, eval a X.env) :: starEach [b] X.env := by rfl) (s2 : starEach [b] X.env = (false, eval b X.env) :: starEach [] X.env := by rfl)
    (hs : swapsWithSole [.Tuple [.Name x px, .Name y py] kt pt] (.Tuple [a, b] k2 pt2) pos.line X.env = pure false := by rfl) :
    StX X W (.Assign [.Tuple [.Name x px, .Name y py] kt pt] (.Tuple [a, b] k2 pt2) pos) (Bd.parOV i j ma mb) := fun dp K0 H0 σ env K H s S D q => by
  refine semS_of (ps_par hc hN hi hj hij hx hy (pa_cons (te := sem X a) pe_sem (pa_cons (te := sem X b) pe_sem pa_nil s2) s1) hw hs) ?_
  refine run_f ha S q fun ds s1 p vs K2 H2 g2 S2 hp h2 hk r q2 => ?_
  have h0 : H0 p = none := S.gr.back S.dl hp
  refine run_v hb S2 q2 fun d s2 v K3 H3 g3 S3 r3 q3 => ?_
  obtain ⟨e1, e2⟩ := gr_lst S2 g3 h2 h0 hk
  exact ⟨_, v, rfl, nxP q3 ((S3.setOwn e1 h0 e2 (S.notp hp) (r.mono g3.kk) i).setVal r3 j) (Ex.rfl' K3)⟩
theorem st_parVO (hc : X.calm = true) (hN : X.N.Nodup) (hi : X.N[i]? = some x) (hj : X.N[j]? = some y) (hij : i ≠ j)
    (hx : X.env.scope.names.lookup x = some .local) (hy : X.env.scope.names.lookup y = some .local) (ha : EvX X W a ma) (hb : EvFr X W b mb)
    (hw : swappedStores [.Tuple [.Name x px, .Name y py] kt pt] (.Tuple [a, b] k2 pt2) X.env = pure (some [x, y])) (s1 : starEach [a, b] X.env = (false, eval a X.env) :: starEach [b] X.env := by rfl) (s2 : starEach [b] X.env = (false, eval b X.env) :: starEach [] X.env := by rfl)
    (hs : swapsWithSole [.Tuple [.Name x px, .Name y py] kt pt] (.Tuple [a, b] k2 pt2) pos.line X.env = pure false := by rfl) :
    StX X W (.Assign [.Tuple [.Name x px, .Name y py] kt pt] (.Tuple [a, b] k2 pt2) pos) (Bd.parVO i j ma mb) := fun dp K0 H0 σ env K H s S D q => by
  refine semS_of (ps_par hc hN hi hj hij hx hy (pa_cons (te := sem X a) pe_sem (pa_cons (te := sem X b) pe_sem pa_nil s2) s1) hw hs) ?_
  refine run_v ha S q fun d s1 v K2 H2 g2 S2 r2 q2 => ?_
  refine run_f hb S2 q2 fun ds s2 p vs K3 H3 g3 S3 hp h3 hk r q3 => ?_
  have h0 : H0 p = none := S2.gr.back S2.dl hp
  have S4 := S3.setVal (r2.mono g3.kk) i
  refine ⟨v, _, rfl, nxP q3 (S4.setOwn h3 h0 hk (fun i' a' ho hi' => ?_) r j) (Ex.rfl' K3)⟩
  obtain ⟨o1, n1⟩ := own_set ⟨fun _ => by simp, fun _ _ => by simp⟩ ho
  rw [List.getElem?_set_ne (Ne.symm n1)] at hi'
  exact S2.notp hp i' a' o1 hi'
theorem st_parOO (hc : X.calm = true) (hN : X.N.Nodup) (hi : X.N[i]? = some x) (hj : X.N[j]? = some y) (hij : i ≠ j)
    (hx : X.env.scope.names.lookup x = some .local) (hy : X.env.scope.names.lookup y = some .local) (ha : EvFr X W a ma) (hb : EvFr X W b mb)
    (hw : swappedStores [.Tuple [.Name x px, .Name y py] kt pt] (.Tuple [a, b] k2 pt2) X.env = pure (some [x, y])) (s1 : starEach [a, b] X.env = (false, eval a X.env) :: starEach [b] X.env := by rfl) (s2 : starEach [b] X.env = (false, eval b X.env) :: starEach [] X.env := by rfl)
    (hs : swapsWithSole [.Tuple [.Name x px, .Name y py] kt pt] (.Tuple [a, b] k2 pt2) pos.line X.env = pure false := by rfl) :
    StX X W (.Assign [.Tuple [.Name x px, .Name y py] kt pt] (.Tuple [a, b] k2 pt2) pos) (Bd.parOO i j ma mb) := fun dp K0 H0 σ env K H s S D q => by
  refine semS_of (ps_par hc hN hi hj hij hx hy (pa_cons (te := sem X a) pe_sem (pa_cons (te := sem X b) pe_sem pa_nil s2) s1) hw hs) ?_
  refine run_f ha S q fun ds s1 p vs K2 H2 g2 S2 hp h2 hk r q2 => ?_
  have h0 : H0 p = none := S.gr.back S.dl hp
  refine run_f hb S2 q2 fun es s2 p2 ws K3 H3 g3 S3 hp2 h3 hk2 r3 q3 => ?_
  have h02 : H0 p2 = none := S2.gr.back S2.dl hp2
  obtain ⟨e1, e2⟩ := gr_lst S2 g3 h2 h0 hk
  have S4 := S3.setOwn e1 h0 e2 (S.notp hp) (r.mono g3.kk) i
  refine ⟨_, _, rfl, nxP q3 (S4.setOwn h3 h02 hk2 (fun i' a' ho hi' => ?_) r3 j) (Ex.rfl' K3)⟩
  rcases own_setO ho with rfl | ⟨n1, o1⟩
  · rcases get_set hi' with ⟨_, hx', _⟩ | ⟨ne, _⟩
    · cases hx'
      intro z
      rw [← z, h2] at hp2
      cases hp2
    · exact absurd rfl ne
  · rw [List.getElem?_set_ne (Ne.symm n1)] at hi'
    exact S2.notp hp2 i' a' o1 hi'
end
end
end T
end
section
set_option Elab.async false
set_option linter.all false
set_option maxRecDepth 100000
set_option maxHeartbeats 4000000
namespace T
open PySem PySem.Spec PyProof.Rows L2
theorem meets_en {v : Value} {o : Obj} {H : Heap → Prop} (B : Begins v o H) :
    Meets (Builtin.«enumerate.__new__» ⟨[.type "enumerate", v], []⟩) (fun _ R s => H s.heap ∧
      R (.ok (.ret (.ref (s.heap.push o).objs.size))) { s with heap := (s.heap.push o).push { cls := .type "enumerate", data := .fields #[.none, .bool false, .ref s.heap.objs.size, rawInt 0, .none, .none] } }) :=
  .of_wp fun prog w A R s h => by
    obtain ⟨hp, g, d, tk, os⟩ := s
    obtain ⟨h1, h⟩ := h
    have hsub := sub_enumerate
    have q1 : ∀ {A' : Around} {E : Value → Shared → Prop} {Q : Value → Shared → Prop}, Q (.ref hp.objs.size) ⟨(hp.push o), g, d, tk, os⟩ → wpAny (model prog w) A' (pyIter v) Q E ⟨hp, g, d, tk, os⟩ :=
      fun q => B.iter prog w _ _ ⟨hp, g, d, tk, os⟩ _ h1 q
    wp_walk
    refine wpAny_stack_any fun st => wpAny_pure ?_
    split
    · rename_i c _ _ _ _ _
      cases (c == Value.type "enumerate")
      · wp_walk using q1
        exact ⟨_, rfl, h⟩
      · wp_walk using q1
        exact ⟨_, rfl, h⟩
    · wp_walk using q1
      exact ⟨_, rfl, h⟩
section
variable {prog : Program} {w : World} {A : Around} {E : Value → Shared → Prop} {s : Shared}
theorem call_en {v : Value} {o : Obj} {H : Heap → Prop} {Q : Value → Shared → Prop} (B : Begins v o H) (h1 : H s.heap)
    (h : ∀ h', IsEnum h' (s.heap.objs.size + 1) s.heap.objs.size 0 .none → h'.get? s.heap.objs.size = some o → h'.objs.size = s.heap.objs.size + 2 →
      (∀ b o, s.heap.get? b = some o → h'.get? b = some o) → Q (.ref (s.heap.objs.size + 1)) { s with heap := h' }) :
    wpAny (model prog w) A (call (.type "enumerate") [v]) Q E s := by
  refine callType_new F.called_enumerate (by decide) (F.typeCall_enumerate_1 _) (F.newCall_enumerate_1 _) (fun obj => F.args_object_init_2 obj _) F.entry_enumerate_new (meets_en B) ⟨h1, ?_⟩
  have hz : (s.heap.push o).objs.size = s.heap.objs.size + 1 := Heap.size_push ..
  show _ ∧ _
  rw [hz]
  have he : IsEnum ((s.heap.push o).push { cls := .type "enumerate", data := .fields #[.none, .bool false, .ref s.heap.objs.size, rawInt 0, .none, .none] }) (s.heap.objs.size + 1) s.heap.objs.size 0 .none := by
    have := Heap.get?_push_size (s.heap.push o) (o := { cls := .type "enumerate", data := .fields #[.none, .bool false, .ref s.heap.objs.size, rawInt 0, .none, .none] }) rfl
    rw [hz] at this
    exact this
  exact ⟨⟨_, he, rfl⟩, h _ he (Heap.get?_push_of_some _ (Heap.get?_push_size _ B.free)) (by rw [Heap.size_push, hz]) fun b o x => Heap.get?_push_of_some _ (Heap.get?_push_of_some _ x)⟩
end
def Itet (K : Fg) (a : Addr) : It :=
  ⟨fun i H => ∃ (xs : List V) (x : V), SqT K H a xs ∧ xs[i]? = some x, fun i H v H' => ∃ T x, ∃ o : Obj, v = .ref T ∧ H T = none ∧ o.dict = none ∧ H' = upd H T (.frz o (.tup [.int (i : Nat), x])) ∧ ∀ xs, SqT K H a xs → xs[i]? = some x, fun i H => ∃ xs : List V, SqT K H a xs ∧ xs.length ≤ i⟩
theorem turn_enT {P : Program} {w : World} {K : Fg} {elts : List Expr} {kk : Nat} {tpos : Pos} (a e it : Addr) (hna : a ≠ it) :
    Turn P w K (.Tuple elts kk tpos) (Itet K a) [e, it] e (fun i h => (∃ old, IsEnum h e it ((i : Nat) : Int) old) ∧ h.IsTupleIter it a i ∧ e ≠ it ∧ e ≠ a) where
  mem := by simp
  obj := fun i h st b hb => by
    obtain ⟨⟨old, he⟩, ⟨o, ho, hc, hd⟩, _⟩ := st
    have e' : b = e ∨ b = it := by simpa using hb
    rcases e' with z | z
    · rw [z]; exact ⟨_, he, fun v q => nomatch q⟩
    · rw [z]; exact ⟨o, ho, fun v q => by rw [hd] at q; cases q⟩
  keep := fun i h h' st k => let ⟨⟨old, he⟩, hi, hne⟩ := st; ⟨⟨old, k e (by simp) _ he⟩, hi.at fun o q => k it (by simp) o q, hne⟩
  item := by
    intro X hP hw hK hc i pins s σ H E I hf st hg
    subst hP hw hK
    obtain ⟨⟨old, he⟩, hit, hne, hnea⟩ := st
    obtain ⟨xs, x, hq, hx⟩ := hg
    obtain ⟨its, rv, p, hz⟩ := I.tuple hq
    obtain ⟨u, hu, ru⟩ := rv.get hx
    have hel : e < s.heap.objs.size := Heap.lt_size he
    have hil : it < s.heap.objs.size := by obtain ⟨_, q, _⟩ := hit; exact Heap.lt_size q
    have hi : i < its.toArray.size := by
      rcases List.getElem?_eq_some_iff.mp hu with ⟨hl, _⟩
      simpa using hl
    refine wpAny_pyNext_enum_itemD (Draws.tuple (show X.A.in1.handled = none from I.ok.hd hc) it a hna its.toArray) he ⟨hit, p⟩ hi hne (by simp [hne, hnea]) fun v h' tk hv ho hit' hT hsz hk => ?_
    have hvu : v = u := by
      rw [List.getElem?_toArray, hu] at hv
      exact (Option.some.inj hv).symm
    subst hvu
    refine ⟨_, rfl, wpAny_letOwnedTupleGo_enum (s := { s with heap := h', toks := tk + 1 }) ho fun h'' he' sb => ?_⟩
    have hT2 : h''.get? s.heap.objs.size = some { cls := .type "tuple", data := .seq #[.int i tk, v] } := (sb.2 _ (Nat.ne_of_gt hel)).trans hT
    have new : ObjOk X.prog X.w (upd H s.heap.objs.size (.frz { cls := .type "tuple", data := .seq #[.int i tk, v] } (.tup [.int (i : Nat), x]))) h'' s.heap.objs.size (.frz { cls := .type "tuple", data := .seq #[.int i tk, v] } (.tup [.int (i : Nat), x])) :=
      ⟨hT2, by show 2 ≤ sizeLine; decide, [.int i tk, v], .cons ⟨_, rfl⟩ (.cons ru .nil), ⟨_, hT2, rfl, _, rfl⟩⟩
    have I1 : Inv X pins σ (upd H s.heap.objs.size (.frz { cls := .type "tuple", data := .seq #[.int i tk, v] } (.tup [.int (i : Nat), x]))) { s with heap := h'', toks := tk + 1 } :=
      I.turnedNew (ch := [e, it]) (fun b ob hb q => (sb.2 b (fun z => hb (by simp [z]))).trans (hk b ob (fun z => hb (by simp [z])) (fun z => hb (by simp [z])) q)) hf (Nat.le_refl _) new
    refine ⟨.ref s.heap.objs.size, _, I1, rfl, ⟨_, x, _, rfl, I.hok.fresh (Nat.le_refl _), rfl, rfl, fun ys hy => by rw [I.tuple_inj hy hq]; exact hx⟩, ⟨⟨v, ?_⟩, hit'.1.at fun o q => (sb.2 it (Ne.symm hne)).trans q, hne, hnea⟩, fun b hb => ?_⟩
    · have e1 : ((i + 1 : Nat) : Int) = (i : Int) + 1 := by omega
      rw [e1]; exact he'
    · have hb' : b < s.heap.objs.size := by
        have e' : b = e ∨ b = it := by simpa using hb
        rcases e' with z | z
        · rw [z]; exact hel
        · rw [z]; exact hil
      rw [upd_ne (Nat.ne_of_lt hb')]
      exact (hf b hb).1
  done := by
    intro X hP hw hK hc i pins s σ H E I hf st hg
    subst hP hw hK
    obtain ⟨⟨old, he⟩, hit, hne, hnea⟩ := st
    obtain ⟨xs, hq, hx⟩ := hg
    obtain ⟨its, rv, p, hz⟩ := I.tuple hq
    obtain ⟨f0, f1, f2, f3, f4, f5⟩ := hf it (by simp)
    have hl := rv.length
    have hle : its.length ≤ i := by omega
    have T0 := wpAny_nextOf_tuple_end (prog := X.prog) (w := X.w) (A := X.A.in1) (E := fun e s' => ∃ h', Heap.ExtBut it s.heap h' ∧ (∃ o, h'.get? (match e with | .ref a => a | _ => 0) = some o ∧ o.cls = .type "StopIteration") ∧ (∃ a, e = .ref a) ∧ s' = { s with heap := h' }) (Q := fun _ _ => False) (show X.A.in1.handled = none from I.ok.hd hc) hit (show s.heap.IsTuple a its.toArray from p) (by simp; omega) (fun h' x he' hx' => ⟨h', he', hx', ⟨x, rfl⟩, rfl⟩)
    have hT : s.TypeIs (.ref e) "enumerate" := ⟨_, he, rfl⟩
    unfold pyNext
    refine wpAny_bind (wpAny_attempt (wpAny_callSpecial?_slot (name := Str.ofString "__next__") hT F.slot_enumerate_next
      (wpAny_call_entry F.slot_enumerate_next hT F.entry_enumerate_next ?_ (F.args_enumerate_next_1 _))))
    show wpAny _ _ (field (.ref e) 2 >>= _) _ _ _
    refine wpAny_bind (wpAny_field he rfl (x := .ref it) rfl ?_)
    refine wpAny_bind (wpAny_mono T0 (fun _ _ z => False.elim z) fun er s' z => ?_)
    obtain ⟨h', he', hx', ⟨xa, rfl⟩, rfl⟩ := z
    obtain ⟨o, ho, hc'⟩ := hx'
    refine wpAny_bind (wpAny_isInstance (T := "StopIteration") (b := true) ⟨o, ho, hc'⟩ isSubtype_stop ?_)
    exact wpAny_pure ⟨rfl, I.turned (t' := s.toks) (fun b o hb q => he' b o hb q) f0 f1 f3 f4 f5⟩
  self := fun A i s Q E st h => let ⟨⟨_, he⟩, _⟩ := st; wpAny_pyIter_enum he h
def Itel (K : Fg) (a : Addr) : It :=
  ⟨fun i H => ∃ (xs : List V) (x : V), SqL K H a xs ∧ xs[i]? = some x, fun i H v H' => ∃ T x, ∃ o : Obj, v = .ref T ∧ H T = none ∧ o.dict = none ∧ H' = upd H T (.frz o (.tup [.int (i : Nat), x])) ∧ ∀ xs, SqL K H a xs → xs[i]? = some x, fun i H => ∃ xs : List V, SqL K H a xs ∧ xs.length ≤ i⟩
theorem turn_enL {P : Program} {w : World} {K : Fg} {elts : List Expr} {kk : Nat} {tpos : Pos} (a e it : Addr) (hna : a ≠ it) :
    Turn P w K (.Tuple elts kk tpos) (Itel K a) [e, it] e (fun i h => (∃ old, IsEnum h e it ((i : Nat) : Int) old) ∧ h.IsListIter it a i ∧ e ≠ it ∧ e ≠ a) where
  mem := by simp
  obj := fun i h st b hb => by
    obtain ⟨⟨old, he⟩, ⟨o, ho, hc, hd⟩, _⟩ := st
    have e' : b = e ∨ b = it := by simpa using hb
    rcases e' with z | z
    · rw [z]; exact ⟨_, he, fun v q => nomatch q⟩
    · rw [z]; exact ⟨o, ho, fun v q => by rw [hd] at q; cases q⟩
  keep := fun i h h' st k => let ⟨⟨old, he⟩, hi, hne⟩ := st; ⟨⟨old, k e (by simp) _ he⟩, hi.at fun o q => k it (by simp) o q, hne⟩
  item := by
    intro X hP hw hK hc i pins s σ H E I hf st hg
    subst hP hw hK
    obtain ⟨⟨old, he⟩, hit, hne, hnea⟩ := st
    obtain ⟨xs, x, hq, hx⟩ := hg
    obtain ⟨its, rv, p, hz⟩ := I.list hq
    obtain ⟨u, hu, ru⟩ := rv.get hx
    have hel : e < s.heap.objs.size := Heap.lt_size he
    have hil : it < s.heap.objs.size := by obtain ⟨_, q, _⟩ := hit; exact Heap.lt_size q
    have hi : i < its.toArray.size := by
      rcases List.getElem?_eq_some_iff.mp hu with ⟨hl, _⟩
      simpa using hl
    refine wpAny_pyNext_enum_itemD (Draws.list (show X.A.in1.handled = none from I.ok.hd hc) it a hna its.toArray) he ⟨hit, p.isList⟩ hi hne (by simp [hne, hnea]) fun v h' tk hv ho hit' hT hsz hk => ?_
    have hvu : v = u := by
      rw [List.getElem?_toArray, hu] at hv
      exact (Option.some.inj hv).symm
    subst hvu
    refine ⟨_, rfl, wpAny_letOwnedTupleGo_enum (s := { s with heap := h', toks := tk + 1 }) ho fun h'' he' sb => ?_⟩
    have hT2 : h''.get? s.heap.objs.size = some { cls := .type "tuple", data := .seq #[.int i tk, v] } := (sb.2 _ (Nat.ne_of_gt hel)).trans hT
    have new : ObjOk X.prog X.w (upd H s.heap.objs.size (.frz { cls := .type "tuple", data := .seq #[.int i tk, v] } (.tup [.int (i : Nat), x]))) h'' s.heap.objs.size (.frz { cls := .type "tuple", data := .seq #[.int i tk, v] } (.tup [.int (i : Nat), x])) :=
      ⟨hT2, by show 2 ≤ sizeLine; decide, [.int i tk, v], .cons ⟨_, rfl⟩ (.cons ru .nil), ⟨_, hT2, rfl, _, rfl⟩⟩
    have I1 : Inv X pins σ (upd H s.heap.objs.size (.frz { cls := .type "tuple", data := .seq #[.int i tk, v] } (.tup [.int (i : Nat), x]))) { s with heap := h'', toks := tk + 1 } :=
      I.turnedNew (ch := [e, it]) (fun b ob hb q => (sb.2 b (fun z => hb (by simp [z]))).trans (hk b ob (fun z => hb (by simp [z])) (fun z => hb (by simp [z])) q)) hf (Nat.le_refl _) new
    refine ⟨.ref s.heap.objs.size, _, I1, rfl, ⟨_, x, _, rfl, I.hok.fresh (Nat.le_refl _), rfl, rfl, fun ys hy => by rw [I.list_inj hy hq]; exact hx⟩, ⟨⟨v, ?_⟩, hit'.1.at fun o q => (sb.2 it (Ne.symm hne)).trans q, hne, hnea⟩, fun b hb => ?_⟩
    · have e1 : ((i + 1 : Nat) : Int) = (i : Int) + 1 := by omega
      rw [e1]; exact he'
    · have hb' : b < s.heap.objs.size := by
        have e' : b = e ∨ b = it := by simpa using hb
        rcases e' with z | z
        · rw [z]; exact hel
        · rw [z]; exact hil
      rw [upd_ne (Nat.ne_of_lt hb')]
      exact (hf b hb).1
  done := by
    intro X hP hw hK hc i pins s σ H E I hf st hg
    subst hP hw hK
    obtain ⟨⟨old, he⟩, hit, hne, hnea⟩ := st
    obtain ⟨xs, hq, hx⟩ := hg
    obtain ⟨its, rv, p, hz⟩ := I.list hq
    obtain ⟨f0, f1, f2, f3, f4, f5⟩ := hf it (by simp)
    have hl := rv.length
    have hle : its.length ≤ i := by omega
    have T0 := wpAny_nextOf_list_end (prog := X.prog) (w := X.w) (A := X.A.in1) (E := fun e s' => ∃ h', Heap.ExtBut it s.heap h' ∧ (∃ o, h'.get? (match e with | .ref a => a | _ => 0) = some o ∧ o.cls = .type "StopIteration") ∧ (∃ a, e = .ref a) ∧ s' = { s with heap := h' }) (Q := fun _ _ => False) (show X.A.in1.handled = none from I.ok.hd hc) hit p.isList (by simp; omega) (fun h' x he' hx' => ⟨h', he', hx', ⟨x, rfl⟩, rfl⟩)
    have hT : s.TypeIs (.ref e) "enumerate" := ⟨_, he, rfl⟩
    unfold pyNext
    refine wpAny_bind (wpAny_attempt (wpAny_callSpecial?_slot (name := Str.ofString "__next__") hT F.slot_enumerate_next
      (wpAny_call_entry F.slot_enumerate_next hT F.entry_enumerate_next ?_ (F.args_enumerate_next_1 _))))
    show wpAny _ _ (field (.ref e) 2 >>= _) _ _ _
    refine wpAny_bind (wpAny_field he rfl (x := .ref it) rfl ?_)
    refine wpAny_bind (wpAny_mono T0 (fun _ _ z => False.elim z) fun er s' z => ?_)
    obtain ⟨h', he', hx', ⟨xa, rfl⟩, rfl⟩ := z
    obtain ⟨o, ho, hc'⟩ := hx'
    refine wpAny_bind (wpAny_isInstance (T := "StopIteration") (b := true) ⟨o, ho, hc'⟩ isSubtype_stop ?_)
    exact wpAny_pure ⟨rfl, I.turned (t' := s.toks) (fun b o hb q => he' b o hb q) f0 f1 f3 f4 f5⟩
  self := fun A i s Q E st h => let ⟨⟨_, he⟩, _⟩ := st; wpAny_pyIter_enum he h
def iEnT (K : Fg) (ta : TA) : TI := fun σ H R => ta σ H fun vs H1 => ∃ a, vs = [.ref a] ∧ ((∃ xs, SqT K H1 a xs ∧ R (Itet K a) H1) ∨ ∃ xs, SqL K H1 a xs ∧ R (Itel K a) H1)
theorem pi_en {X : Cx} {e : Expr} {ta : TA} {p pos tpos : Pos} {elts : List Expr} {kk : Nat} (hg : Gl X "enumerate") (hm : X.mg "enumerate" = none) (ha : PA X [e] ta) (hs : starEach [e] X.env = [(false, eval e X.env)] := by rfl) :
    PI X (.Tuple elts kk tpos) (.Call (.Name "enumerate" p) [e] [] pos) (iEnT X.K ta) := by
  refine ⟨fun pins s σ H R I h => ?_⟩
  refine Call_ (ld_blt I hg hm boot_enumerate (PyProof.Rows.callWith_type1 (thn (ha.run pos pins s σ H _ I h) fun us s1 ⟨vs, H1, I1, r1, q1⟩ => ?_) hs rfl))
  obtain ⟨a, ex, q⟩ := q1
  subst ex
  cases r1 with
  | cons r rr =>
    cases rr
    cases r
    have hle : ∀ b, b = s1.heap.objs.size + 1 ∨ b = s1.heap.objs.size → s1.heap.objs.size ≤ b := fun b e' => by
      rcases e' with z | z
      · rw [z]; exact Nat.le_add_right _ _
      · rw [z]; exact Nat.le_refl _
    rcases q with ⟨xs, hq, q⟩ | ⟨xs, hq, q⟩
    · obtain ⟨its, rv, p', hz⟩ := I1.tuple hq
      have hal : a < s1.heap.objs.size := by obtain ⟨o, e, _⟩ := p'; exact Heap.lt_size e
      refine call_en (begins_tuple a its.toArray) p' fun h' he hit hsz hk => wpAny_pyIter_enum he ?_
      have I2 : Inv X pins σ H1 { s1 with heap := h' } := I1.kept (t' := s1.toks) hk
      refine ⟨s1.heap.objs.size + 1, [s1.heap.objs.size + 1, s1.heap.objs.size], _, _, H1, rfl, I2, turn_enT a (s1.heap.objs.size + 1) s1.heap.objs.size (Nat.ne_of_lt hal), ⟨⟨.none, he⟩, ⟨_, hit, rfl, rfl⟩, Nat.succ_ne_self _, Nat.ne_of_gt (Nat.lt_trans hal (Nat.lt_succ_self _))⟩, fun b hb => ?_, q⟩
      have hb' := hle b (by simpa using hb)
      exact I1.fpOk hb' (I1.hok.fresh hb')
    · obtain ⟨its, rv, p', hz⟩ := I1.list hq
      have hal : a < s1.heap.objs.size := by obtain ⟨o, _, e, _⟩ := p'; exact Heap.lt_size e
      refine call_en (begins_list a its.toArray) p'.isList fun h' he hit hsz hk => wpAny_pyIter_enum he ?_
      have I2 : Inv X pins σ H1 { s1 with heap := h' } := I1.kept (t' := s1.toks) hk
      refine ⟨s1.heap.objs.size + 1, [s1.heap.objs.size + 1, s1.heap.objs.size], _, _, H1, rfl, I2, turn_enL a (s1.heap.objs.size + 1) s1.heap.objs.size (Nat.ne_of_lt hal), ⟨⟨.none, he⟩, ⟨_, hit, rfl, rfl⟩, Nat.succ_ne_self _, Nat.ne_of_gt (Nat.lt_trans hal (Nat.lt_succ_self _))⟩, fun b hb => ?_, q⟩
      have hb' := hle b (by simpa using hb)
      exact I1.fpOk hb' (I1.hok.fresh hb')
def enumD (ds : List D) : List D := ds.mapIdx fun i d => .tup [.int (i : Nat), d]
theorem enumD_len {ds : List D} : (enumD ds).length = ds.length := by unfold enumD; simp
theorem enumD_get {ds : List D} {i : Nat} {d : D} (h : ds[i]? = some d) : (enumD ds)[i]? = some (.tup [.int (i : Nat), d]) := by unfold enumD; simp [h]
theorem yields_en {F : Fg} {K K1 H H' : Hp} {i : Nat} {x : V} {vs : List V} {ds : List D} (r : Reps F K vs ds) (e1 : Ex K K1) (e2 : Ex K1 H) (y : ∃ T v, ∃ o : Obj, x = .ref T ∧ H T = none ∧ o.dict = none ∧ H' = upd H T (.frz o (.tup [.int (i : Nat), v])) ∧ vs[i]? = some v) :
    ∃ K2 d, Gr dp0 K1 H K2 H' ∧ (enumD ds)[i]? = some d ∧ Rep F K2 x d := by
  obtain ⟨T, v, o, rfl, hT, hdo, rfl, hv⟩ := y
  obtain ⟨d, h1, h2⟩ := r.getV hv
  have g : Gr dp0 K1 H (upd K1 T (.frz o (.tup [.int (i : Nat), v]))) (upd H T (.frz o (.tup [.int (i : Nat), v]))) := Gr.add e2 hT
  exact ⟨_, _, g, enumD_get h1, .tup (.inl ⟨o, upd_same, hdo⟩) (.cons (.int _) (.cons ((h2.mono e1).mono g.kk) .nil))⟩
theorem yields_enL {F : Fg} {K : Hp} {a : Addr} {vs : List V} {ds : List D} (h : SqL F K a vs) (r : Reps F K vs ds) : Yields F (Itel F a) K (enumD ds) where
  stop := fun H e => ⟨vs, sqL_mono e h, by rw [enumD_len]; exact Nat.le_of_eq r.len⟩
  go := fun i H hi e => by
    rw [enumD_len] at hi
    have hi' : i < vs.length := by rw [r.len]; exact hi
    exact ⟨vs, vs[i], sqL_mono e h, by simp [hi']⟩
  yld := fun i H x H' K1 hi e1 e2 y => by
    obtain ⟨T, v, o, h1, h2, hdo, h3, h4⟩ := y
    exact yields_en r e1 e2 ⟨T, v, o, h1, h2, hdo, h3, h4 vs (sqL_mono (Ex.tr e1 e2) h)⟩
theorem yields_enT {F : Fg} {K : Hp} {a : Addr} {vs : List V} {ds : List D} (h : SqT F K a vs) (r : Reps F K vs ds) : Yields F (Itet F a) K (enumD ds) where
  stop := fun H e => ⟨vs, sqT_mono e h, by rw [enumD_len]; exact Nat.le_of_eq r.len⟩
  go := fun i H hi e => by
    rw [enumD_len] at hi
    have hi' : i < vs.length := by rw [r.len]; exact hi
    exact ⟨vs, vs[i], sqT_mono e h, by simp [hi']⟩
  yld := fun i H x H' K1 hi e1 e2 y => by
    obtain ⟨T, v, o, h1, h2, hdo, h3, h4⟩ := y
    exact yields_en r e1 e2 ⟨T, v, o, h1, h2, hdo, h3, h4 vs (sqT_mono (Ex.tr e1 e2) h)⟩
namespace E
def en (a : EM) : EL := fun env => a env >>= fun x => items x >>= fun ds => pure (enumD ds)
end E
theorem i_en {X : Cx} {W : WX} {e : Expr} {p pos tpos : Pos} {elts : List Expr} {kk : Nat} {ma : EM} (hg : Gl X "enumerate") (hm : X.mg "enumerate" = none) (ha : EvX X W e ma) (hs : starEach [e] X.env = [(false, eval e X.env)] := by rfl) :
    EvI X W (.Tuple elts kk tpos) (.Call (.Name "enumerate" p) [e] [] pos) (E.en ma) := fun dp σ env K H s hE he hd R q pins sh I => by
  refine (pi_en (ta := tCons (sem X e) tNil) hg hm (pa_cons pe_sem pa_nil hs) hs).run pins sh σ H R I ?_
  refine ha dp σ env K H s hE he hd _ ?_
  have q' : PostJ X.K dp K H (M.bind (ma env) (fun x => items x >>= fun ds => pure (enumD ds)) s) R (fun c d H => W c d σ H) := q
  unfold M.bind at q'
  cases hma : ma env s with
  | stuck => rw [hma] at q'; exact q'.elim
  | exc c fs s' => rw [hma] at q'; exact q'
  | ok d s' =>
    rw [hma] at q'
    intro v K2 H2 g hd2 r
    cases r with
    | @lst a vs ds h rs => exact ⟨a, rfl, .inr ⟨vs, .inl (.inl (g.sub _ _ h)), q' _ K2 H2 g hd2 (yields_enL (.inl (.inl h)) rs)⟩⟩
    | @lsk a vs ds h rs => exact ⟨a, rfl, .inr ⟨vs, sqL_mono g.sub h, q' _ K2 H2 g hd2 (yields_enL h rs)⟩⟩
    | @tup a vs ds h rs => exact ⟨a, rfl, .inl ⟨vs, sqT_mono g.sub h.sqT, q' _ K2 H2 g hd2 (yields_enT h.sqT rs)⟩⟩
    | _ => exact q'.elim
end T
end
section
set_option Elab.async false
set_option linter.all false
set_option maxRecDepth 100000
set_option maxHeartbeats 4000000
namespace T
open PySem PySem.Spec PyProof.Rows L2
section
open PySem.W
variable {prog : Program} {w : World} {A : Around} {E : Value → Shared → Prop} {s : Shared} {K : Frag} {x C L f : Addr} {h₀ : Heap} {m : Str → Option Value} {ox : Obj} {od : Option Obj} {Tn : String}
theorem bin1_K {nm : String} {b : Value} {Q : Value → Shared → Prop} (F : Fr h₀ L s.heap m) (X₀ : K.In h₀) (I : InstAt s.heap x ox C od) (hb : Looks (model prog w) s.heap (typeOf b) (.ref C)) (hc : selfFirst K C = true)
    (hs : findIn K (.ref C) (PySem.dunder nm) = some (some (.ref f))) (hf : isFn K (.ref f) = true)
    (h : wpAny (model prog w) A (call (.ref f) [.ref x, b]) (PySem.W.CmpBack Q) E s) : wpAny (model prog w) A (binaryOp1 nm (.ref x) b) (fun r s' => ∃ v, r = some v ∧ Q v s') E s := by
  have X := X₀.keeps F.keep
  obtain ⟨cd, rest, hcd, hm⟩ := ksp_first hc
  unfold binaryOp1
  refine wpAny_bind (I.type.here (wpAny_bind (hb.here (wpAny_bind ((fills_K X hcd hm hs).here ?_)))))
  simp only [beq_self_eq_true, if_true]
  refine wpAny_bind (wpAny_pure ?_)
  simp only [Bool.and_false, Bool.false_eq_true, if_false, Bool.false_and]
  refine wpAny_bind (wpAny_pure ?_)
  simp only [Bool.false_eq_true, if_false]
  refine wpAny_bind (m := tryMethod (.ref x) _ b) ?_
  unfold tryMethod
  refine wpAny_bind (special_fn X I hs (beq_iff_eq.mp hf) (wpAny_mono h (fun v s' hv => ?_) fun _ _ e => e))
  cases v <;> first | exact hv.elim | exact wpAny_pure ⟨_, rfl, hv⟩ | exact wpAny_pure (wpAny_pure ⟨_, rfl, hv⟩)
theorem bin1_T {nm : String} {b : Value} {fo ro rc : Option Value} {Q : Value → Shared → Prop} (F : Fr h₀ L s.heap m) (X₀ : K.In h₀) (I : InstAt s.heap x ox C od) (hb : typeOf b = pure (.type Tn)) (hc : selfFirst K C = true)
    (hs : findIn K (.ref C) (PySem.dunder nm) = some (some (.ref f))) (hf : isFn K (.ref f) = true) (hr : findIn K (.ref C) (dunderR nm) = some rc) (hp : rc = none ∨ ∃ g : Addr, rc = some (.ref g))
    (h1 : findIn K (.type Tn) (PySem.dunder nm) = some fo) (h2 : findIn K (.type Tn) (dunderR nm) = some ro) (hsub : subIn K (.type Tn) (.ref C) = some false)
    (h : wpAny (model prog w) A (call (.ref f) [.ref x, b]) (PySem.W.CmpBack Q) E s) : wpAny (model prog w) A (binaryOp1 nm (.ref x) b) (fun r s' => ∃ v, r = some v ∧ Q v s') E s := by
  have X := X₀.keeps F.keep
  obtain ⟨cd, rest, hcd, hm⟩ := ksp_first hc
  have one := ksp_try X I hs hf h
  obtain ⟨hh, g, d, tt, os⟩ := s
  have L1 : Looks (model prog w) hh (typeOf (.ref x)) (.ref C) := I.type
  have L2 : Looks (model prog w) hh (typeOf b) (.type Tn) := Looks.of_pure hb
  have L3 : Looks (model prog w) hh (fillsNumberSlot (.ref C) nm) true := fills_K X hcd hm hs
  have L4 : Looks (model prog w) hh (fillsNumberSlot (.type Tn) nm) ((fo.isSome && !isSeqSlot fo) || (ro.isSome && !isSeqSlot ro)) := ksp_fillsT X h1 h2
  have L5 : Looks (model prog w) hh (isSubtype (.type Tn) (.ref C)) false := looks_subIn X hsub
  have L6 : Looks (model prog w) hh (numberSlotInPython (.ref C) nm) true := ksp_inPy X hs hr hp
  have L7 : Looks (model prog w) hh (numberSlotInPython (.type Tn) nm) false := Looks.of_pure rfl
  have L8 : Looks (model prog w) hh (typeLookup (.type Tn) (dunderR nm)) ro := looks_findIn X h2
  generalize ((fo.isSome && !isSeqSlot fo) || (ro.isSome && !isSeqSlot ro)) = right at L4
  have hne : (Value.ref C == Value.type Tn) = false := Bool.eq_false_iff.mpr fun q => by cases beq_iff_eq.mp q
  unfold binaryOp1
  refine wpAny_bind (L1.at (wpAny_bind (L2.at (wpAny_bind (L3.at ?_)))))
  simp only [hne, Bool.false_eq_true, if_false]
  cases right with
  | false =>
    ksp_lk
    refine wpAny_mono one (fun r s' hr' => ?_) fun _ _ e => e
    obtain ⟨v, rfl, hq⟩ := hr'
    ksp_lk
    exact ⟨_, rfl, hq⟩
  | true =>
    ksp_lk
    refine wpAny_mono one (fun r s' hr' => ?_) fun _ _ e => e
    obtain ⟨v, rfl, hq⟩ := hr'
    ksp_lk
    exact ⟨_, rfl, hq⟩
theorem fillsI_no {M : Model} {h : Heap} {nm : String} {cd : ClassData} {add : Bool} (X : K.In h) (hc : clsIn K C = some cd) (hn : cd.mro.all (fun c => decide (findIn K c (dunderI nm) = some none)) = true) : Looks M h (fillsInplaceSlot (.ref C) nm add) false := by
  intro A Q E s k q
  unfold fillsInplaceSlot
  refine wpAny_bind ((looks_clsIn X hc).andThen (f := fun cd => pure cd.mro) .now A _ E s k ?_)
  generalize cd.mro = l at hn
  induction l with
  | nil => exact wpAny_pure q
  | cons c r ih =>
    rw [List.all_cons, Bool.and_eq_true] at hn
    rw [List.anyM_cons]
    refine wpAny_bind (wpAny_bind (looks_findIn X (of_decide_eq_true hn.1) A _ E s k ?_))
    dsimp only
    refine wpAny_pure ?_
    rw [if_neg Bool.false_ne_true]
    exact ih hn.2
theorem inpl_K {op : Operator} {cd : ClassData} {b : Value} {Q : Value → Shared → Prop} (F : Fr h₀ L s.heap m) (X₀ : K.In h₀) (I : InstAt s.heap x ox C od) (hc : clsIn K C = some cd) (hn : cd.mro.all (fun c => decide (findIn K c (dunderI op.info.2) = some none)) = true)
    (h : wpAny (model prog w) A (binaryOp1 op.info.2 (.ref x) b) (fun r s' => ∃ v, r = some v ∧ Q v s') E s) : wpAny (model prog w) A (inplaceOp op (.ref x) b) Q E s := by
  have X := X₀.keeps F.keep
  unfold inplaceOp
  refine wpAny_holding ?_
  refine wpAny_bind (I.type.here ?_)
  refine wpAny_bind ((fillsI_no X hc hn).here ?_)
  simp only [Bool.false_eq_true, if_false]
  refine wpAny_bind (wpAny_mono h (fun r s' hr => ?_) fun _ _ e => e)
  obtain ⟨v, rfl, q⟩ := hr
  exact wpAny_pure q
end
end T
end
section
set_option Elab.async false
set_option linter.all false
set_option maxRecDepth 100000
set_option maxHeartbeats 4000000
namespace T
open PySem PySem.Spec PyProof.Rows L2
def opFact (K : Fg) (c : Str) (op : Operator) : Bool :=
  (match PySem.W.clsIn K (He.ga K c) with
   | some cd => cd.mro.all fun x => decide (PySem.W.findIn K x (dunderI op.info.2) = some none)
   | none => false) && (decide (PySem.W.findIn K (.ref (He.ga K c)) (dunderR op.info.2) = some none) && ((PySem.W.findIn K (.type "int") (PySem.dunder op.info.2)).isSome && ((PySem.W.findIn K (.type "int") (dunderR op.info.2)).isSome && decide (PySem.W.subIn K (.type "int") (.ref (He.ga K c)) = some false))))
def dOwnInt (tb : Tab) (nm : Str) : D → D → M D := fun x y => match x, y with
  | .ins c fs, .int i => if tb.cls c = true then dMeth tb nm (.ins c fs) [.int i] else stuck
  | _, _ => stuck
section
variable {X : Cx} {W : WX} {tb : Tab} {k : Nat}
theorem bin1_own {op : Operator} {nm : Str} (TO : TabOk X.prog X.w X.K X.mg X.base k tb) (hr : Room k X.A) (tk : L2N.Takes X W) (hnm : PySem.dunder op.info.2 = nm)
    {dp : DP} {σ : Sg} {K H : Hp} {s : DS} {v w : V} {x y : D} {Q : VK} (he : Ex K H) (hd : DealOk dp K H s) (rx : Rep X.K K v x) (ry : Rep X.K K w y) (q : Post X.K dp K H (dOwn tb nm x y s) Q (fun c d H => W c d σ H))
    {pins : List (Addr × Obj)} {sh : Shared} {u u' : Value} (I : Inv X pins σ H sh) (ru : RelV v u) (ru' : RelV w u') :
    ∃ (a : Addr) (c : Str) (ox : Obj) (od : Option Obj), u = .ref a ∧ tb.cls c = true ∧ PySem.W.InstAt sh.heap a ox (He.ga X.K c) od ∧ wpAny (model X.prog X.w) X.A (binaryOp1 op.info.2 (.ref a) u') (fun r s' => ∃ z, r = some z ∧ EP X pins σ Q z s') X.xe sh := by
  cases rx with
  | @ins a dx c gs fs h rf =>
    cases ry with
    | @ins b dy c' gs' fs' h' rf' =>
      have q0 : Post X.K dp K H ((if c = c' ∧ tb.cls c = true then dMeth tb nm (.ins c fs) [.ins c' fs'] else stuck) s) Q (fun c d H => W c d σ H) := q
      by_cases hc : c = c' ∧ tb.cls c = true
      · rw [if_pos hc] at q0
        obtain ⟨rfl, hcls⟩ := hc
        obtain ⟨a2, dx2, c2, gs2, fs2, g, ev, ex, h2, hl, hg, q3⟩ := dMeth_ok (Rep.ins h rf) q0
        cases ev
        cases ex
        obtain ⟨f, fd, ps, cl, hm, F, hb, har⟩ := TO.meth c nm g hg
        cases (show u = Value.ref a from ru)
        cases (show u' = Value.ref b from ru')
        obtain ⟨ox, od, J⟩ := inst_of I (he _ _ h)
        obtain ⟨oy, od', J'⟩ := inst_of I (he _ _ h')
        obtain ⟨mm, Fr0⟩ := I.fr
        refine ⟨a, c, ox, od, rfl, hcls, J, bin1_K Fr0 I.ok.mod.kin J J'.type (TO.first c hcls) (by rw [hnm]; exact hm.at_) hm.fn ?_⟩
        have rr : Reps X.K K [V.ref a, V.ref b] [.ins c fs, .ins c fs'] := .cons (.ins h rf) (.cons (.ins h' rf') .nil)
        exact wpAny_mono (run_at (us := [.ref a, .ref b]) (vs := [.ref a, .ref b]) (dvs := []) (ds := []) F hr hb .nil (L2N.passAt tk σ) I (.cons rfl (.cons rfl .nil)) (by
          rw [List.append_nil]
          exact ⟨own_len har rr q3, dp, K, _, s, he, hd, rr, q3⟩)) (fun _ _ z => back_of z) fun _ _ z => z
      · rw [if_neg hc] at q0
        exact q0.elim
    | _ => exact q.elim
  | _ => cases ry <;> exact q.elim
theorem bin1_int {op : Operator} {nm : Str} (TO : TabOk X.prog X.w X.K X.mg X.base k tb) (hr : Room k X.A) (tk : L2N.Takes X W) (hf : ∀ c, tb.cls c = true → opFact X.K c op = true) (hnm : PySem.dunder op.info.2 = nm)
    {dp : DP} {σ : Sg} {K H : Hp} {s : DS} {v w : V} {x y : D} {Q : VK} (he : Ex K H) (hd : DealOk dp K H s) (rx : Rep X.K K v x) (ry : Rep X.K K w y) (q : Post X.K dp K H (dOwnInt tb nm x y s) Q (fun c d H => W c d σ H))
    {pins : List (Addr × Obj)} {sh : Shared} {u u' : Value} (I : Inv X pins σ H sh) (ru : RelV v u) (ru' : RelV w u') :
    ∃ (a : Addr) (c : Str) (ox : Obj) (od : Option Obj), u = .ref a ∧ tb.cls c = true ∧ PySem.W.InstAt sh.heap a ox (He.ga X.K c) od ∧ wpAny (model X.prog X.w) X.A (binaryOp1 op.info.2 (.ref a) u') (fun r s' => ∃ z, r = some z ∧ EP X pins σ Q z s') X.xe sh := by
  cases rx with
  | @ins a dx c gs fs h rf =>
    cases ry with
    | int i =>
      have q0 : Post X.K dp K H ((if tb.cls c = true then dMeth tb nm (.ins c fs) [.int i] else stuck) s) Q (fun c d H => W c d σ H) := q
      by_cases hcls : tb.cls c = true
      · rw [if_pos hcls] at q0
        obtain ⟨a2, dx2, c2, gs2, fs2, g, ev, ex, h2, hl, hg, q3⟩ := dMeth_ok (Rep.ins h rf) q0
        cases ev
        cases ex
        obtain ⟨f, fd, ps, cl, hm, F, hb, har⟩ := TO.meth c nm g hg
        cases (show u = Value.ref a from ru)
        obtain ⟨t, rfl⟩ := (show ∃ t, u' = Value.int i t from ru')
        obtain ⟨ox, od, J⟩ := inst_of I (he _ _ h)
        obtain ⟨mm, Fr0⟩ := I.fr
        have hfa := hf c hcls
        unfold opFact at hfa
        simp only [Bool.and_eq_true, decide_eq_true_eq] at hfa
        obtain ⟨_, f2, f3, f4, f5⟩ := hfa
        obtain ⟨fo, f3⟩ := Option.isSome_iff_exists.mp f3
        obtain ⟨ro, f4⟩ := Option.isSome_iff_exists.mp f4
        refine ⟨a, c, ox, od, rfl, hcls, J, bin1_T Fr0 I.ok.mod.kin J rfl (TO.first c hcls) (by rw [hnm]; exact hm.at_) hm.fn f2 (.inl rfl) f3 f4 f5 ?_⟩
        have rr : Reps X.K K [V.ref a, V.int i] [.ins c fs, .int i] := .cons (.ins h rf) (.cons (.int i) .nil)
        exact wpAny_mono (run_at (us := [.ref a, .int i t]) (vs := [.ref a, .int i]) (dvs := []) (ds := []) F hr hb .nil (L2N.passAt tk σ) I (.cons rfl (.cons ⟨t, rfl⟩ .nil)) (by
          rw [List.append_nil]
          exact ⟨own_len har rr q3, dp, K, _, s, he, hd, rr, q3⟩)) (fun _ _ z => back_of z) fun _ _ z => z
      · rw [if_neg hcls] at q0
        exact q0.elim
    | _ => exact q.elim
  | _ => cases ry <;> exact q.elim
theorem binOf1 {op : Operator} {a : Addr} {u' : Value} {Q : Value → Shared → Prop} {sh : Shared} (h : wpAny (model X.prog X.w) X.A (binaryOp1 op.info.2 (.ref a) u') (fun r s' => ∃ z, r = some z ∧ Q z s') X.xe sh) : wpAny (model X.prog X.w) X.A (binaryOp op (.ref a) u') Q X.xe sh := by
  unfold binaryOp
  refine wpAny_holding (wpAny_bind (wpAny_mono h (fun r s' hr => ?_) fun _ _ e => e))
  obtain ⟨z, rfl, q⟩ := hr
  exact wpAny_pure q
theorem o_ownInt {op : Operator} {nm : Str} (TO : TabOk X.prog X.w X.K X.mg X.base k tb) (hr : Room k X.A) (tk : L2N.Takes X W) (hf : ∀ c, tb.cls c = true → opFact X.K c op = true) (hnm : PySem.dunder op.info.2 = nm := by decide) : Op2X X W (binaryOp op) (dOwnInt tb nm) := by
  intro dp σ K H s v w x y Q he hd rx ry q pins sh u u' I ru ru'
  obtain ⟨a, c, ox, od, rfl, hc, J, h⟩ := bin1_int TO hr tk hf hnm he hd rx ry q I ru ru'
  exact binOf1 h
theorem inpl_of {op : Operator} {c : Str} {a : Addr} {ox : Obj} {od : Option Obj} {u' : Value} {Q : Value → Shared → Prop} {pins : List (Addr × Obj)} {σ : Sg} {H : Hp} {sh : Shared} (I : Inv X pins σ H sh) (hf : opFact X.K c op = true) (J : PySem.W.InstAt sh.heap a ox (He.ga X.K c) od)
    (h : wpAny (model X.prog X.w) X.A (binaryOp1 op.info.2 (.ref a) u') (fun r s' => ∃ z, r = some z ∧ Q z s') X.xe sh) : wpAny (model X.prog X.w) X.A (inplaceOp op (.ref a) u') Q X.xe sh := by
  unfold opFact at hf
  simp only [Bool.and_eq_true, decide_eq_true_eq] at hf
  obtain ⟨f1, _⟩ := hf
  obtain ⟨mm, Fr0⟩ := I.fr
  cases hcd : PySem.W.clsIn X.K (He.ga X.K c) with
  | none => rw [hcd] at f1; cases f1
  | some cd =>
    rw [hcd] at f1
    exact inpl_K Fr0 I.ok.mod.kin J hcd f1 h
theorem o_ipOwn {op : Operator} {nm : Str} (TO : TabOk X.prog X.w X.K X.mg X.base k tb) (hr : Room k X.A) (tk : L2N.Takes X W) (hf : ∀ c, tb.cls c = true → opFact X.K c op = true) (hnm : PySem.dunder op.info.2 = nm := by decide) : Op2X X W (inplaceOp op) (dOwn tb nm) := by
  intro dp σ K H s v w x y Q he hd rx ry q pins sh u u' I ru ru'
  obtain ⟨a, c, ox, od, rfl, hc, J, h⟩ := bin1_own TO hr tk hnm he hd rx ry q I ru ru'
  exact inpl_of I (hf c hc) J h
theorem o_ipInt {op : Operator} {nm : Str} (TO : TabOk X.prog X.w X.K X.mg X.base k tb) (hr : Room k X.A) (tk : L2N.Takes X W) (hf : ∀ c, tb.cls c = true → opFact X.K c op = true) (hnm : PySem.dunder op.info.2 = nm := by decide) : Op2X X W (inplaceOp op) (dOwnInt tb nm) := by
  intro dp σ K H s v w x y Q he hd rx ry q pins sh u u' I ru ru'
  obtain ⟨a, c, ox, od, rfl, hc, J, h⟩ := bin1_int TO hr tk hf hnm he hd rx ry q I ru ru'
  exact inpl_of I (hf c hc) J h
end
inductive CN where
  | b (n : String) | c (x : Str)
deriving DecidableEq
def CN.val (K : Fg) : CN → Value
  | .b n => .type n
  | .c x => .ref (He.ga K x)
def CN.v (K : Fg) : CN → V
  | .b n => .ty n
  | .c x => .ref (He.ga K x)
def ctyp : D → Option CN
  | .non => some (.b "NoneType")
  | .bl _ => some (.b "bool")
  | .int _ => some (.b "int")
  | .str _ => some (.b "str")
  | .tup _ => some (.b "tuple")
  | .lst _ => some (.b "list")
  | .ins c _ => some (.c c)
  | _ => none
structure IsOk (K : Fg) (tb : Tab) (it : CN → CN → Option Bool) : Prop where
  at_ : ∀ t c b, it t c = some b → PySem.W.kitOne K (t.val K) (c.val K) = some b
  ins : ∀ x c b, it (.c x) c = some b → Cls K (He.ga K x) ∧ PySem.W.findIn K (.ref (He.ga K x)) "__class__" = some (some (.builtin "object.__class__")) ∧ PySem.W.specialIn K (.builtin "object.__class__") "__get__" = some (some (.builtin "getset_descriptor.__get__")) ∧ PySem.W.takesIn K (.builtin "object.__class__") = some true ∧ PySem.W.mroIn K (He.ga K x) (.type "object") = some true
def isAny (it : CN → CN → Option Bool) (t : CN) : List CN → Option Bool
  | [] => some false
  | c :: r => match it t c with
    | some true => some true
    | some false => isAny it t r
    | none => none
def dIsi (it : CN → CN → Option Bool) (c : CN) (x : D) : M D := match ctyp x with
  | some t => match it t c with
    | some b => pure (.bl b)
    | none => stuck
  | none => stuck
def dIsiT (it : CN → CN → Option Bool) (cs : List CN) (x : D) : M D := match ctyp x with
  | some t => match it t (cs.headD (.b "")) with
    | some _ => match isAny it t cs with
      | some b => pure (.bl b)
      | none => stuck
    | none => stuck
  | none => stuck
section
variable {X : Cx} {W : WX} {tb : Tab} {it : CN → CN → Option Bool}
theorem kitAny_of (IO : IsOk X.K tb it) {t : CN} : ∀ {cs : List CN} {b : Bool}, isAny it t cs = some b → PySem.W.kitAny X.K (t.val X.K) (cs.map (·.val X.K)) = some b
  | [], b, h => h
  | c :: r, b, h => by
    unfold isAny at h
    show PySem.W.kitAny X.K (t.val X.K) (c.val X.K :: r.map (·.val X.K)) = some b
    unfold PySem.W.kitAny
    cases e : it t c with
    | none => rw [e] at h; cases h
    | some z =>
      rw [e] at h
      rw [IO.at_ t c z e]
      cases z with
      | true => exact h
      | false => exact kitAny_of IO h
theorem tyx_of {K H : Hp} {v : V} {d : D} {t c : CN} {b : Bool} (IO : IsOk X.K tb it) (he : Ex K H) (r : Rep X.K K v d) (h : ctyp d = some t) (hb : it t c = some b) : TyX X.K H v (t.val X.K) := by
  cases r with
  | non => cases h; exact .base .non
  | bl x => cases h; exact .base (.bl x)
  | int x => cases h; exact .base (.int x)
  | str x => cases h; exact .base (.str x)
  | @tup a vs ds h0 rs =>
    cases h
    rcases h0 with ⟨o, h0, _⟩ | ⟨o, its, n, h0, h1, _⟩
    · exact .fTuple (he _ _ h0)
    · exact .kTuple h0 h1
  | @lst a vs ds h0 rs => cases h; exact .base (.lst (he _ _ h0))
  | @ins a dx x gs fs h0 rf =>
    cases h
    obtain ⟨i1, i2, i3, i4, i5⟩ := IO.ins x c b hb
    exact .base (.ins (he _ _ h0) i1 i2 i3 i4 i5)
  | lsk h0 rs => cases h
  | ref a => cases h
  | exc _ _ => cases h
theorem clsV (K : Fg) : ∀ c : CN, ClsV (c.v K) (c.val K)
  | .b n => .ty n
  | .c x => .own _
theorem pe_cb {x : Str} {n : String} {p : Pos} (hg : Gl X x) (hm : X.mg x = none) (hv : bootBuiltins x = some (.type n)) (hn : x ≠ "__name__" := by decide) (hd : (x == ("__debug__" : Str)) = false := by decide) : PE X (.Name x p) (tC ((CN.b n).v X.K)) := pe_bltn hg hm hv rfl hn hd
theorem pe_cc {x : Str} {p : Pos} (hg : Gl X x) (hm : X.mg x = some (.ref (He.ga X.K x))) (hd : (x == ("__debug__" : Str)) = false := by decide) : PE X (.Name x p) (tC ((CN.c x).v X.K)) := pe_glob hg hm rfl hd
theorem e_isi {e ce : Expr} {p pos : Pos} {c : CN} {ma : EM} (IO : IsOk X.K tb it) (hg : Gl X "isinstance") (hm : X.mg "isinstance" = none) (ha : EvX X W e ma) (hc : PE X ce (tC (c.v X.K)))
    (s1 : starEach [e, ce] X.env = (false, eval e X.env) :: starEach [ce] X.env := by rfl) (s2 : starEach [ce] X.env = (false, eval ce X.env) :: starEach [] X.env := by rfl) (hpl : (backTo pos (starEach [ce] X.env)).any (·.1) = false := by rfl) :
    EvX X W (.Call (.Name "isinstance" p) [e, ce] [] pos) (E.op1 (dIsi it c) ma) := fun dp σ env K H s hE he hd Q q => by
  refine sem_of (pe_callB call_isi hg hm boot_isinstance (pa_cons (te := sem X e) pe_sem (pa_cons (te := tC (c.v X.K)) hc pa_nil s2) s1) (he := s1) (hpl := hpl)) ?_
  refine ha dp σ env K H s hE he hd _ (Post.bind hd q fun v d K2 H2 s2 g2 hd2 r2 q2 => ?_)
  unfold dIsi at q2
  cases ht : ctyp d with
  | none => rw [ht] at q2; exact q2.elim
  | some t =>
    rw [ht] at q2
    simp only at q2
    cases hb : it t c with
    | none => rw [hb] at q2; exact q2.elim
    | some b =>
      rw [hb] at q2
      exact ⟨v, c.v X.K, t.val X.K, c.val X.K, b, rfl, clsV X.K c, tyx_of IO g2.sub r2 ht hb, IO.at_ t c b hb, post_ok q2 g2.sub hd2 (.bl b)⟩
def PaC (X : Cx) (es : List Expr) (cs : List CN) : Prop := PA X es (fun σ H Q => Q (cs.map (·.v X.K)) H)
theorem pac_nil : PaC X [] [] := pa_nil
theorem pac_cons {e : Expr} {es : List Expr} {c : CN} {cs : List CN} (hc : PE X e (tC (c.v X.K))) (hr : PaC X es cs) (hs : starEach (e :: es) X.env = (false, eval e X.env) :: starEach es X.env := by rfl) : PaC X (e :: es) (c :: cs) :=
  ⟨fun pos pins s σ H Q I h => (pa_cons hc hr hs).run pos pins s σ H Q I h⟩
theorem paired_cs (K : Fg) : ∀ cs : List CN, Paired ClsV (cs.map (·.v K)) (cs.map (·.val K))
  | [] => .nil
  | c :: r => .cons (clsV K c) (paired_cs K r)
theorem e_isiT {e : Expr} {es : List Expr} {kk : Nat} {p tp pos : Pos} {c : CN} {cs : List CN} {ma : EM} (IO : IsOk X.K tb it) (hg : Gl X "isinstance") (hm : X.mg "isinstance" = none) (ha : EvX X W e ma) (hc : PaC X es (c :: cs))
    (s1 : starEach [e, .Tuple es kk tp] X.env = (false, eval e X.env) :: starEach [.Tuple es kk tp] X.env := by rfl) (s2 : starEach [.Tuple es kk tp] X.env = (false, eval (.Tuple es kk tp) X.env) :: starEach [] X.env := by rfl) (hpl : (backTo pos (starEach [.Tuple es kk tp] X.env)).any (·.1) = false := by rfl) (hl : (c :: cs).length ≤ 1000 := by decide) :
    EvX X W (.Call (.Name "isinstance" p) [e, .Tuple es kk tp] [] pos) (E.op1 (dIsiT it (c :: cs)) ma) := fun dp σ env K H s hE he hd Q q => by
  refine sem_of (pe_callB call_isiT hg hm boot_isinstance (pa_cons (te := sem X e) pe_sem (pa_cons (pe_tup hc) pa_nil s2) s1) (he := s1) (hpl := hpl)) ?_
  refine ha dp σ env K H s hE he hd _ (Post.bind hd q fun v d K2 H2 s2 g2 hd2 r2 q2 => ?_)
  unfold dIsiT at q2
  cases ht : ctyp d with
  | none => rw [ht] at q2; exact q2.elim
  | some t =>
    rw [ht] at q2
    simp only [List.headD_cons] at q2
    cases hb0 : it t c with
    | none => rw [hb0] at q2; exact q2.elim
    | some b0 =>
      rw [hb0] at q2
      simp only at q2
      cases hb : isAny it t (c :: cs) with
      | none => rw [hb] at q2; exact q2.elim
      | some b =>
        rw [hb] at q2
        refine ⟨by rw [List.length_map, sizeLine_eq]; omega, fun pp hp => ?_⟩
        have g3 : Gr dp K2 H2 K2 (upd H2 pp (.tup ((c :: cs).map (·.v X.K)))) := Gr.add0 g2.sub hp
        refine ⟨v, pp, _, t.val X.K, _, b, rfl, upd_same, paired_cs X.K (c :: cs), tyx_of IO g3.sub r2 ht hb0, kitAny_of IO hb, ?_⟩
        exact (show ∀ v K3 H3, Gr dp K2 H2 K3 H3 → DealOk dp K3 H3 s2 → Rep X.K K3 v (.bl b) → Q v H3 from q2) (.bl b) K2 _ g3 (g3.deal hd2 (ex_upd hp)) (.bl b)
end
end T
end
section
set_option Elab.async false
set_option linter.all false
set_option maxRecDepth 100000
set_option maxHeartbeats 4000000
namespace T
open PySem PySem.Spec PyProof.Rows L2
def maxI : List Int → Option Int
  | [] => none
  | y :: ys => some (ys.foldl (fun a y => if a < y then y else a) y)
def rMaxDf (K : Fg) : List V → List V → Hp → VK → Prop := fun xs zs H Q => ∃ (a : Addr) (ns : List Int) (z : V), xs = [.ref a] ∧ zs = [z] ∧ (SqL K H a (ns.map V.int) ∨ SqT K H a (ns.map V.int)) ∧ (ns = [] → Q z H) ∧ (∀ m, maxI ns = some m → Q (.int m) H)
theorem maxOf_I (y : Int) (ys : List Int) : PySem.W.maxOf y ys = ys.foldl (fun a y => if a < y then y else a) y := by
  unfold PySem.W.maxOf
  congr 1
  funext a b
  by_cases h : a < b
  · rw [if_pos h, if_pos (by simpa [PySem.W.DatumOrd.lt] using h)]
  · rw [if_neg h, if_neg (by simpa [PySem.W.DatumOrd.lt] using h)]
section
variable {X : Cx} {W : WX}
theorem int_at {vs : List Value} {ns : List Int} (h : Vals (ns.map V.int) vs) {i : Nat} {v : Value} (e : vs[i]? = some v) : ∃ n t, v = .int n t := by
  obtain ⟨x, hx, r⟩ : ∃ x, (ns.map V.int)[i]? = some x ∧ RelV x v := by
    have hl := h.length
    have hi : i < vs.length := by
      rcases List.getElem?_eq_some_iff.mp e with ⟨hl, _⟩
      exact hl
    obtain ⟨u, hu, ru⟩ := h.get (i := i) (x := (ns.map V.int)[i]'(by rw [hl]; exact hi)) (List.getElem?_eq_getElem _)
    rw [e] at hu
    cases hu
    exact ⟨_, List.getElem?_eq_getElem (by rw [hl]; exact hi), ru⟩
  rw [List.getElem?_map] at hx
  cases hn : ns[i]? with
  | none => rw [hn] at hx; cases hx
  | some n =>
    rw [hn] at hx
    cases hx
    obtain ⟨t, e⟩ := r
    exact ⟨n, t, e⟩
theorem cr_maxDf (hc : X.calm = true) (hu : X.A.units + 64 < cLine) : CallRK X (.builtin "max") [Str.ofString "default"] (rMaxDf X.K) := by
  intro pins s σ H xs zs us ws Q I r rz h
  obtain ⟨a, ns, z, rfl, rfl, hs, q0, qm⟩ := h
  cases r with
  | cons ru rn =>
    cases rn
    cases ru
    cases rz with
    | cons rw' rn' =>
      cases rn'
      rename_i uz
      have fin : ∀ (its : List Value), Vals (ns.map V.int) its → ∀ (y : Int) (ys : List Int) (i : Nat) (v : Value) (h' : Heap) (tk : Nat), ns = y :: ys → its.toArray[i]? = some v → PySem.W.Holds h' v (PySem.W.maxOf y ys) → (∀ b o, s.heap.get? b = some o → h'.get? b = some o) → EP X pins σ Q v { s with heap := h', toks := tk } := fun its rv y ys i v h' tk e hi hh k => by
        obtain ⟨n, t, rfl⟩ := int_at rv (by simpa using hi)
        obtain ⟨as, rd⟩ := hh
        have en : n = PySem.W.maxOf y ys := by cases rd; rfl
        refine ⟨.int n, H, I.kept (t' := tk) k, ⟨t, rfl⟩, qm n ?_⟩
        rw [e]
        show some _ = some n
        rw [en, maxOf_I]
      have hdep : X.A.units + 1 + PySem.W.Datum.depth Int < cLine := by
        have e : PySem.W.Datum.depth Int ≤ 4 := by decide
        omega
      rcases hs with hs | hs
      · obtain ⟨its, rv, pl, hz⟩ := I.list hs
        exact PySem.W.max_list_datum_default (xs := ns) (I.ok.hd hc) pl.isList (PySem.W.HoldAll.of_ints (by simpa using rv.ints)) hdep (fun e h' tk k => ⟨z, H, I.kept (t' := tk) k, rw', q0 e⟩) (fin its rv)
      · obtain ⟨its, rv, pl, hz⟩ := I.tuple hs
        exact PySem.W.max_tuple_datum_default (xs := ns) (I.ok.hd hc) pl (PySem.W.HoldAll.of_ints (by simpa using rv.ints)) hdep (fun e h' tk k => ⟨z, H, I.kept (t' := tk) k, rw', q0 e⟩) (fin its rv)
def dMaxDf (x d : D) : M D := items x >>= fun ds => match intsOf ds with
  | some ns => pure (match maxI ns with
    | some m => .int m
    | none => d)
  | none => stuck
theorem e_maxD {e d : Expr} {p kp pos : Pos} {ma md : EM} (hc : X.calm = true) (hu : X.A.units + 64 < cLine) (hg : Gl X "max") (hm : X.mg "max" = none) (ha : EvX X W e ma) (hd : EvX X W d md)
    (na : starEach [e] X.env = (false, eval e X.env) :: starEach [] X.env := by rfl) (he : backTo pos (starEach [e] X.env) = (false, eval e X.env) :: backTo pos (starEach [] X.env) := by rfl) (hpl : (backTo pos (starEach [e] X.env)).any (·.1) = false := by rfl)
    (hall : (backToKw pos (keywordEach [⟨some "default", d, kp⟩] X.env)).all (·.1.isSome) = true := by rfl) (hnone : (backToKw pos (keywordEach [⟨some "default", d, kp⟩] X.env)).any (·.1.isNone) = false := by rfl) (hks : (backToKw pos (keywordEach [⟨some "default", d, kp⟩] X.env)).filterMap (·.1) = [Str.ofString "default"] := by rfl) :
    EvX X W (.Call (.Name "max" p) [e] [⟨some "default", d, kp⟩] pos) (E.op2 dMaxDf ma md) := fun dp σ env K H s hE heK hdl Q q => by
  refine sem_of (pe_callBK (cr_maxDf hc hu) hg hm boot_max (pa_cons (te := sem X e) pe_sem pa_nil na) (pk_cons (te := sem X d) pe_sem pk_nil) (by decide) (by decide) he hpl hall hnone hks) ?_
  refine ha dp σ env K H s hE heK hdl _ (Post.bind hdl q fun v x K2 H2 s2 g2 hd2 r2 q2 => ?_)
  refine hd dp σ env K2 H2 s2 (hE.mono g2.kk) g2.sub hd2 _ (Post.bind hd2 q2 fun w y K3 H3 s3 g3 hd3 r3 q3 => ?_)
  have fin : ∀ (vs : List V) (ds : List D), Reps X.K K3 vs ds → Post X.K dp K3 H3 ((match intsOf ds with
    | some ns => pure (match maxI ns with
      | some m => .int m
      | none => y)
    | none => stuck : M D) s3) Q (fun c d H => W c d σ H) → ∃ ns : List Int, vs = ns.map V.int ∧ (ns = [] → Q w H3) ∧ ∀ m, maxI ns = some m → Q (.int m) H3 := fun vs ds rs q => by
    cases hi : intsOf ds with
    | none => rw [hi] at q; exact q.elim
    | some ns =>
      rw [hi] at q
      have e := intsOf_eq hi
      subst e
      refine ⟨ns, rs.ints_v, fun e => ?_, fun m e => ?_⟩
      · subst e
        exact post_ok q g3.sub hd3 r3
      · simp only [e] at q
        exact post_ok q g3.sub hd3 (.int m)
  cases (r2.mono g3.kk) with
  | @lst a vs ds h rs =>
    obtain ⟨ns, rfl, h1, h2⟩ := fin vs ds rs q3
    exact ⟨a, ns, w, rfl, rfl, .inl (.inl (.inl (g3.sub _ _ h))), h1, h2⟩
  | @lsk a vs ds h rs =>
    obtain ⟨ns, rfl, h1, h2⟩ := fin vs ds rs q3
    exact ⟨a, ns, w, rfl, rfl, .inl (sqL_mono g3.sub h), h1, h2⟩
  | @tup a vs ds h rs =>
    obtain ⟨ns, rfl, h1, h2⟩ := fin vs ds rs q3
    exact ⟨a, ns, w, rfl, rfl, .inr (sqT_mono g3.sub h.sqT), h1, h2⟩
  | _ => exact q3.elim
theorem rgV_D {F : Fg} {K : Hp} {a b : Int} : Reps F K (rgV a b) (rangeD a (b - a).toNat) := by
  unfold rgV rangeD
  generalize List.range (b - a).toNat = l
  induction l with
  | nil => exact .nil
  | cons n r ih => exact .cons (.int _) ih
def rgOk (a b : Int) : Prop := -(2 ^ 62) ≤ a ∧ a < 2 ^ 62 ∧ -(2 ^ 62) ≤ b ∧ b < 2 ^ 62 ∧ (b - a).toNat ≤ 2 ^ 24
instance (a b : Int) : Decidable (rgOk a b) := by unfold rgOk; exact inferInstance
def rgP (a b : D) : M (Int × Int) := match a, b with
  | .int i, .int j => if rgOk i j then pure (i, j) else stuck
  | _, _ => stuck
def rgM (ma mb : EM) (env : Env) : M (Int × Int) := ma env >>= fun a => mb env >>= fun b => rgP a b
def PRgX (X : Cx) (W : WX) (e : Expr) (ma mb : EM) : Prop := ∀ dp σ env K H s, RelE X.K σ env K → Ex K H → DealOk dp K H s → ∀ (Qr : Int → Int → Hp → Prop), PostB X.K dp K H (rgM ma mb env s) (fun p H2 => rgOk p.1 p.2 → Qr p.1 p.2 H2) (fun c d H => W c d σ H) →
    ∀ pins sh, Inv X pins σ H sh → wpAny (model X.prog X.w) X.A (eval e X.env) (fun x s' => ∃ r a b t u v H', x = .ref r ∧ IsRange s'.heap r a b 1 t u v ∧ Inv X pins σ H' s' ∧ Qr a b H') X.xe sh
theorem rg_fin {dp : DP} {K2 H2 : Hp} {s2 : DS} {m n : Int} {Qr : Int → Int → Hp → Prop} {EE : XK} (e : Ex K2 H2) (hd : DealOk dp K2 H2 s2) (q : PostB X.K dp K2 H2 (rgP (.int m) (.int n) s2) (fun p H2 => rgOk p.1 p.2 → Qr p.1 p.2 H2) EE) : Qr m n H2 := by
  have q4 : PostB X.K dp K2 H2 ((if rgOk m n then pure (m, n) else stuck : M (Int × Int)) s2) (fun p H2 => rgOk p.1 p.2 → Qr p.1 p.2 H2) EE := q
  by_cases hr : rgOk m n
  · rw [if_pos hr] at q4
    exact (show ∀ K3 H3, Gr dp K2 H2 K3 H3 → DealOk dp K3 H3 s2 → rgOk m n → Qr m n H3 from q4) K2 H2 (Gr.rfl' e) hd hr
  · rw [if_neg hr] at q4
    exact q4.elim
theorem rg_1 {a : Expr} {p pos : Pos} {ma : EM} (hg : Gl X "range") (hm : X.mg "range" = none) (ha : EvX X W a ma) (na : starEach [a] X.env = (false, eval a X.env) :: starEach [] X.env := by rfl) : PRgX X W (.Call (.Name "range" p) [a] [] pos) (E.c (.int 0)) ma :=
  fun dp σ env K H s hE he hd Qr q pins sh I => by
    refine prg_1 (ta := sem X a) hg hm pe_sem na pins sh σ H Qr I ?_
    have q' : PostB X.K dp K H ((ma env >>= fun b => rgP (.int 0) b) s) (fun p H2 => rgOk p.1 p.2 → Qr p.1 p.2 H2) (fun c d H => W c d σ H) := q
    refine ha dp σ env K H s hE he hd _ (Post.bindB hd q' fun v d K2 H2 s2 g2 hd2 r2 q2 => ?_)
    cases r2 with
    | int n => exact ⟨n, rfl, rg_fin g2.sub hd2 q2⟩
    | _ => exact q2.elim
theorem rg_2 {a b : Expr} {p pos : Pos} {ma mb : EM} (hg : Gl X "range") (hm : X.mg "range" = none) (ha : EvX X W a ma) (hb : EvX X W b mb) (na : starEach [a, b] X.env = (false, eval a X.env) :: starEach [b] X.env := by rfl) (nb : starEach [b] X.env = (false, eval b X.env) :: starEach [] X.env := by rfl) (hp : (backTo pos (starEach [b] X.env)).any (·.1) = false := by rfl) :
    PRgX X W (.Call (.Name "range" p) [a, b] [] pos) ma mb :=
  fun dp σ env K H s hE he hd Qr q pins sh I => by
    refine prg_2 (ta := sem X a) (tb := sem X b) hg hm pe_sem pe_sem na nb hp pins sh σ H Qr I ?_
    refine ha dp σ env K H s hE he hd _ (Post.bindB hd q fun v d K2 H2 s2 g2 hd2 r2 q2 => ?_)
    refine hb dp σ env K2 H2 s2 (hE.mono g2.kk) g2.sub hd2 _ (Post.bindB hd2 q2 fun w d3 K3 H3 s3 g3 hd3 r3 q3 => ?_)
    cases r2 with
    | int m =>
      cases r3 with
      | int n => exact ⟨m, n, rfl, rfl, rg_fin g3.sub hd3 q3⟩
      | _ => exact q3.elim
    | _ => cases r3 <;> exact q3.elim
namespace E
def rgL (f : List D → D) (a b : EM) : EM := fun env => rgM a b env >>= fun p => pure (f (rangeD p.1 (p.2 - p.1).toNat))
end E
theorem PRgX.pr {e : Expr} {ma mb : EM} (he : PRgX X W e ma mb) {dp : DP} {σ : Sg} {env : Env} {K H : Hp} {s : DS} (hE : RelE X.K σ env K) (heK : Ex K H) (hd : DealOk dp K H s) :
    PRg X e (fun σ' H' Qr => σ' = σ ∧ H' = H ∧ PostB X.K dp K H (rgM ma mb env s) (fun p H2 => rgOk p.1 p.2 → Qr p.1 p.2 H2) (fun c d H => W c d σ H)) := fun pins sh σ' H' Qr I h => by
  obtain ⟨rfl, rfl, h⟩ := h
  exact he dp _ env K _ s hE heK hd Qr h pins sh I
theorem e_listRg {e : Expr} {p pos : Pos} {ma mb : EM} (hc : X.calm = true) (hg : Gl X "list") (hm : X.mg "list" = none) (he : PRgX X W e ma mb) (na : starEach [e] X.env = (false, eval e X.env) :: starEach [] X.env := by rfl) : EvX X W (.Call (.Name "list" p) [e] [] pos) (E.rgL .lst ma mb) :=
  fun dp σ env K H s hE heK hd Q q => by
    refine sem_of (pe_listRg hc hg hm (he.pr hE heK hd) na) ⟨rfl, rfl, ?_⟩
    refine PostB.bind hd q fun p K2 H2 s2 g2 hd2 q2 hr => ⟨hr, fun l hl => ?_⟩
    have g3 : Gr dp K2 H2 (upd K2 l (.lst (rgV p.1 p.2))) (upd H2 l (.lst (rgV p.1 p.2))) := Gr.add g2.sub hl
    exact (show ∀ v K3 H3, Gr dp K2 H2 K3 H3 → DealOk dp K3 H3 s2 → Rep X.K K3 v _ → Q v H3 from q2) _ _ _ g3 (g3.deal hd2 (ex_upd hl)) (.lst upd_same rgV_D)
theorem listRg_fr {e : Expr} {p pos : Pos} {ma mb : EM} (hc : X.calm = true) (hg : Gl X "list") (hm : X.mg "list" = none) (he : PRgX X W e ma mb) (na : starEach [e] X.env = (false, eval e X.env) :: starEach [] X.env := by rfl) : EvFr X W (.Call (.Name "list" p) [e] [] pos) (E.rgL .lst ma mb) :=
  fun dp σ env K H s hE heK hd Q q => by
    refine sem_of (pe_listRg hc hg hm (he.pr hE heK hd) na) ⟨rfl, rfl, ?_⟩
    rcases PostFr.cases q with ⟨pr, s', e1, q2⟩ | ⟨c, fs, s', e1, q2⟩
    · rw [e1]
      intro K2 H2 g2 hd2 hr
      refine ⟨hr, fun l hl => ?_⟩
      have g3 : Gr dp K2 H2 K2 (upd H2 l (.lst (rgV pr.1 pr.2))) := Gr.add0 g2.sub hl
      exact (show ∀ p vs K3 H3, Gr dp K H K3 H3 → DealOk dp K3 H3 s' → H p = none → H3 p = some (.lst vs) → K3 p = none → Reps X.K K3 vs _ → Q (.ref p) H3 from q2) l _ K2 _ (Gr.trans hd g2 hd2 g3) (g3.deal hd2 (ex_upd hl)) (g2.back hd2 hl) upd_same (ex_none g2.sub hl) rgV_D
    · rw [e1]
      exact q2
theorem e_tupRg {e : Expr} {p pos : Pos} {ma mb : EM} (hc : X.calm = true) (hg : Gl X "tuple") (hm : X.mg "tuple" = none) (he : PRgX X W e ma mb) (na : starEach [e] X.env = (false, eval e X.env) :: starEach [] X.env := by rfl) : EvX X W (.Call (.Name "tuple" p) [e] [] pos) (E.rgL .tup ma mb) :=
  fun dp σ env K H s hE heK hd Q q => by
    refine sem_of (pe_tupRgN hc hg hm (he.pr hE heK hd) na) ⟨rfl, rfl, ?_⟩
    refine PostB.bind hd q fun p K2 H2 s2 g2 hd2 q2 hr => ⟨hr, fun l o hl ho => ?_⟩
    have g3 : Gr dp K2 H2 (upd K2 l (.frz o (.tup (rgV p.1 p.2)))) (upd H2 l (.frz o (.tup (rgV p.1 p.2)))) := Gr.add g2.sub hl
    exact (show ∀ v K3 H3, Gr dp K2 H2 K3 H3 → DealOk dp K3 H3 s2 → Rep X.K K3 v _ → Q v H3 from q2) _ _ _ g3 (g3.deal hd2 (ex_upd hl)) (.tup (.inl ⟨o, upd_same, ho⟩) rgV_D)
end
end T
end
section
set_option Elab.async false
set_option linter.all false
set_option maxRecDepth 100000
set_option maxHeartbeats 4000000
namespace T
open PySem PySem.Spec PyProof.Rows L2
def dDix (x i : D) : M D := fun s => match x, i, s.at_ with
  | .ref a, .int i, some (p, q) => if a = p then (if i = 0 then .ok (.ref q) s else if i = 1 then .ok (.int s.mixed) s else .stuck) else if a = q then (match atI s.great i with
    | some n => .ok (.int n) s
    | none => .stuck) else .stuck
  | _, _, _ => .stuck
def dDne (x y : D) : M D := fun s => match x, y, s.at_ with
  | .ref a, .lst [], some (p, q) => if a = q then (if SeqAt.shaped (pyOf (.lst (s.great.map .int))) = true then .ok (.bl (!PyData.eqv (pyOf (.lst (s.great.map .int))) (.list []))) s else .stuck) else .stuck
  | _, _, _ => .stuck
def dDpop (x : D) : M D := fun s => match x, s.at_ with
  | .ref a, some (p, q) => if a = q then (match s.great[s.great.length - 1]? with
    | some n => .ok (.int n) { s with great := s.great.dropLast }
    | none => .stuck) else .stuck
  | _, _ => .stuck
def dDapp (x y : D) : M D := fun s => match x, y, s.at_ with
  | .ref a, .int n, some (p, q) => if a = q ∧ s.great.length < sizeLine then .ok .non { s with great := s.great ++ [n] } else .stuck
  | _, _, _ => .stuck
section
variable {dp : DP} {K H : Hp} {s : DS}
theorem deal_at (h : DealOk dp K H s) {p q : Addr} (e : s.at_ = some (p, q)) : DealAt H p q s ∧ K p = none ∧ K q = none := h.2 p q (by rw [← h.1]; exact e)
theorem deal_ne (h : DealAt H p q s) : p ≠ q := fun e => by
  subst e
  obtain ⟨h1, h2⟩ := h
  rw [h1] at h2
  cases hg : s.great with
  | nil => rw [hg] at h2; cases h2
  | cons n r => rw [hg] at h2; cases h2
theorem atI_map {ns : List Int} {i n : Int} (h : atI ns i = some n) : atI (ns.map V.int) i = some (.int n) := by
  unfold atI at h ⊢
  rw [List.length_map]
  cases e : ixN ns.length i with
  | none => rw [e] at h; cases h
  | some j =>
    rw [e] at h
    have h' : ns[j]? = some n := h
    show (ns.map V.int)[j]? = _
    rw [List.getElem?_map, h']
    rfl
theorem deal_great {p q : Addr} (he : Ex K H) (hd : DealOk dp K H s) (e : s.at_ = some (p, q)) (gs : List Int) : Gr dp K H K (upd H q (.lst (gs.map V.int))) ∧ DealOk dp K (upd H q (.lst (gs.map V.int))) ⟨gs, s.mixed, some (p, q)⟩ := by
  obtain ⟨h1, h2, h3⟩ := deal_at hd e
  have ne := deal_ne h1
  have e' : dp.deal = some (p, q) := by rw [← hd.1]; exact e
  refine ⟨⟨Ex.rfl' K, fun b o h => by rw [upd_ne (ne_of_none h h3)]; exact he _ _ h, fun _ _ => rfl, fun a o h nd => by rw [upd_ne (nd p q e').2]; exact h⟩, e'.symm, fun p' q' hp => ?_⟩
  rw [e'] at hp
  cases hp
  exact ⟨⟨by rw [upd_ne ne]; exact h1.1, upd_same⟩, h2, h3⟩
theorem deal_mixed {p q : Addr} (he : Ex K H) (hd : DealOk dp K H s) (e : s.at_ = some (p, q)) (m : Int) : Gr dp K H K (upd H p (.lst [.ref q, .int m])) ∧ DealOk dp K (upd H p (.lst [.ref q, .int m])) ⟨s.great, m, some (p, q)⟩ := by
  obtain ⟨h1, h2, h3⟩ := deal_at hd e
  have ne := deal_ne h1
  have e' : dp.deal = some (p, q) := by rw [← hd.1]; exact e
  refine ⟨⟨Ex.rfl' K, fun b o h => by rw [upd_ne (ne_of_none h h2)]; exact he _ _ h, fun _ _ => rfl, fun a o h nd => by rw [upd_ne (nd p q e').1]; exact h⟩, e'.symm, fun p' q' hp => ?_⟩
  rw [e'] at hp
  cases hp
  exact ⟨⟨upd_same, by rw [upd_ne (Ne.symm ne)]; exact h1.2⟩, h2, h3⟩
end
section
variable {X : Cx} {W : WX}
theorem e_dix {a b : Expr} {pos : Pos} {ma mb : EM} (ha : EvX X W a ma) (hb : EvX X W b mb) (hs : PlainIx b := by exact fun _ _ => rfl) : EvX X W (.Subscript a b pos) (E.op2 dDix ma mb) :=
  fun dp σ env K H s hE he hd Q q => by
    refine sem_of (pe_ix ix_seq (ta := sem X a) (tb := sem X b) pe_sem pe_sem hs) ?_
    refine ha dp σ env K H s hE he hd _ (Post.bind hd q fun v x K2 H2 s2 g2 hd2 r2 q2 => ?_)
    refine hb dp σ env K2 H2 s2 (hE.mono g2.kk) g2.sub hd2 _ (Post.bind hd2 q2 fun w y K3 H3 s3 g3 hd3 r3 q3 => ?_)
    unfold dDix at q3
    cases r2 with
    | ref a0 =>
      cases r3 with
      | int i =>
        cases hat : s3.at_ with
        | none => rw [hat] at q3; exact q3.elim
        | some pq =>
          obtain ⟨p, q0⟩ := pq
          rw [hat] at q3
          simp only at q3
          obtain ⟨h1, h2, h3⟩ := deal_at hd3 hat
          by_cases hp : a0 = p
          · rw [if_pos hp] at q3
            subst hp
            by_cases h0 : i = 0
            · rw [if_pos h0] at q3
              subst h0
              exact .inl ⟨a0, _, 0, .ref q0, rfl, rfl, .inl (.inl h1.1), rfl, post_ok q3 g3.sub hd3 (.ref q0)⟩
            · rw [if_neg h0] at q3
              by_cases h1' : i = 1
              · rw [if_pos h1'] at q3
                subst h1'
                exact .inl ⟨a0, _, 1, .int s3.mixed, rfl, rfl, .inl (.inl h1.1), rfl, post_ok q3 g3.sub hd3 (.int _)⟩
              · rw [if_neg h1'] at q3
                exact q3.elim
          · rw [if_neg hp] at q3
            by_cases hq : a0 = q0
            · rw [if_pos hq] at q3
              subst hq
              cases hi : atI s3.great i with
              | none => rw [hi] at q3; exact q3.elim
              | some n =>
                rw [hi] at q3
                exact .inl ⟨a0, _, i, .int n, rfl, rfl, .inl (.inl h1.2), atI_map hi, post_ok q3 g3.sub hd3 (.int n)⟩
            · rw [if_neg hq] at q3
              exact q3.elim
      | _ => exact q3.elim
    | _ => cases r3 <;> exact q3.elim
theorem o_dne (hu : X.A.units + 64 < cLine) : Op2X X W (compareOp .NotEq) dDne := by
  refine op2x_of (op_neD hu) ?_
  intro dp K H s EE v w x y Q he hd rx ry q
  unfold dDne at q
  cases rx with
  | ref a0 =>
    cases ry with
    | @lst b ws es hb rs =>
      cases es with
      | nil =>
        cases rs
        cases hat : s.at_ with
        | none => rw [hat] at q; exact q.elim
        | some pq =>
          obtain ⟨p, q0⟩ := pq
          rw [hat] at q
          simp only at q
          obtain ⟨h1, h2, h3⟩ := deal_at hd hat
          by_cases hq : a0 = q0
          · rw [if_pos hq] at q
            subst hq
            by_cases hs : SeqAt.shaped (pyOf (.lst (s.great.map .int))) = true
            · rw [if_pos hs] at q
              have plI : ∀ l : List Int, plains (l.map D.int) = true := fun l => by
                induction l with
                | nil => rfl
                | cons n r ih => simp only [List.map_cons, plains, plain, ih, Bool.and_self]
              have r0 : Rep X.K (upd K a0 (.lst (s.great.map V.int))) (.ref a0) (.lst (s.great.map .int)) := .lst upd_same Rep.ints
              have he' : Ex (upd K a0 (.lst (s.great.map V.int))) H := fun b o e => by
                by_cases hb : b = a0
                · subst hb
                  rw [upd_same] at e
                  cases e
                  exact h1.2
                · rw [upd_ne hb] at e
                  exact he _ _ e
              exact ⟨_, _, dp_of he' r0 (plI _), .lst (.inl (.inl (he _ _ hb))) .nil, hs, by decide, post_ok q he hd (.bl _)⟩
            · rw [if_neg hs] at q
              exact q.elim
          · rw [if_neg hq] at q
            exact q.elim
      | cons e r => cases rs; exact q.elim
    | _ => exact q.elim
  | _ => cases ry <;> exact q.elim
theorem e_dpop {e : Expr} {apos cpos : Pos} {me : EM} (he : EvX X W e me) (L : Lk X e "pop" apos cpos) : EvX X W (.Call (.Attribute e "pop" apos) [] [] cpos) (E.op1 dDpop me) := fun dp σ env K H s hE heK hd Q q => by
  refine sem_of (pe_bm0 PySem.F.plainAttrs_list PySem.F.slot_list_pop PySem.F.type_list_pop mt_pop (to := sem X e) pe_sem L.base L.line) ?_
  refine he dp σ env K H s hE heK hd _ (Post.bind hd q fun v x K2 H2 s2 g2 hd2 r2 q2 => ?_)
  unfold dDpop at q2
  cases r2 with
  | ref a0 =>
    cases hat : s2.at_ with
    | none => rw [hat] at q2; exact q2.elim
    | some pq =>
      obtain ⟨p, q0⟩ := pq
      rw [hat] at q2
      simp only at q2
      obtain ⟨h1, h2, h3⟩ := deal_at hd2 hat
      by_cases hq : a0 = q0
      · rw [if_pos hq] at q2
        subst hq
        cases hn : s2.great[s2.great.length - 1]? with
        | none => rw [hn] at q2; exact q2.elim
        | some n =>
          rw [hn] at q2
          obtain ⟨g3, hd3⟩ := deal_great g2.sub hd2 hat s2.great.dropLast
          refine ⟨Or.inl ⟨rfl, _, Or.inl (Or.inl h1.2)⟩, a0, _, .int n, rfl, rfl, h1.2, by rw [List.length_map, List.getElem?_map, hn]; rfl, ?_⟩
          have q3 := (show ∀ v K3 H3, Gr dp K2 H2 K3 H3 → DealOk dp K3 H3 _ → Rep X.K K3 v (.int n) → Q v H3 from q2) (.int n) K2 _ g3 hd3 (.int n)
          rw [List.map_dropLast] at q3
          exact q3
      · rw [if_neg hq] at q2
        exact q2.elim
  | _ => exact q2.elim
def dDis (x : D) : M Unit := fun s => match x, s.at_ with
  | .ref a, some (p, q) => if a = q then .ok () s else .stuck
  | _, _ => .stuck
namespace E
def dapp (me my : EM) : EM := fun env => me env >>= fun x => dDis x >>= fun _ => my env >>= fun y => dDapp x y
end E
theorem e_dapp {e y : Expr} {apos cpos : Pos} {me my : EM} (he : EvX X W e me) (hy : EvX X W y my) (L : Lk1 X e "append" apos y cpos) : EvX X W (.Call (.Attribute e "append" apos) [y] [] cpos) (E.dapp me my) := fun dp σ env K H s hE heK hd Q q => by
  refine sem_of (pe_bm PySem.F.plainAttrs_list PySem.F.slot_list_append PySem.F.type_list_append mt_append (to := sem X e) pe_sem (pa_cons (te := sem X y) pe_sem pa_nil L.star) L.base L.few L.line L.star L.plain) ?_
  refine he dp σ env K H s hE heK hd _ (Post.bind hd q fun v x K2 H2 s2 g2 hd2 r2 q2 => ?_)
  have q3 : Post X.K dp K2 H2 (M.bind (dDis x) (fun _ => my env >>= fun y => dDapp x y) s2) Q (fun c d H => W c d σ H) := q2
  unfold M.bind dDis at q3
  cases r2 with
  | ref a0 =>
    cases hat : s2.at_ with
    | none => rw [hat] at q3; exact q3.elim
    | some pq =>
      obtain ⟨p, q0⟩ := pq
      rw [hat] at q3
      simp only at q3
      obtain ⟨h1, h2, h3⟩ := deal_at hd2 hat
      by_cases hq : a0 = q0
      · rw [if_pos hq] at q3
        subst hq
        refine ⟨Or.inl ⟨rfl, _, Or.inl (Or.inl h1.2)⟩, ?_⟩
        refine hy dp σ env K2 H2 s2 (hE.mono g2.kk) g2.sub hd2 _ (Post.bind hd2 q3 fun w z K3 H3 s3 g3 hd3 r3 q4 => ?_)
        unfold dDapp at q4
        cases r3 with
        | int n =>
          cases hat3 : s3.at_ with
          | none => rw [hat3] at q4; exact q4.elim
          | some pq3 =>
            obtain ⟨p3, q30⟩ := pq3
            rw [hat3] at q4
            simp only at q4
            obtain ⟨h1, h2, h3⟩ := deal_at hd3 hat3
            by_cases hq : a0 = q30 ∧ s3.great.length < sizeLine
            · rw [if_pos hq] at q4
              obtain ⟨rfl, hz⟩ := hq
              obtain ⟨g4, hd4⟩ := deal_great g3.sub hd3 hat3 (s3.great ++ [n])
              refine ⟨a0, _, .int n, rfl, rfl, h1.2, by rw [List.length_map]; exact hz, ?_⟩
              have q5 := (show ∀ v K4 H4, Gr dp K3 H3 K4 H4 → DealOk dp K4 H4 _ → Rep X.K K4 v .non → Q v H4 from q4) .non K3 _ g4 hd4 .non
              rw [List.map_append] at q5
              exact q5
            · rw [if_neg hq] at q4
              exact q4.elim
        | _ => exact q4.elim
      · rw [if_neg hq] at q3
        exact q3.elim
  | _ => exact q3.elim
end
namespace Bd
def dput (j : Nat) (m : EM) : BM := fun env s => withE (m (view [] 0 env) s) env fun d s' => match env[j]?, d, s'.at_ with
  | some (some (.val (.ref a))), .int n, some (p, _) => if a = p then .ok .nx env { s' with mixed := n } else .stuck
  | _, _, _ => .stuck
def retD (mg mm : EM) : BM := fun env s => withE (mg (view [] 0 env) s) env fun a s1 => match a with
  | .lst ds => withE (mm (view [] 0 env) s1) env fun d s2 => match intsOf ds, d with
    | some g, .int m => .ok (.rtD g m) env s2
    | _, _ => .stuck
  | _ => .stuck
end Bd
section
variable {X : Cx} {W : WX}
theorem st_dput {x : Str} {e : Expr} {p p2 pi pos : Pos} {ji : Nat} {m : EM} (j : Nat) (R : Rcv X x j) (he : EvX X W e m)
    (ha : ∀ v, assign (.Subscript (.Name x p) (.Constant (.int 1) ji pi) p2) X.env v = (do
      let ov ← holding [v] (eval (.Name x p) X.env)
      let iv ← holding [v, ov] (eval (.Constant (.int 1) ji pi) X.env)
      standAt p2
      holding [v, ov, iv] (setItem ov iv v)
      release [v, ov, iv] []) := by intro _; rfl)
    (hs : swapsWithSole [.Subscript (.Name x p) (.Constant (.int 1) ji pi) p2] e pos.line X.env = pure false := by rfl) (hw : swappedStores [.Subscript (.Name x p) (.Constant (.int 1) ji pi) p2] e X.env = pure none := by rfl)
    (h1 : (assignEach [.Subscript (.Name x p) (.Constant (.int 1) ji pi) p2] X.env).map (·.2) = [assign (.Subscript (.Name x p) (.Constant (.int 1) ji pi) p2) X.env] := by rfl) :
    StX X W (.Assign [.Subscript (.Name x p) (.Constant (.int 1) ji pi) p2] e pos) (Bd.dput j m) := fun dp K0 H0 σ env K H s S D q => by
  refine semS_of (ps_asg (te := sem X e) pe_sem (pg_sub (to := sem X (.Name x p)) (ti := tC (.int 1)) pe_sem pe_int set_list ha) hs hw h1) ?_
  refine run_v he S q fun d s' v K2 H2 g2 S2 r q2 => ?_
  cases hj : env[j]? with
  | none => rw [hj] at q2; exact q2.elim
  | some o =>
    cases o with
    | none => rw [hj] at q2; exact q2.elim
    | some z =>
      cases z with
      | own ds => rw [hj] at q2; exact q2.elim
      | slf c fs => rw [hj] at q2; exact q2.elim
      | val dd =>
        rw [hj] at q2
        obtain ⟨w, e1, e2⟩ := S2.val j dd hj
        cases e2 with
        | ref a =>
          cases r with
          | int n =>
            cases hat : s'.at_ with
            | none => simp only [hat] at q2; exact q2.elim
            | some pq =>
              obtain ⟨p0, q0⟩ := pq
              simp only [hat] at q2
              by_cases hp : a = p0
              · rw [if_pos hp] at q2
                subst hp
                obtain ⟨d1, d2, d3⟩ := deal_at S2.dl hat
                obtain ⟨g4, hd4⟩ := deal_mixed S2.gr.sub S2.dl hat n
                exact R.sem e1 ⟨a, _, 1, 1, rfl, rfl, d1.1, rfl, (show D.nx σ (upd H2 a (.lst [.ref q0, .int n])) from nxP q2 (S2.step g4 hd4) (Ex.rfl' K2))⟩
              · rw [if_neg hp] at q2
                exact q2.elim
          | _ => exact q2.elim
        | _ => exact q2.elim
theorem rev_fr {a : Expr} {k : Nat} {p1 p2 p3 pos : Pos} {ma : EM} (ha : EvX X W a ma) : EvFr X W (.Subscript a (.Slice none none (some (.UnaryOp .USub (.Constant (.int 1) k p1) p2)) p3) pos) (E.op1 dRev ma) := fun dp σ env K H s hE he hd Q q => by
  refine sem_of (pe_revL (te := sem X a) pe_sem) ?_
  have q' : PostFr X.K dp K H (M.bind (ma env) dRev s) Q (fun c d H => W c d σ H) := q
  refine ha dp σ env K H s hE he hd _ ?_
  unfold M.bind at q'
  cases hma : ma env s with
  | stuck => rw [hma] at q'; exact q'.elim
  | exc c fs s' => rw [hma] at q'; exact q'
  | ok d s' =>
    rw [hma] at q'
    intro v K2 H2 g hd2 r
    have fin : ∀ (vs : List V) (ds : List D), Reps X.K K2 vs ds → PostFr X.K dp K H (.ok (.lst ds) s') Q (fun c d H => W c d σ H) → ∀ l, H2 l = none → Q (.ref l) (upd H2 l (.lst vs)) := fun vs ds rs q l hl => by
      have g2 : Gr dp K2 H2 K2 (upd H2 l (.lst vs)) := Gr.add0 g.sub hl
      exact q l vs K2 _ (Gr.trans hd g hd2 g2) (g2.deal hd2 (ex_upd hl)) (g.back hd2 hl) upd_same (ex_none g.sub hl) rs
    cases r with
    | @lst b vs ds h0 rs => exact ⟨b, vs, rfl, .inl (.inl (g.sub _ _ h0)), fin _ _ rs.rev q'⟩
    | @lsk b vs ds h0 rs => exact ⟨b, vs, rfl, sqL_mono g.sub h0, fin _ _ rs.rev q'⟩
    | _ => exact q'.elim
theorem st_retD {a b : Expr} {p pos : Pos} {ma mb : EM} (ha : EvFr X W a ma) (hb : EvX X W b mb) (s1 : starEach [a, b] X.env = (false, eval a X.env) :: starEach [b] X.env := by rfl) (s2 : starEach [b] X.env = (false, eval b X.env) :: starEach [] X.env := by rfl) :
    StX X W (.Return (some (.List [a, b] p)) pos) (Bd.retD ma mb) := fun dp K0 H0 σ env K H s S D q => by
  refine semS_of (ps_ret (te := tLst (tCons (sem X a) (tCons (sem X b) tNil))) (pe_lst (pa_cons pe_sem (pa_cons pe_sem pa_nil s2) s1))) ?_
  refine run_f ha S q fun ds s1 p vs K2 H2 g2 S2 hp h2 hk r q2 => ?_
  have h0 : H0 p = none := S.gr.back S.dl hp
  refine run_v hb S2 q2 fun d s2 v K3 H3 g3 S3 r3 q3 => ?_
  obtain ⟨e1, e2⟩ := gr_lst S2 g3 h2 h0 hk
  cases hi : intsOf ds with
  | none => simp only [hi] at q3; exact q3.elim
  | some gg =>
    have ei := intsOf_eq hi
    subst ei
    simp only [hi] at q3
    cases r3 with
    | int m =>
      have ev := r.ints_v
      subst ev
      refine ⟨by rw [sizeLine_eq]; simp, fun l hl => ?_⟩
      have l0 : H0 l = none := S3.gr.back S3.dl hl
      have nl : p ≠ l := fun z => by rw [z, hl] at e1; cases e1
      have g4 : Gr dp K3 H3 K3 (upd H3 l (.lst [.ref p, .int m])) := Gr.add0 S3.gr.sub hl
      have S4 := S3.step g4 (g4.deal S3.dl (ex_upd hl))
      exact (show ∀ p q K2 H2, Gr dp K0 H0 K2 H2 → DealOk dp K2 H2 s2 → H0 p = none → H0 q = none → K2 p = none → K2 q = none → H2 p = some (.lst [.ref q, .int m]) → H2 q = some (.lst (gg.map V.int)) → D.rt (.ref p) H2 from q3) l p K3 _ S4.gr S4.dl l0 h0 (ex_none S3.gr.sub hl) e2 upd_same (by rw [upd_ne nl]; exact e1)
    | _ => exact q3.elim
end
end T
end
section
set_option Elab.async false
set_option linter.all false
set_option maxRecDepth 100000
set_option maxHeartbeats 4000000
namespace T
open PySem PySem.Spec PyProof.Rows L2
def isVis (sc : Scope) (x : Str) : Bool := decide (sc.names.lookup x = some .local) || decide (sc.names.lookup x = some .cell) || decide (sc.names.lookup x = some .free)
def isLoc (sc : Scope) (x : Str) : Bool := decide (sc.names.lookup x = some .local)
def isCell (sc : Scope) (x : Str) : Bool := decide (sc.names.lookup x = some .cell)
def chkV (N : List Str) (sc : Scope) (i : Nat) : Bool := match N[i]? with
  | some x => isVis sc x && (!(x == ("__debug__" : Str)) && !(x == ("__classdict__" : Str)))
  | none => false
def chk (N : List Str) (sc : Scope) (vs ls cs : List Nat) (gs : List Str) : Bool :=
  vs.all (chkV N sc) && (ls.all (fun i => match N[i]? with | some x => isLoc sc x | none => false) && (cs.all (fun i => match N[i]? with | some x => isCell sc x | none => false) && gs.all fun g => decide (sc.names.lookup g = some .globalImplicit) && !(g == ("__debug__" : Str))))
structure VarS (N : List Str) (sc : Scope) (x : Str) (i : Nat) : Prop where
  at_ : N[i]? = some x
  vis : Vis sc x
  dbg : (x == ("__debug__" : Str)) = false
  cdc : (x == ("__classdict__" : Str)) = false
theorem isVis_ok {sc : Scope} {x : Str} (h : isVis sc x = true) : Vis sc x := by
  unfold isVis at h
  rcases Bool.or_eq_true_iff.mp h with h | h
  · rcases Bool.or_eq_true_iff.mp h with h | h
    · exact .inl (of_decide_eq_true h)
    · exact .inr (.inl (of_decide_eq_true h))
  · exact .inr (.inr (of_decide_eq_true h))
section
variable {N : List Str} {sc : Scope} {vs ls cs : List Nat} {gs : List Str} {x : Str}
theorem vi (C : chk N sc vs ls cs gs = true) (i : Nat) (hx : N[i]? = some x := by rfl) (hm : vs.contains i = true := by rfl) : VarS N sc x i := by
  unfold chk at C
  have h := List.all_eq_true.mp (Bool.and_eq_true_iff.mp C).1 i (by simpa using hm)
  unfold chkV at h
  rw [hx] at h
  obtain ⟨h1, h2⟩ := Bool.and_eq_true_iff.mp h
  obtain ⟨h2, h3⟩ := Bool.and_eq_true_iff.mp h2
  exact ⟨hx, isVis_ok h1, by simpa using h2, by simpa using h3⟩
theorem lo (C : chk N sc vs ls cs gs = true) (i : Nat) (hx : N[i]? = some x := by rfl) (hm : ls.contains i = true := by rfl) : sc.names.lookup x = some .local := by
  unfold chk at C
  have h := List.all_eq_true.mp (Bool.and_eq_true_iff.mp (Bool.and_eq_true_iff.mp C).2).1 i (by simpa using hm)
  simp only [hx] at h
  exact of_decide_eq_true h
theorem ce (C : chk N sc vs ls cs gs = true) (i : Nat) (hx : N[i]? = some x := by rfl) (hm : cs.contains i = true := by rfl) : sc.names.lookup x = some .cell := by
  unfold chk at C
  have h := List.all_eq_true.mp (Bool.and_eq_true_iff.mp (Bool.and_eq_true_iff.mp (Bool.and_eq_true_iff.mp C).2).2).1 i (by simpa using hm)
  simp only [hx] at h
  exact of_decide_eq_true h
theorem gl (C : chk N sc vs ls cs gs = true) (j : Nat) (hx : gs[j]? = some x := by rfl) : sc.names.lookup x = some .globalImplicit := by
  unfold chk at C
  have h := List.all_eq_true.mp (Bool.and_eq_true_iff.mp (Bool.and_eq_true_iff.mp (Bool.and_eq_true_iff.mp C).2).2).2 x (List.mem_of_getElem? hx)
  exact of_decide_eq_true (Bool.and_eq_true_iff.mp h).1
theorem gd (C : chk N sc vs ls cs gs = true) (j : Nat) (hx : gs[j]? = some x := by rfl) : (x == ("__debug__" : Str)) = false := by
  unfold chk at C
  have h := List.all_eq_true.mp (Bool.and_eq_true_iff.mp (Bool.and_eq_true_iff.mp (Bool.and_eq_true_iff.mp C).2).2).2 x (List.mem_of_getElem? hx)
  simpa using (Bool.and_eq_true_iff.mp h).2
end
structure VarL (X : Cx) (x : Str) (i : Nat) : Prop where
  at_ : X.N[i]? = some x
  loc : Loc X.env.scope x
  fn : X.fn x = true ∨ X.env.scope.names.lookup x = some .local
section
variable {X : Cx} {W : WX} {x : Str} {i : Nat}
theorem e_vv {pos : Pos} (R : VarS X.N X.env.scope x i) : EvX X W (.Name x pos) (E.v i) := e_v i R.at_ R.vis R.dbg R.cdc
theorem VarS.rcv (R : VarS X.N X.env.scope x i) : Rcv X x i := ⟨R.at_, R.vis, R.dbg, R.cdc⟩
theorem pg_v {p : Pos} (hN : X.N.Nodup) (R : VarL X x i) : PG X (.Name x p) ((Tg.nm i).g X.K) := pg_name hN R.at_ R.loc R.fn
theorem st_setV {e : Expr} {pos pos' : Pos} {vis : List Nat} {m : EM} (he : EvX X W e m) (hN : X.N.Nodup) (R : VarL X x i) (hs : swapsWith e (some (.Name x pos')) pos.line X.env = pure false := by rfl) :
    StX X W (.Assign [.Name x pos'] e pos) (Bd.asg (.nm i) vis m) := st_asg (ps_set hN R.at_ R.loc pe_sem hs R.fn) he
theorem st_setOV {e : Expr} {pos pos' : Pos} {vis : List Nat} {m : EM} (he : EvFr X W e m) (hN : X.N.Nodup) (R : VarL X x i) (hs : swapsWith e (some (.Name x pos')) pos.line X.env = pure false := by rfl) :
    StX X W (.Assign [.Name x pos'] e pos) (Bd.asgO i vis m) := fun dp K0 H0 σ env K H s S D q => semS_of (ps_set hN R.at_ R.loc (te := sem X e) pe_sem hs R.fn) (asgO_read rfl he S q)
theorem st_asgXV {e : Expr} {pos pos' : Pos} {m : SM} (he : SxX X W e m) (hN : X.N.Nodup) (R : VarL X x i) (hs : swapsWith e (some (.Name x pos')) pos.line X.env = pure false := by rfl) :
    StX X W (.Assign [.Name x pos'] e pos) (Bd.asgX i m) := fun dp K0 H0 σ env K H s S D q => by
  refine semS_of (ps_set hN R.at_ R.loc (te := sem X e) pe_sem hs R.fn) ?_
  exact he dp K0 H0 σ env K H s S D _ _ q fun d env' s' v K2 H2 S2 e2 r q2 => nxP q2 (S2.setVal r i) (Ex.rfl' K2)
theorem st_augV {e : Expr} {op : Operator} {pos pos' : Pos} {vis : List Nat} {m : EM} {g : D → D → M D} (ho : Op2X X W0 (inplaceOp op) g) (he : EvX X W e m) (hN : X.N.Nodup) (R : VarL X x i) :
    StX X W (.AugAssign (.Name x pos') op e pos) (Bd.aug i g vis m) := fun dp K0 H0 σ env K H s S D q => by
  refine semS_of (ps_aug (te := sem X e) hN R.at_ R.loc pe_sem (pip_of ho) R.fn) ?_
  unfold Bd.aug at q
  cases hj : env[i]? with
  | none => rw [hj] at q; exact q.elim
  | some o =>
    cases o with
    | none => rw [hj] at q; exact q.elim
    | some z =>
      cases z with
      | own ds => rw [hj] at q; exact q.elim
      | slf c fs => rw [hj] at q; exact q.elim
      | val d0 =>
        rw [hj] at q
        obtain ⟨v0, h1, r0⟩ := S.val i d0 hj
        refine ⟨v0, h1, ?_⟩
        refine ev_x he S (PostE.of q fun d s' v K2 H2 S2 e2 r q2 => ?_)
        refine ⟨dp, K2, s', d0, d, S2.gr.sub, S2.dl, r0.mono e2, r, ?_⟩
        cases hg : g d0 d s' with
        | stuck => rw [hg] at q2; exact q2
        | exc c fs s'' => rw [hg] at q2; exact q2.elim
        | ok r s'' =>
          rw [hg] at q2
          exact fun v K3 H3 g3 hd3 r3 => nxP q2 ((S2.step g3 hd3).setVal r3 i) g3.kk
end
namespace Bd
def asgL (i : Nat) (vis : List Nat) (m : EM) : BM := fun env s => withE (evF vis m env s) env fun d s' => match d with
  | .lst ds => .ok .nx (env.set i (some (.val (.lst ds)))) s'
  | _ => .stuck
end Bd
section
variable {X : Cx} {W : WX}
theorem asgL_read {t : TE} {g : TG} {i : Nat} {vis : List Nat} {m : EM} (hi : i < X.N.length) (hl : ∀ {pins : List (Addr × Obj)} {σ : Sg} {H : Hp} {s : Shared}, True) (hg : g = gName i)
    (he : ∀ dp σ env K H s, RelE X.K σ env K → Ex K H → DealOk dp K H s → ∀ Q, PostFr X.K dp K H (m env s) Q (fun c d H => W c d σ H) → t σ H Q)
    {dp : DP} {K0 H0 K H : Hp} {σ : Sg} {env : VEnv} {s : DS} {D : Ends} (S : Sta X.K dp K0 H0 σ env K H s) (q : PostS X.K dp K0 H0 K (Bd.asgL i vis m env s) D W) : tAsg t g D σ H := by
  subst hg
  refine ev_f' (vis := vis) he S ?_
  unfold Bd.asgL at q
  cases hr : Bd.evF vis m env s with
  | stuck => rw [hr] at q; exact q
  | exc c fs s' => rw [hr] at q; exact fun dx gs K2 H2 S e h1 h2 => q σ dx gs K2 H2 S e h1 h2
  | ok d s' =>
    rw [hr] at q
    cases d with
    | lst ds =>
      intro p vs K2 H2 S2 e h1 h2 h3 h4 r
      by_cases hl : i < env.length
      · have S3 := S2.setOwn h1 h2 h3 h4 r i
        obtain ⟨K4, S4, e4⟩ := S3.freeze (j := i) (ds := ds) (by rw [List.getElem?_set_self hl])
        rw [List.set_set] at S4
        exact nxP q S4 (Ex.tr e e4)
      · have e0 : ∀ z, env.set i z = env := fun z => List.set_eq_of_length_le (by omega)
        have e1 : ∀ z, σ.set i z = σ := fun z => List.set_eq_of_length_le (by rw [S2.len]; omega)
        show D.nx (σ.set i _) H2
        rw [e1]
        have q' : ∀ σ K2 H2, Sta X.K dp K0 H0 σ (env.set i (some (.val (.lst ds)))) K2 H2 s' → Ex K K2 → D.nx σ H2 := q
        rw [e0] at q'
        exact q' σ K2 H2 S2 e
    | _ => exact q.elim
theorem st_lcL0 {i : Nat} {y : Str} {py : Pos} {elt tg iter : Expr} {scope : Scope} {own : List (Str × Nat)} {pos spos : Pos} {src : EL} {t : Tg} {me : EM} {vis : List Nat} (hy : X.env.scope.names.lookup y = some .local) (hiy : X.N[i]? = some y)
    (hsw : swapsWith (.ListComp elt [⟨tg, iter, [], 0⟩] scope pos) (some (.Name y py)) spos.line X.env = pure true)
    (hc : X.calm = true) (hN : X.N.Nodup) (hi : EvI X W tg iter src) (ok : BlkOk X.N X.env.scope scope own) (hsl : ∀ j ∈ t.slots, j ∈ own.map (·.2)) (hg : ∀ z, PG (Cx.bk X scope z) tg (t.g X.K)) (he : ∀ z, EvX (Cx.bk X scope z) W0 elt me)
    (hs : ∀ x, foldedSetIterable iter X.env x = pure x := by intro _; rfl) : StX X W (.Assign [.Name y py] (.ListComp elt [⟨tg, iter, [], 0⟩] scope pos) spos) (Bd.asgL i vis (E.lc (own.map (·.2)) src t E.yes me)) := fun dp K0 H0 σ env K H s S D q => by
  refine semS_of (ps_setLc (g := t.g X.K) (wi := semI X tg iter) (tt := tYes) (te := teB X scope elt) hc hN hiy hy hsw pi_sem ok (fun s H C cl fp => hg (s, H, C, cl, fp)) (fun _ _ _ _ _ => pts_nil) (fun s H C cl fp => ⟨fun pins s' σ H' Q I h => h (s, H, C, cl, fp) pins s' I⟩) hs) ?_
  refine asgL_read (X := X) (by rcases List.getElem?_eq_some_iff.mp hiy with ⟨h, _⟩; exact h) trivial rfl (fun dp σ env K H s hE heK hd Q q => ?_) S q
  exact lc_read (tst := E.yes) hi hsl (fun dp σ env K H s hE he hd Q q => (show ∀ K2 H2, Gr dp K H K2 H2 → DealOk dp K2 H2 s → Q true H2 from q) K H (Gr.rfl' he) hd) (fun dp σ env K H s hE heK hd Q q z => he z dp σ env K H s hE heK hd Q q) hE heK hd q
theorem st_lcL1 {i : Nat} {y : Str} {py : Pos} {elt tg iter c : Expr} {scope : Scope} {own : List (Str × Nat)} {pos spos : Pos} {src : EL} {t : Tg} {me : EM} {mt : ET} {vis : List Nat} (hy : X.env.scope.names.lookup y = some .local) (hiy : X.N[i]? = some y)
    (hsw : swapsWith (.ListComp elt [⟨tg, iter, [c], 0⟩] scope pos) (some (.Name y py)) spos.line X.env = pure true)
    (hc : X.calm = true) (hN : X.N.Nodup) (hi : EvI X W tg iter src) (ok : BlkOk X.N X.env.scope scope own) (hsl : ∀ j ∈ t.slots, j ∈ own.map (·.2)) (hg : ∀ z, PG (Cx.bk X scope z) tg (t.g X.K)) (ht : ∀ z, EvT (Cx.bk X scope z) W0 c mt) (he : ∀ z, EvX (Cx.bk X scope z) W0 elt me)
    (hs : ∀ x, foldedSetIterable iter X.env x = pure x := by intro _; rfl) : StX X W (.Assign [.Name y py] (.ListComp elt [⟨tg, iter, [c], 0⟩] scope pos) spos) (Bd.asgL i vis (E.lc (own.map (·.2)) src t mt me)) := fun dp K0 H0 σ env K H s S D q => by
  refine semS_of (ps_setLc (g := t.g X.K) (wi := semI X tg iter) (tt := ttB X scope c) (te := teB X scope elt) hc hN hiy hy hsw pi_sem ok (fun s H C cl fp => hg (s, H, C, cl, fp)) (fun s H C cl fp => pts_one ⟨fun pins s' σ H' Q I h => h (s, H, C, cl, fp) pins s' I⟩) (fun s H C cl fp => ⟨fun pins s' σ H' Q I h => h (s, H, C, cl, fp) pins s' I⟩) hs) ?_
  refine asgL_read (X := X) (by rcases List.getElem?_eq_some_iff.mp hiy with ⟨h, _⟩; exact h) trivial rfl (fun dp σ env K H s hE heK hd Q q => ?_) S q
  exact lc_read hi hsl (fun dp σ env K H s hE heK hd Q q z => ht z dp σ env K H s hE heK hd Q q) (fun dp σ env K H s hE heK hd Q q z => he z dp σ env K H s hE heK hd Q q) hE heK hd q
end
def blkB (N : List Str) (sc scope : Scope) (own : List (Str × Nat)) : Bool :=
  decide (scope.kind = .function) && (scope.names.all (fun y => decide (scope.names.lookup y.1 = some y.2)) && (own.all (fun p => decide (N[p.2]? = some p.1)) &&
    (scope.names.all (fun y => !decide (y.2 = .free) || (decide (sc.names.lookup y.1 = some .cell) || decide (sc.names.lookup y.1 = some .free))) && scope.names.all (fun y => !(decide (y.2 = .local) || decide (y.2 = .cell)) || ((own.map (·.1)).contains y.1 || !N.contains y.1)))))
theorem blkB_ok {N : List Str} {sc scope : Scope} {own : List (Str × Nat)} (h : blkB N sc scope own = true) : BlkOk N sc scope own := by
  unfold blkB at h
  simp only [Bool.and_eq_true, List.all_eq_true, decide_eq_true_eq, Bool.or_eq_true, Bool.not_eq_true', decide_eq_false_iff_not, List.contains_iff_mem] at h
  obtain ⟨h1, h2, h3, h4, h5⟩ := h
  refine ⟨h1, h2, h3, fun y hy e => ?_, fun y hy e => ?_⟩
  · rcases h4 y hy with h | h
    · exact absurd e h
    · exact h
  · rcases h5 y hy with h | h
    · rcases e with e | e
      · simp [e] at h
      · simp [e] at h
    · rcases h with h | h
      · exact .inl h
      · exact .inr (by simpa using h)
def fnB (N P : List Str) (sc : Scope) : Bool :=
  decide (sc.kind = .function) && (!sc.isCoroutine && (!sc.isGenerator && (decide N.Nodup && (decide (N.take P.length = P) && (P.all (fun x => decide (sc.names.lookup x = some .local) || decide (sc.names.lookup x = some .cell)) && sc.names.all fun y => !decide (y.2 = .free))))))
theorem fnB_ok {N P : List Str} {sc : Scope} (h : fnB N P sc = true) : FnScope N P sc := by
  unfold fnB at h
  simp only [Bool.and_eq_true, List.all_eq_true, decide_eq_true_eq, Bool.or_eq_true, Bool.not_eq_true', decide_eq_false_iff_not] at h
  obtain ⟨h1, h2, h3, h4, h5, h6, h7⟩ := h
  exact ⟨h1, h2, h3, h4, h5, h6, h7⟩
end T
end
section
set_option Elab.async false
set_option linter.all false
set_option maxRecDepth 100000
set_option maxHeartbeats 4000000
namespace T
open PySem PySem.Spec PyProof.Rows L2
def lenI : D → M D
  | .int n => if 0 ≤ n ∧ n < 2 ^ 63 then pure (.int n) else stuck
  | _ => stuck
def dLenO (tb : Tab) : List D → M D
  | [.ins c fs] => dMeth tb "__len__" (.ins c fs) [] >>= lenI
  | xs => dLen xs
section
variable {X : Cx} {W : WX} {tb : Tab} {k : Nat}
theorem c_lenO (TO : TabOk X.prog X.w X.K X.mg X.base k tb) (hr : Room (k + 1) X.A) (tk : L2N.Takes X W) : OpLX X W (fun us => call (.builtin "len") us) (dLenO tb) := by
  intro dp σ K H s vs xs Q he hd rs q pins sh us I r
  match xs, rs, q with
  | [.ins c fs], .cons (v := v) rx .nil, q =>
    have q0 : Post X.K dp K H (((dGet tb "__len__" (.ins c fs) >>= fun g => g [.ins c fs]) >>= lenI) s) Q (fun c d H => W c d σ H) := q
    have q1 : Post X.K dp K H ((dGet tb "__len__" (.ins c fs) >>= fun g => g [.ins c fs] >>= lenI) s) Q (fun c d H => W c d σ H) := by
      have e : ((dGet tb "__len__" (.ins c fs) >>= fun g => g [.ins c fs]) >>= lenI) s = (dGet tb "__len__" (.ins c fs) >>= fun g => g [.ins c fs] >>= lenI) s := by
        show M.bind (M.bind _ _) _ s = M.bind _ _ s
        unfold M.bind
        cases dGet tb "__len__" (.ins c fs) s <;> rfl
      rw [← e]
      exact q0
    obtain ⟨a, dx, c2, gs, fs2, g, rfl, ex, h, hl, hg, q3⟩ := dGet_ok rx q1
    cases ex
    obtain ⟨f, fd, ps, cl, hm, F, hb, har⟩ := TO.meth c _ g hg
    cases r with
    | cons ru rn =>
      cases rn
      cases ru
      obtain ⟨ox, od, J⟩ := inst_of I (he _ _ h)
      obtain ⟨mm, Fr0⟩ := I.fr
      have rr : Reps X.K K [V.ref a] [.ins c fs] := .cons rx .nil
      refine PySem.W.len_K Fr0 I.ok.mod.kin J hm.at_ hm.fn ?_
      have q4 : Post X.K dp K H (M.bind (g [.ins c fs]) lenI s) Q (fun c d H => W c d σ H) := q3
      have hlen : [V.ref a].length = ps.length := by
        by_cases z : [D.ins c fs].length = ps.length
        · exact z
        · unfold M.bind at q4
          rw [har _ s z] at q4
          exact q4.elim
      refine wpAny_mono (run_in (us := [.ref a]) (vs := [.ref a]) (A := X.A.in1) (Q := fun v H2 => ∃ n : Int, v = .int n ∧ (0 ≤ n ∧ n < 2 ^ 63) ∧ Q (.int n) H2) F hr.in1 rfl hb (L2N.passAt tk σ) I (.cons rfl .nil)
        ⟨hlen, dp, K, _, s, he, hd, rr, ?_⟩) (fun u s' z => ?_) fun _ _ z => z
      · unfold M.bind at q4
        cases hgs : g [.ins c fs] s with
        | stuck => rw [hgs] at q4; exact q4
        | exc c' fs' s' => rw [hgs] at q4; exact q4
        | ok d s' =>
          rw [hgs] at q4
          intro v K2 H2 g2 hd2 r2
          cases r2 with
          | int n =>
            have q5 : Post X.K dp K H ((if 0 ≤ n ∧ n < 2 ^ 63 then pure (.int n) else stuck : M D) s') Q (fun c d H => W c d σ H) := q4
            by_cases hn : 0 ≤ n ∧ n < 2 ^ 63
            · rw [if_pos hn] at q5
              exact ⟨n, rfl, hn, (show ∀ v K2 H2, Gr dp K H K2 H2 → DealOk dp K2 H2 s' → Rep X.K K2 v (.int n) → Q v H2 from q5) _ K2 H2 g2 hd2 (.int n)⟩
            · rw [if_neg hn] at q5
              exact q5.elim
          | _ => exact q4.elim
      · obtain ⟨v, H', I', rv, n, ev, hn, q⟩ := z
        subst ev
        obtain ⟨t, rfl⟩ := rv
        exact ⟨hn, .int n, H', I'.tok _, ⟨_, rfl⟩, q⟩
  | [], rs, q => exact c_len dp σ K H s vs [] Q he hd rs q pins sh us I r
  | .non :: t, rs, q => exact c_len dp σ K H s vs (.non :: t) Q he hd rs q pins sh us I r
  | .bl b :: t, rs, q => exact c_len dp σ K H s vs (.bl b :: t) Q he hd rs q pins sh us I r
  | .int b :: t, rs, q => exact c_len dp σ K H s vs (.int b :: t) Q he hd rs q pins sh us I r
  | .str b :: t, rs, q => exact c_len dp σ K H s vs (.str b :: t) Q he hd rs q pins sh us I r
  | .tup b :: t, rs, q => exact c_len dp σ K H s vs (.tup b :: t) Q he hd rs q pins sh us I r
  | .lst b :: t, rs, q => exact c_len dp σ K H s vs (.lst b :: t) Q he hd rs q pins sh us I r
  | .lsk b :: t, rs, q => exact c_len dp σ K H s vs (.lsk b :: t) Q he hd rs q pins sh us I r
  | .ref b :: t, rs, q => exact c_len dp σ K H s vs (.ref b :: t) Q he hd rs q pins sh us I r
  | .exc a b c d :: t, rs, q => exact c_len dp σ K H s vs (.exc a b c d :: t) Q he hd rs q pins sh us I r
  | .ins c fs :: y :: t, rs, q => exact c_len dp σ K H s vs (.ins c fs :: y :: t) Q he hd rs q pins sh us I r
end
end T
namespace T
open PySem PySem.Spec PyProof.Rows L2
namespace Bd
def never : BM := fun _ _ => .stuck
end Bd
theorem st_never {X : Cx} {W : WX} {st : Stmt} : StX X W st Bd.never := fun dp K0 H0 σ env K H s S D q => q.elim
end T
end
section
set_option Elab.async false
set_option linter.all false
set_option maxRecDepth 100000
set_option maxHeartbeats 4000000
namespace T
open PySem PySem.Spec PyProof.Rows L2
def dIxT (x k : D) : M D := match x, k with
  | .tup ds, .int k => (match intsOf ds with
    | some ns => if k ∈ ns then pure (.int (ns.idxOf k : Nat)) else stuck
    | none => stuck)
  | _, _ => stuck
def dIxL (x k : D) : M D := match x, k with
  | .lst ds, .int k => (match intsOf ds with
    | some ns => if k ∈ ns then pure (.int (ns.idxOf k : Nat)) else stuck
    | none => stuck)
  | _, _ => stuck
def isTup : D → M Unit
  | .tup _ => pure ()
  | _ => stuck
def isLst : D → M Unit
  | .lst _ => pure ()
  | _ => stuck
namespace E
def idxT (a b : EM) : EM := fun env => a env >>= fun x => isTup x >>= fun _ => b env >>= fun y => dIxT x y
def idxL (a b : EM) : EM := fun env => a env >>= fun x => isLst x >>= fun _ => b env >>= fun y => dIxL x y
end E
section
variable {X : Cx} {W : WX}
def rIdxT (K : Fg) : V → List V → Hp → VK → Prop := fun x xs H Q => ∃ (a : Addr) (ns : List Int) (k : Int), x = .ref a ∧ xs = [.int k] ∧ SqT K H a (ns.map V.int) ∧ k ∈ ns ∧ Q (.int (ns.idxOf k : Nat)) H
def rIdxL (K : Fg) : V → List V → Hp → VK → Prop := fun x xs H Q => ∃ (a : Addr) (ns : List Int) (k : Int), x = .ref a ∧ xs = [.int k] ∧ SqL K H a (ns.map V.int) ∧ k ∈ ns ∧ Q (.int (ns.idxOf k : Nat)) H
theorem mt_idxT : MtR X "tuple.index" (rIdxT X.K) := by
  intro pins s σ H x xs v us Q I rx rs h
  obtain ⟨a, ns, k, rfl, rfl, hs, hk, q⟩ := h
  cases rx
  obtain ⟨u, rfl, t, rfl⟩ := vals1 rs
  obtain ⟨its, rv, pl, hz⟩ := I.tuple hs
  exact PySem.SeqAt.tuple_index_ints (vs := its) pl rv.ints hk ⟨.int (ns.idxOf k : Nat), H, I.tok _, ⟨_, rfl⟩, q⟩
theorem mt_idxL : MtR X "list.index" (rIdxL X.K) := by
  intro pins s σ H x xs v us Q I rx rs h
  obtain ⟨a, ns, k, rfl, rfl, hs, hk, q⟩ := h
  cases rx
  obtain ⟨u, rfl, t, rfl⟩ := vals1 rs
  obtain ⟨its, rv, pl, hz⟩ := I.list hs
  exact PySem.SeqAt.list_index_ints (vs := its) pl.isList rv.ints (by simpa using hz) hk ⟨.int (ns.idxOf k : Nat), H, I.tok _, ⟨_, rfl⟩, q⟩
theorem ints_fin {dp : DP} {K2 H2 : Hp} {s2 : DS} {me : EM} {env : Env} {ds : List D} {EE : XK} {Q : VK} {f : D → M D} (hf : ∀ y, f y = match y with
    | .int k => (match intsOf ds with
      | some ns => if k ∈ ns then pure (.int (ns.idxOf k : Nat)) else stuck
      | none => stuck)
    | _ => stuck) {K3 H3 : Hp} {s3 : DS} {w : V} {y : D} {vs : List V} (hd3 : DealOk dp K3 H3 s3) (g : Ex K3 H3) (r3 : Rep X.K K3 w y) (rs : Reps X.K K3 vs ds) (q : Post X.K dp K3 H3 (f y s3) Q EE) :
    ∃ (ns : List Int) (k : Int), w = .int k ∧ vs = ns.map V.int ∧ k ∈ ns ∧ Q (.int (ns.idxOf k : Nat)) H3 := by
  rw [hf] at q
  cases r3 with
  | int k =>
    simp only at q
    cases hi : intsOf ds with
    | none => rw [hi] at q; exact q.elim
    | some ns =>
      rw [hi] at q
      have e := intsOf_eq hi
      subst e
      simp only at q
      by_cases hk : k ∈ ns
      · rw [if_pos hk] at q
        exact ⟨ns, k, rfl, rs.ints_v, hk, post_ok q g hd3 (.int _)⟩
      · rw [if_neg hk] at q
        exact q.elim
  | _ => exact q.elim
theorem e_idxT {o e : Expr} {apos cpos : Pos} {mo me : EM} (ho : EvX X W o mo) (he : EvX X W e me) (L : Lk1 X o "index" apos e cpos) : EvX X W (.Call (.Attribute o "index" apos) [e] [] cpos) (E.idxT mo me) := fun dp σ env K H s hE heK hd Q q => by
  refine sem_of (pe_mG ty_tup PySem.F.plainAttrs_tuple PySem.F.slot_tuple_index PySem.F.type_tuple_index mt_idxT (to := sem X o) pe_sem (pa_cons (te := sem X e) pe_sem pa_nil L.star) L.base L.few L.line L.star L.plain) ?_
  refine ho dp σ env K H s hE heK hd _ (Post.bind hd q fun v x K2 H2 s2 g2 hd2 r2 q2 => ?_)
  cases r2 with
  | @tup a vs ds h rs =>
    have q3 : Post X.K dp K2 H2 ((me env >>= fun y => dIxT (.tup ds) y) s2) Q (fun c d H => W c d σ H) := q2
    refine ⟨⟨a, vs, rfl, tupN_mono g2.sub h⟩, ?_⟩
    refine he dp σ env K2 H2 s2 (hE.mono g2.kk) g2.sub hd2 _ (Post.bind hd2 q3 fun w y K3 H3 s3 g3 hd3 r3 q4 => ?_)
    obtain ⟨ns, k, rfl, rfl, hk, qq⟩ := ints_fin (me := me) (env := env) (dp := dp) (K2 := K2) (H2 := H2) (s2 := s2) (ds := ds) (fun y => by cases y <;> rfl) hd3 g3.sub r3 (rs.mono g3.kk) q4
    exact ⟨a, ns, k, rfl, rfl, sqT_mono g3.sub (tupN_mono g3.kk h).sqT, hk, qq⟩
  | _ => exact q2.elim
theorem e_idxL {o e : Expr} {apos cpos : Pos} {mo me : EM} (ho : EvX X W o mo) (he : EvX X W e me) (L : Lk1 X o "index" apos e cpos) : EvX X W (.Call (.Attribute o "index" apos) [e] [] cpos) (E.idxL mo me) := fun dp σ env K H s hE heK hd Q q => by
  refine sem_of (pe_bm PySem.F.plainAttrs_list PySem.F.slot_list_index PySem.F.type_list_index mt_idxL (to := sem X o) pe_sem (pa_cons (te := sem X e) pe_sem pa_nil L.star) L.base L.few L.line L.star L.plain) ?_
  refine ho dp σ env K H s hE heK hd _ (Post.bind hd q fun v x K2 H2 s2 g2 hd2 r2 q2 => ?_)
  cases r2 with
  | @lst a vs ds h rs =>
    have q3 : Post X.K dp K2 H2 ((me env >>= fun y => dIxL (.lst ds) y) s2) Q (fun c d H => W c d σ H) := q2
    refine ⟨Or.inl ⟨rfl, _, Or.inl (Or.inl (g2.sub _ _ h))⟩, ?_⟩
    refine he dp σ env K2 H2 s2 (hE.mono g2.kk) g2.sub hd2 _ (Post.bind hd2 q3 fun w y K3 H3 s3 g3 hd3 r3 q4 => ?_)
    obtain ⟨ns, k, rfl, rfl, hk, qq⟩ := ints_fin (me := me) (env := env) (dp := dp) (K2 := K2) (H2 := H2) (s2 := s2) (ds := ds) (fun y => by cases y <;> rfl) hd3 g3.sub r3 (rs.mono g3.kk) q4
    exact ⟨a, ns, k, rfl, rfl, .inl (.inl (g3.sub _ _ (g3.kk _ _ h))), hk, qq⟩
  | _ => exact q2.elim
end
end T
end
section
set_option Elab.async false
set_option linter.all false
set_option maxRecDepth 100000
set_option maxHeartbeats 4000000
namespace T
open PySem PySem.Spec PyProof.Rows L2
namespace Bd
def outD (r : RB) : Option (List Int × Int × DS) := match r with
  | .ok (.rtD g m) _ s => some (g, m, s)
  | _ => none
def runD (n np : Nat) (mb : BM) : List D → DS → Option (List Int × Int × DS) := fun ds s => if ds.length = np then outD (mb (start n ds) s) else none
end Bd
def PostD (dp : DP) (K H : Hp) (r : Option (List Int × Int × DS)) (Q : VK) : Prop := match r with
  | some (g, m, s) => ∀ p q K2 H2, Gr dp K H K2 H2 → DealOk dp K2 H2 s → H p = none → H q = none → K2 p = none → K2 q = none → H2 p = some (.lst [.ref q, .int m]) → H2 q = some (.lst (g.map V.int)) → Q (.ref p) H2
  | none => False
def spD (F : Fg) (n : Nat) (m : List D → DS → Option (List Int × Int × DS)) : Sp := fun vs H Q EE => vs.length = n ∧ ∃ (dp : DP) (K : Hp) (ds : List D) (s : DS), Ex K H ∧ DealOk dp K H s ∧ Reps F K vs ds ∧ PostD dp K H (m ds s) Q
section
variable {P : Program} {w : World} {K : Fg} {mg : Str → Option Value} {base : Heap} {x qual : Str} {params : Arguments} {body : List Stmt} {scope : Scope} {dvs : List V} {kws : List (Str × V)} {f : Addr} {fd : FuncData} {N ps : List Str} {k : Nat} {mb : BM}
theorem fn_dl (F : FunD K x qual params body scope dvs kws f fd) (S : FnScope N ps scope) (hb : BodyOk P w K mg base N qual scope k body mb) : FnOk P w K mg base (L2N.CX P w) (k + 1) f fd ps (spD K ps.length (Bd.runD N.length ps.length mb)) :=
  F.ok S (fun vs H Q E h => h.1) fun cdv A outer s H vs Q E hr h => by
    refine ⟨semB (cxOf (L2N.CX P w) P w K mg base N qual scope f cdv A outer s H E) body, pss_sem, ?_⟩
    obtain ⟨hl, dp, K1, ds, s0, he, hd, r, q⟩ := h
    refine hb f cdv A outer s H E hr dp K1 H _ _ K1 H s0 (sta_start he hd r) _ ?_
    have q2 : PostD dp K1 H (if ds.length = ps.length then Bd.outD (mb (Bd.start N.length ds) s0) else none) Q := q
    rw [if_pos (by rw [← r.len]; exact hl)] at q2
    cases hm : mb (Bd.start N.length ds) s0 with
    | stuck => rw [hm] at q2; exact q2.elim
    | exc c fs env s' => rw [hm] at q2; exact q2.elim
    | ok fl env s' =>
      rw [hm] at q2
      cases fl with
      | rtD g m => exact q2
      | _ => exact q2.elim
structure FnD (P : Program) (w : World) (K : Fg) (mg : Str → Option Value) (base : Heap) (k : Nat) (x : Str) (n : Nat) (m : List D → DS → Option (List Int × Int × DS)) : Prop where
  ex : ∃ (f : Addr) (fd : FuncData) (ps : List Str), FnOk P w K mg base (L2N.CX P w) k f fd ps (spD K n m) ∧ mg x = some (.ref f) ∧ PySem.W.keepIn K (.ref f) = true ∧ Binds K fd ps []
end
section
variable {X : Cx} {W : WX}
theorem sem_dl {k n : Nat} {x : Str} {m : List D → DS → Option (List Int × Int × DS)} {e : Expr} {es : List Expr} {p pos : Pos} {ma : EA} (Fd : FnD X.prog X.w X.K X.mg X.base k x n m) (hr : Room k X.A) (hg : Gl X x) (ha : EvA X W (e :: es) ma)
    (hdb : (x == ("__debug__" : Str)) = false := by decide) (he : starEach (e :: es) X.env = (false, eval e X.env) :: starEach es X.env := by rfl) (hpl : (backTo pos (starEach es X.env)).any (·.1) = false := by rfl)
    {dp : DP} {σ : Sg} {env : Env} {K H : Hp} {s : DS} (hE : RelE X.K σ env K) (heK : Ex K H) (hd : DealOk dp K H s) {xs : List D} (hxs : ma env s = .ok xs s) (hn : xs.length = n) {Q : VK} (q : ∀ K2 H2, Gr dp K H K2 H2 → DealOk dp K2 H2 s → PostD dp K2 H2 (m xs s) Q) :
    sem X (.Call (.Name x p) (e :: es) [] pos) σ H Q := fun pins sh I => by
  obtain ⟨f, fd, ps, F, hm, hk, hb⟩ := Fd.ex
  refine wpAny_Call_Name_kw (ld_glob I hg hm ?_ hdb)
  refine PySem.W.callWith_K (h₀ := X.base) I.ok.mod.kin hk (thn (ha dp σ env K H s hE heK hd (fun vs H2 => spD X.K n m (vs ++ []) H2 Q (WE W0 σ)) ?_ pos pins sh I) fun us s1 ⟨vs, H1, I1, r1, q1⟩ => ⟨I1.kIn, run_at (ds := []) F hr hb .nil (L2N.passAt takesN0 σ) I1 r1 q1⟩) he hpl
  rw [hxs]
  intro vs K2 H2 g hd2 r
  rw [List.append_nil]
  exact ⟨by rw [r.len]; exact hn, dp, K2, xs, s, g.sub, hd2, r, q K2 H2 g hd2⟩
def noOwn (env : VEnv) : VEnv := env.map fun x => match x with
  | some (.val d) => some (.val d)
  | _ => none
theorem noOwn_get {env : VEnv} {i : Nat} {z : SV} (h : (noOwn env)[i]? = some (some z)) : ∃ d, z = .val d ∧ env[i]? = some (some (.val d)) := by
  unfold noOwn at h
  rw [List.getElem?_map] at h
  cases e : env[i]? with
  | none => rw [e] at h; cases h
  | some x =>
    rw [e] at h
    cases x with
    | none => cases h
    | some y => cases y <;> first | (cases h; exact ⟨_, rfl, rfl⟩) | cases h
theorem noOwn_own {env : VEnv} (i : Nat) : ¬ Own (noOwn env) i := fun h => by
  rcases h with ⟨ds, h⟩ | ⟨c, fs, h⟩
  · obtain ⟨d, e, _⟩ := noOwn_get h
    cases e
  · obtain ⟨d, e, _⟩ := noOwn_get h
    cases e
theorem Sta.noOwn {F : Fg} {dp : DP} {K0 H0 K H : Hp} {σ : Sg} {env : VEnv} {s : DS} (S : Sta F dp K0 H0 σ env K H s) : Sta F dp K0 H0 σ (T.noOwn env) K H s where
  gr := S.gr
  dl := S.dl
  d0 := S.d0
  e0 := S.e0
  len := by unfold T.noOwn; rw [List.length_map]; exact S.len
  val := fun i d hi => by
    obtain ⟨d', e, h⟩ := noOwn_get hi
    cases e
    exact S.val i d h
  own := fun i ds hi => absurd (Or.inl ⟨ds, hi⟩) (noOwn_own i)
  slf := fun i c fs hi => absurd (Or.inr ⟨c, fs, hi⟩) (noOwn_own i)
  apart := fun i j a hi _ _ _ => absurd hi (noOwn_own i)
def TopB (X : Cx) (sts : List Stmt) (Pre Post : VEnv → Prop) : Prop := ∀ dp K0 H0 σ env K H s (Dn : Ends), dp.deal = none → Sta X.K dp K0 H0 σ env K H s → Pre env → (∀ i, ¬ Own env i) →
  (∀ σ' env' K' H', Sta X.K dp K0 H0 σ' env' K' H' s → Ex K K' → Post env' → (∀ i, ¬ Own env' i) → Dn.nx σ' H') → semB X sts Dn σ H
theorem top_deal {k n i : Nat} {x fx : Str} {m : List D → DS → Option (List Int × Int × DS)} {e : Expr} {es : List Expr} {rest : List Stmt} {p p2 cp pos : Pos} {ma : EA} {mr : BM} {Pre Post : VEnv → Prop} (Fd : FnD X.prog X.w X.K X.mg X.base k fx n m) (hr : Room k X.A) (hg : Gl X fx) (ha : EvA X W (e :: es) ma)
    (hN : X.N.Nodup) (R : VarL X x i) (hrest : StB X W rest mr)
    (hq : ∀ env s, Pre env → s.at_ = none → ∃ xs g mm s1, ma (view [] 0 env) s = .ok xs s ∧ xs.length = n ∧ m xs s = some (g, mm, s1) ∧ ∀ p q, p ≠ q → ∃ env' s', mr (env.set i (some (.val (.ref p)))) ⟨g, mm, some (p, q)⟩ = .ok .nx env' s' ∧ Post (noOwn env'))
    (hdb : (fx == ("__debug__" : Str)) = false := by decide) (he : starEach (e :: es) X.env = (false, eval e X.env) :: starEach es X.env := by rfl) (hpl : (backTo cp (starEach es X.env)).any (·.1) = false := by rfl)
    (hs : swapsWith (.Call (.Name fx p) (e :: es) [] cp) (some (.Name x p2)) pos.line X.env = pure false := by rfl) : TopB X (.Assign [.Name x p2] (.Call (.Name fx p) (e :: es) [] cp) pos :: rest) Pre Post := fun dp K0 H0 σ env K H s Dn hdp S hpre hno hnx => by
  have hat : s.at_ = none := S.dl.1.trans hdp
  obtain ⟨xs, g, mm, s1, h1, h2, h3, h4⟩ := hq env s hpre hat
  refine semB_of (pss_cons (t := semS X _) (u := semB X rest) ps_sem pss_sem) ?_
  refine semS_of (ps_set hN R.at_ R.loc (te := sem X _) pe_sem hs R.fn) ?_
  refine sem_dl Fd hr hg ha hdb he hpl (relV S) S.gr.sub S.dl h1 h2 fun K2 H2 g2 hd2 => ?_
  rw [h3]
  intro p0 q0 K3 H3 g3 hd3 hp hq' hkp hkq hp3 hq3
  have S2 := S.step g2 hd2
  have S3 := S2.step g3 (by
    refine ⟨S2.dl.1, fun p q z => ?_⟩
    rw [hdp] at z
    cases z)
  obtain ⟨env', s', hm, hpost⟩ := h4 p0 q0 (fun e => by
    rw [e, hq3] at hp3
    cases g with
    | nil => simp at hp3
    | cons _ _ => simp at hp3)
  have st : Sta X.K ⟨some (p0, q0), dp.self⟩ K3 H3 (σ.set i (some (.ref p0))) (env.set i (some (.val (.ref p0)))) K3 H3 ⟨g, mm, some (p0, q0)⟩ := {
    gr := Gr.rfl' S3.gr.sub
    dl := ⟨rfl, fun p q z => by cases z; exact ⟨⟨hp3, hq3⟩, hkp, hkq⟩⟩
    d0 := ⟨⟨g, mm, some (p0, q0)⟩, rfl, fun p q z => by cases z; exact ⟨⟨hp3, hq3⟩, hkp, hkq⟩⟩
    e0 := S3.gr.sub
    len := by rw [List.length_set, List.length_set]; exact S3.len
    val := (S3.setVal (.ref p0) i).val
    own := fun j ds hj => absurd (own_set ⟨fun _ => by simp, fun _ _ => by simp⟩ (Or.inl ⟨ds, hj⟩)).1 (hno j)
    slf := fun j c fs hj => absurd (own_set ⟨fun _ => by simp, fun _ _ => by simp⟩ (Or.inr ⟨c, fs, hj⟩)).1 (hno j)
    apart := fun j l a hj _ _ _ => absurd (own_set ⟨fun _ => by simp, fun _ _ => by simp⟩ hj).1 (hno j) }
  refine hrest _ _ _ _ _ _ _ _ st Dn ?_
  rw [hm]
  intro σ4 K4 H4 S4 e4
  have h0p : ∀ {a : Addr} {o : HO}, H0 a = some o → H2 a = some o := fun h => S2.gr.fr _ _ h (fun p q z => by rw [hdp] at z; cases z)
  have h03 : ∀ {a : Addr} {o : HO}, H0 a = some o → H3 a = some o := fun h => S3.gr.fr _ _ h (fun p q z => by rw [hdp] at z; cases z)
  have S5 : Sta X.K dp K0 H0 σ4 env' K4 H4 s := {
    gr := ⟨Ex.tr S3.gr.kk e4, S4.gr.sub, fun a ha => by
        cases e : H0 a with
        | none => exact absurd e ha
        | some o =>
          rw [S4.gr.new a (by rw [h03 e]; simp)]
          exact S3.gr.new a ha, fun a o h nd => S4.gr.fr a o (h03 h) (fun p q z => by
        cases z
        exact ⟨fun z => (by rw [z] at h; rw [h0p h] at hp; cases hp), fun z => (by rw [z] at h; rw [h0p h] at hq'; cases hq')⟩)⟩
    dl := ⟨S.dl.1, fun p q z => by rw [hdp] at z; cases z⟩
    d0 := S.d0
    e0 := S.e0
    len := S4.len
    val := S4.val
    own := fun j ds hj => by
      obtain ⟨a, vs, f1, f2, f3, f4, f5⟩ := S4.own j ds hj
      refine ⟨a, vs, f1, f2, ?_, f4, f5⟩
      cases e : H0 a with
      | none => rfl
      | some o => rw [h03 e] at f3; cases f3
    slf := fun j c fs hj => by
      obtain ⟨a, dx, gs, f0, f1, f2, f3, f4, f5⟩ := S4.slf j c fs hj
      refine ⟨a, dx, gs, f0, f1, f2, ?_, f4, f5⟩
      cases e : H0 a with
      | none => rfl
      | some o => rw [h03 e] at f3; cases f3
    apart := S4.apart }
  exact hnx σ4 (noOwn env') K4 H4 S5.noOwn (Ex.tr (Ex.tr g2.kk g3.kk) e4) hpost (fun j => noOwn_own j)
theorem top_for {tg iter : Expr} {body : List Stmt} {pos : Pos} {t : Tg} {src : EL} {Pre : VEnv → Prop} {Okd : D → Prop} (hp : PassesOwn (model X.prog X.w) X.A X.env X.xe) (hc : X.calm = true) (hi : EvI X W tg iter src) (hg : PG X tg (t.g X.K))
    (hsrc : ∀ env s, Pre env → s.at_ = none → ∃ ds, src (view [] 0 env) s = .ok ds s ∧ ∀ d ∈ ds, Okd d ∧ ∃ l, t.bind d = some l)
    (hb : TopB X body (fun env => ∃ env0 d l, Pre env0 ∧ Okd d ∧ t.bind d = some l ∧ env = Bd.setS env0 l) Pre)
    (hs : ∀ x, foldedSetIterable iter X.env x = pure x := by intro _; rfl) : ∀ dp K0 H0 σ env K H s (Dn : Ends), dp.deal = none → Sta X.K dp K0 H0 σ env K H s → Pre env → (∀ i, ¬ Own env i) →
      (∀ σ' env' K' H', Sta X.K dp K0 H0 σ' env' K' H' s → Ex K K' → Pre env' → (∀ i, ¬ Own env' i) → Dn.nx σ' H') → semS X (.For tg iter body [] pos) Dn σ H := fun dp K0 H0 σ env K H s Dn hdp S hpre hno hnx => by
  have hat : s.at_ = none := S.dl.1.trans hdp
  obtain ⟨ds, h1, h2⟩ := hsrc env s hpre hat
  refine semS_of (ps_for (wi := semI X tg iter) (tb := semB X body) hp hc pi_sem hg pss_sem hs) ?_
  refine hi dp σ _ K H s (relV S) S.gr.sub S.dl _ ?_
  rw [h1]
  intro J K2 H2 g2 hd2 hy
  have S2 := S.step g2 hd2
  refine ⟨fun i m σ H => m = ds.length - i ∧ i ≤ ds.length ∧ ∃ (env' : VEnv) (K' : Hp), Sta X.K dp K0 H0 σ env' K' H s ∧ Ex K2 K' ∧ Pre env' ∧ ∀ i, ¬ Own env' i, ⟨ds.length, by simp, Nat.zero_le _, env, K2, S2, Ex.rfl' K2, hpre, hno⟩, ?_⟩
  rintro i m σ H ⟨rfl, hi', env', K', S', e', hpre', hno'⟩
  by_cases hlt : i < ds.length
  · refine .inr ⟨hy.go i H hlt (Ex.tr e' S'.gr.sub), fun σ2 H2 => i + 1 ≤ ds.length ∧ ∃ (env' : VEnv) (K' : Hp), Sta X.K dp K0 H0 σ2 env' K' H2 s ∧ Ex K2 K' ∧ Pre env' ∧ ∀ i, ¬ Own env' i, fun σ3 H3 n => ⟨ds.length - (i + 1), by omega, rfl, n.1, n.2⟩, fun x H' y => ?_⟩
    obtain ⟨K3, d, g3, hd, rd⟩ := hy.yld i H x H' K' hlt e' S'.gr.sub y
    have S3 := S'.step g3.of_none (S'.dl.ext g3.none_ex g3.new)
    obtain ⟨ok, l, hbd⟩ := h2 d (List.mem_of_getElem? hd)
    refine Tg.ok t S3.gr.sub rd hbd fun lv rl => ?_
    refine hb dp K0 H0 _ _ K3 H' s _ hdp (S3.sets rl) ⟨env', d, l, hpre', ok, hbd, rfl⟩ ?_ fun σ4 env4 K4 H4 S4 e4 p4 n4 => ⟨hlt, env4, K4, S4, Ex.tr (Ex.tr e' g3.kk) e4, p4, n4⟩
    intro j hj
    have key : ∀ (l : List (Nat × D)) (env : VEnv), Own (Bd.setS env l) j → Own env j := fun l => by
      induction l with
      | nil => exact fun env h => h
      | cons p r ih => exact fun env h => (own_set ⟨fun _ => by simp, fun _ _ => by simp⟩ (ih _ h)).1
    exact hno' j (key l env' hj)
  · have e : i = ds.length := by omega
    subst e
    exact .inl ⟨hy.stop H (Ex.tr e' S'.gr.sub), hnx σ env' K' H S' (Ex.tr g2.kk e') hpre' hno'⟩
end
end T
end
section
set_option Elab.async false
set_option linter.all false
set_option maxRecDepth 100000
set_option maxHeartbeats 4000000
namespace T
open PySem PySem.Spec PyProof.Rows L2
def dXf (a dx : Addr) (c f : Str) (x : D) : M D := match x with
  | .exc a' dx' c' fs => if a' = a ∧ dx' = dx ∧ c' = c then ofO (fs.lookup f) else stuck
  | _ => stuck
namespace E
def xf (xf : Str → Str → Bool) (a dx : Addr) (c f : Str) (me : EM) : EM := fun env => if xf c f = true then me env >>= dXf a dx c f else stuck
end E
structure XfOk (K : Fg) (xf : Str → Str → Bool) : Prop where
  at_ : ∀ c f, xf c f = true → XfC K (He.ga K c) ∧ PySem.W.findIn K (.ref (He.ga K c)) f = some none
section
variable {X : Cx} {W : WX}
theorem e_exf {xf : Str → Str → Bool} {a dx : Addr} {c f : Str} {oe : Obj} {pn : List (Addr × Obj)} {e : Expr} {pos : Pos} {me : EM} (XO : XfOk X.K xf) (hz : L2N.Zn (.ref (He.ga X.K c)) (some dx) oe) (hf : ∃ vs, oe.data = .fields vs)
    (he : EvX (X.suite a ((a, oe) :: pn)) W e me) (hb : attributeBase e f X.env (eval e X.env) = eval e X.env := by rfl) : EvX (X.suite a ((a, oe) :: pn)) W (.Attribute e f pos) (E.xf xf a dx c f me) := fun dp σ env K H s hE heK hd Q q => by
  unfold E.xf at q
  by_cases hx : xf c f = true
  · rw [if_pos hx] at q
    obtain ⟨h1, h2⟩ := XO.at_ c f hx
    refine sem_of (pe_xf (X := X) h1 h2 hz.zc hf (te := sem (X.suite a ((a, oe) :: pn)) e) pe_sem hb) ?_
    refine he dp σ env K H s hE heK hd _ (Post.bind hd q fun v d K2 H2 s2 g2 hd2 r2 q2 => ?_)
    cases r2 with
    | @exc a' dx' c' gs fs h rf =>
      have q3 : Post X.K dp K2 H2 ((if a' = a ∧ dx' = dx ∧ c' = c then ofO (fs.lookup f) else stuck : M D) s2) Q (fun c d H => W c d σ H) := q2
      by_cases hc : a' = a ∧ dx' = dx ∧ c' = c
      · rw [if_pos hc] at q3
        obtain ⟨rfl, rfl, rfl⟩ := hc
        cases hl : fs.lookup f with
        | none => rw [hl] at q3; exact q3.elim
        | some z =>
          rw [hl] at q3
          obtain ⟨v, e1, e2⟩ := rf.get hl
          exact ⟨rfl, rfl, dx', gs, v, rfl, g2.sub _ _ h, e1, post_ok q3 g2.sub hd2 e2⟩
      · rw [if_neg hc] at q3
        exact q3.elim
    | _ => exact q2.elim
  · rw [if_neg hx] at q
    exact q.elim
theorem hot_suite {a : Addr} {oe : Obj} {cls : Value} {d : Option Addr} {pn : List (Addr × Obj)} (hz : L2N.Zn cls d oe) (hf : ∃ vs, oe.data = .fields vs) : L2H.HotC (X.suite a ((a, oe) :: pn)) := by
  obtain ⟨vs, e⟩ := hf
  exact ⟨(a, oe), ⟨rfl, vs, e, hz.2.2 vs e⟩, List.mem_cons_self⟩
end
structure TabH (P : Program) (w : World) (K : Fg) (mg : Str → Option Value) (base : Heap) (k : Nat) (tb : Tab) : Prop where
  meth : ∀ c m g, tb.meth c m = some g → ∃ (f : Addr) (fd : FuncData) (ps : List Str), Cls K (He.ga K c) ∧ Meth K (He.ga K c) m f ∧ L2H.FnH P w K mg base (L2N.CX P w) k f fd ps (spM K ps.length g) ∧ Binds K fd ps [] ∧ ∀ xs s, xs.length ≠ ps.length → g xs s = .stuck
section
variable {X : Cx} {W : WX} {tb : Tab} {k : Nat}
theorem o_ownEqH (TO : TabH X.prog X.w X.K X.mg X.base k tb) (hr : L2H.RoomH k X.A) (hc : L2H.HotC X) (tk : L2N.Takes X W) : Op2X X W (compareOp .Eq) (dOwn tb "__eq__") := by
  intro dp σ K H s v w x y Q he hd rx ry q pins sh u u' I ru ru'
  cases rx with
  | @ins a dx c gs fs h rf =>
    cases ry with
    | @ins b dy c' gs' fs' h' rf' =>
      have q0 : Post X.K dp K H ((if c = c' ∧ tb.cls c = true then dMeth tb "__eq__" (.ins c fs) [.ins c' fs'] else stuck) s) Q (fun c d H => W c d σ H) := q
      by_cases hcc : c = c' ∧ tb.cls c = true
      · rw [if_pos hcc] at q0
        obtain ⟨rfl, hcls⟩ := hcc
        obtain ⟨a2, dx2, c2, gs2, fs2, g, ev, ex, h2, hl, hg, q3⟩ := dMeth_ok (Rep.ins h rf) q0
        cases ev
        cases ex
        obtain ⟨f, fd, ps, cl, hm, F, hb, har⟩ := TO.meth c _ g hg
        cases (show u = Value.ref a from ru)
        cases (show u' = Value.ref b from ru')
        obtain ⟨ox, od, J⟩ := inst_of I (he _ _ h)
        obtain ⟨oy, od', J'⟩ := inst_of I (he _ _ h')
        obtain ⟨mm, Fr0⟩ := I.fr
        have rr : Reps X.K K [V.ref a, V.ref b] [.ins c fs, .ins c fs'] := .cons (.ins h rf) (.cons (.ins h' rf') .nil)
        refine PySem.W.cmp_K (op := .Eq) (tb := .ref (He.ga X.K c)) (by have := hr.un; omega) Fr0 I.ok.mod.kin J J'.type (by simp [PySem.W.notFirst]) hm.at_ hm.fn ?_
        exact wpAny_mono (L2H.run_fnH (us := [.ref a, .ref b]) (vs := [.ref a, .ref b]) (E := WE W) F hr hc hb (L2N.passAt tk σ) I (.cons rfl (.cons rfl .nil)) ⟨own_len har rr q3, dp, K, _, s, he, hd, rr, q3⟩) (fun _ _ z => back_of z) fun _ _ z => z
      · rw [if_neg hcc] at q0
        exact q0.elim
    | _ => exact q.elim
  | _ => cases ry <;> exact q.elim
end
section
variable {P : Program} {w : World} {K : Fg} {mg : Str → Option Value} {base : Heap} {x qual : Str} {params : Arguments} {body : List Stmt} {scope : Scope} {dvs : List V} {kws : List (Str × V)} {f : Addr} {fd : FuncData} {N ps : List Str} {k : Nat} {mb : BM}
def BodyOkH (P : Program) (w : World) (K : Fg) (mg : Str → Option Value) (base : Heap) (N : List Str) (qual : Str) (scope : Scope) (k : Nat) (body : List Stmt) (mb : BM) : Prop :=
  ∀ (f : Addr) (cdv : Value) (A : Around) (outer : List PySem.Env) (s : Shared) (H : Hp) (E : XK) (p : Addr × Obj), L2H.Hot1 A p → L2H.RoomH k (A.deeper (envOfC qual scope s.heap.objs.size f cdv)) →
    StB (L2H.cxH (L2N.CX P w) P w K mg base N qual scope f cdv A outer s H E p) (fun c d _ H => E c d H) body mb
theorem fnH_ok (F : FunD K x qual params body scope dvs kws f fd) (S : FnScope N ps scope) (hb : BodyOkH P w K mg base N qual scope k body mb) : L2H.FnH P w K mg base (L2N.CX P w) (k + 1) f fd ps (spM K ps.length (Bd.run N.length ps.length mb)) := by
  obtain ⟨oc, od, dV, kV, doc, pm, an, cdv, ct, osl, rfl, lk, hcd, _, _⟩ := F.ex
  refine L2H.fn_ofH lk hcd S (fun vs H Q E h => h.1) fun A outer s H vs Q E p hot hr h => ?_
  refine ⟨semB (L2H.cxH (L2N.CX P w) P w K mg base N qual scope f cdv A outer s H E p) body, pss_sem, ?_⟩
  obtain ⟨hl, dp, K1, ds, s0, he, hd, r, q⟩ := h
  refine hb f cdv A outer s H E p hot hr dp K1 H _ _ K1 H s0 (sta_start he hd r) _ ?_
  have q2 : Post K dp K1 H (if ds.length = ps.length then Bd.outM (mb (Bd.start N.length ds) s0) else .stuck) Q E := q
  rw [if_pos (by rw [← r.len]; exact hl)] at q2
  exact post_run q2 K1
end
namespace Bd
def cut (i : Nat) (r : RB) : RB := match r with
  | .ok (.rt d) _ s => .ok (.rt d) [] s
  | .ok .nx env s => .ok .nx (env.set i none) s
  | _ => .stuck
def tryAs (i : Nat) (exT : Str → Option Bool) (mb : BM) (ms : Str → BM) : BM := fun env s => match mb env s with
  | .exc c fs env' s' => match exT c with
    | some true => cut i (ms c (env'.set i (some (.val (.exc 0 0 c fs)))) s')
    | some false => .exc c fs env' s'
    | none => .stuck
  | r => r
end Bd
section
variable {X : Cx} {W : WX}
theorem Sta.unset {F : Fg} {dp : DP} {K0 H0 K H : Hp} {σ : Sg} {env : VEnv} {s : DS} (S : Sta F dp K0 H0 σ env K H s) (j : Nat) : Sta F dp K0 H0 (σ.set j none) (env.set j none) K H s where
  gr := S.gr
  dl := S.dl
  d0 := S.d0
  e0 := S.e0
  len := by rw [List.length_set, List.length_set]; exact S.len
  val := fun i e hi => by
    rcases get_set hi with ⟨rfl, hx, hl⟩ | ⟨ne, hi⟩
    · cases hx
    · rw [List.getElem?_set_ne (Ne.symm ne)]
      exact S.val i e hi
  own := fun i ds hi => by
    rcases get_set hi with ⟨rfl, hx, hl⟩ | ⟨ne, hi⟩
    · cases hx
    · rw [List.getElem?_set_ne (Ne.symm ne)]
      exact S.own i ds hi
  slf := fun i c fs hi => by
    rcases get_set hi with ⟨rfl, hx, hl⟩ | ⟨ne, hi⟩
    · cases hx
    · rw [List.getElem?_set_ne (Ne.symm ne)]
      exact S.slf i c fs hi
  apart := fun i k a hi hk e1 e2 => by
    obtain ⟨o1, n1⟩ := own_set ⟨fun _ => by simp, fun _ _ => by simp⟩ hi
    obtain ⟨o2, n2⟩ := own_set ⟨fun _ => by simp, fun _ _ => by simp⟩ hk
    rw [List.getElem?_set_ne (Ne.symm n1)] at e1
    rw [List.getElem?_set_ne (Ne.symm n2)] at e2
    exact S.apart i k a o1 o2 e1 e2
theorem st_try {x n cn : Str} {i : Nat} {exT : Str → Option Bool} {body suite : List Stmt} {b₀ : Stmt} {np pos pos' : Pos} {mb : BM} {ms : Addr → Addr → Str → BM} (hs : X.stack = X.env :: X.outer) (hf : X.env.frame = some X.env.locals) (hN : X.N.Nodup) (hi : X.N[i]? = some n) (hln : X.env.kindOf n = some .local)
    (hc : Names X x (.ref (He.ga X.K cn))) (tk : L2N.Takes X W) (hex : ∀ c b, exT c = some b → PySem.W.exmOne X.K (.ref (He.ga X.K c)) (.ref (He.ga X.K cn)) = some b)
    (hb : ∀ (W : WX) (pn : List (Addr × Obj)) (xe : Value → Shared → Prop), L2N.Takes (X.tr pn xe) W → PassesOwn (model X.prog X.w) X.A X.env xe → StB (X.tr pn xe) W body mb)
    (hsu : ∀ (a : Addr) (oe : Obj) (dx : Addr) (c : Str) (pn : List (Addr × Obj)), L2N.Zn (.ref (He.ga X.K c)) (some dx) oe → (∃ vs, oe.data = .fields vs) → StB (X.suite a ((a, oe) :: pn)) W0 (b₀ :: suite) (ms a dx c))
    (hu : ∀ (a dx : Addr) (c : Str) (fs : List (Str × D)) (env : VEnv) (s : DS), Bd.cut i (ms a dx c (env.set i (some (.val (.exc a dx c fs)))) s) = Bd.cut i (ms 0 0 c (env.set i (some (.val (.exc 0 0 c fs)))) s)) :
    StX X W (.Try body [.ExceptHandler (some (.Name x np)) (some n) (b₀ :: suite) pos'] [] [] pos) (Bd.tryAs i exT mb (ms 0 0)) := fun dp K0 H0 σ env K H s S Dn q => by
  refine semS_of (L2N.ps_try_as hs hf hN hi hln hc tk (tb := fun W => fun D σ H => ∀ pn xe, L2N.Takes (X.tr pn xe) W → PassesOwn (model X.prog X.w) X.A X.env xe → semB (X.tr pn xe) body D σ H)
    (ts := fun a cls d => fun D σ H => ∀ oe pn, L2N.Zn cls d oe → (∃ vs, oe.data = .fields vs) → semB (X.suite a ((a, oe) :: pn)) (b₀ :: suite) D σ H)
    (fun W pn xe t p => ⟨fun pins s σ H D I h => h pn xe t p pins s I⟩) (fun a oe cls d pn z f => ⟨fun pins s σ H D I h => h oe pn z f pins s I⟩)) ?_
  intro pn xe htk hpass
  refine hb _ pn xe htk hpass dp K0 H0 σ env K H s S Dn ?_
  unfold Bd.tryAs at q
  cases hr : mb env s with
  | stuck => rw [hr] at q; exact q
  | ok f env' s' => rw [hr] at q; cases f <;> exact q
  | exc c fs env' s' =>
    rw [hr] at q
    simp only at q
    intro σ2 dx gs K2 H2 S2 e2 h1 h2
    cases he : exT c with
    | none => rw [he] at q; exact q.elim
    | some b =>
      refine ⟨b, hex c b he, fun hbt => ?_, fun hbf => ?_⟩
      · subst hbt
        rw [he] at q
        simp only at q
        intro a ha oe pn2 hz hfl
        have S3 := S2.setVal (v := .ref a) (d := .exc a dx c fs) (.exc h1 h2) i
        refine hsu a oe dx c pn2 hz hfl dp K0 H0 _ _ K2 H2 s' S3 _ ?_
        rw [← hu a dx c fs env' s'] at q
        have q := PostS.later e2 q
        cases hm : ms a dx c (env'.set i (some (.val (.exc a dx c fs)))) s' with
        | stuck => rw [hm] at q; exact q
        | exc c' fs' env'' s'' => rw [hm] at q; exact q.elim
        | ok f env'' s'' =>
          rw [hm] at q
          cases f with
          | nx => exact fun σ5 K5 H5 S5 e5 => (show ∀ σ K3 H3, Sta X.K dp K0 H0 σ (env''.set i none) K3 H3 s'' → Ex K2 K3 → Dn.nx σ H3 from q) _ K5 H5 (S5.unset i) e5
          | rt d => exact q
          | bk => exact q.elim
          | ct => exact q.elim
          | rtD g m => exact q.elim
          | rtL ds => exact q.elim
      · subst hbf
        rw [he] at q
        exact (show ∀ σ dx gs K2 H2, Sta X.K dp K0 H0 σ env' K2 H2 s' → Ex K K2 → K2 dx = some (.xd gs) → RepF X.K K2 gs fs → W (.ref (He.ga X.K c)) (some dx) σ H2 from q) σ2 dx gs K2 H2 S2 e2 h1 h2
end
theorem view_set_ne {env : VEnv} {i j : Nat} {x : Option SV} (h : i ≠ j) : (E.v j) (view [] 0 (env.set i x)) = (E.v j) (view [] 0 env) := by
  unfold E.v
  rw [view_get, view_get, List.getElem?_set_ne h]
theorem view_set_exc {env : VEnv} {i : Nat} {a dx : Addr} {c f : Str} {fs : List (Str × D)} {xf : Str → Str → Bool} : E.xf xf a dx c f (E.v i) (view [] 0 (env.set i (some (.val (.exc a dx c fs))))) = if xf c f = true ∧ i < env.length then ofO (fs.lookup f) else stuck := by
  unfold E.xf E.v
  rw [view_get]
  by_cases hx : xf c f = true
  · rw [if_pos hx]
    by_cases hi : i < env.length
    · rw [if_pos ⟨hx, hi⟩, List.getElem?_set_self hi]
      show M.bind (pure (D.exc a dx c fs)) (dXf a dx c f) = _
      funext s
      show dXf a dx c f (D.exc a dx c fs) s = _
      unfold dXf
      simp
    · rw [if_neg (fun z => hi z.2), List.getElem?_eq_none (by rw [List.length_set]; omega)]
      rfl
  · rw [if_neg hx, if_neg (fun z => hx z.1)]
theorem cut_ret2 {i : Nat} {m m2 : EM} {e1 e2 : VEnv} {s : DS} (h : m (view [] 0 e1) = m2 (view [] 0 e2)) : Bd.cut i (Bd.seq (Bd.ret [] m) Bd.nx e1 s) = Bd.cut i (Bd.seq (Bd.ret [] m2) Bd.nx e2 s) := by
  unfold Bd.seq Bd.ret
  rw [h]
  cases m2 (view [] 0 e2) s with
  | ok d s' => rfl
  | exc c fs s' => rfl
  | stuck => rfl
end T
end
section
set_option Elab.async false
set_option linter.all false
set_option maxRecDepth 100000
set_option maxHeartbeats 4000000
namespace T
open PySem PySem.Spec PyProof.Rows L2
def oexM (C : Addr) : List Value → Bool
  | .ref c :: bm => decide (c = C) && PySem.HandSPX.refsVE bm
  | _ => false
def oexO (C : Addr) : Option Obj → Bool
  | some ⟨.type t, dd, .cls cd, ⟨[k0, k1, k2, k3, some (.builtin n), k5]⟩⟩ => decide (t = "type") && (cd.hasDict && (!cd.hasDel && (decide (n = "ValueError.__new__") && oexM C cd.mro)))
  | _ => false
def oexB (K : Fg) (C : Addr) : Bool := oexO C (K.lookup C) && (He.eqO (PySem.W.findIn K (.ref C) "__setattr__") (some (some (.builtin "object.__setattr__"))) &&
  (decide (PySem.W.subIn K (.ref C) (.type "BaseException") = some true) && (decide (PySem.W.typeIn K (.ref C) = some (.type "type")) && PySem.W.keepIn K (.ref C))))
theorem oexB_ok {K : Fg} {C : Addr} (h : oexB K C = true) : OexC K C := by
  unfold oexB at h
  obtain ⟨h1, h⟩ := Bool.and_eq_true_iff.mp h
  obtain ⟨h2, h⟩ := Bool.and_eq_true_iff.mp h
  obtain ⟨h3, h⟩ := Bool.and_eq_true_iff.mp h
  obtain ⟨h4, h5⟩ := Bool.and_eq_true_iff.mp h
  refine ⟨?_, He.eqO_ok h2, of_decide_eq_true h3, of_decide_eq_true h4, h5⟩
  cases hl : K.lookup C with
  | none => rw [hl] at h1; cases h1
  | some o =>
    rw [hl] at h1
    unfold oexO at h1
    split at h1
    · rename_i t dd cd k0 k1 k2 k3 n k5 ho
      injection ho with ho
      subst ho
      simp only [Bool.and_eq_true, decide_eq_true_eq, Bool.not_eq_true'] at h1
      obtain ⟨rfl, hd, hdel, rfl, hm⟩ := h1
      obtain ⟨nm, bs, mro, ns, qn, hd', sn, sub, ab, col, del⟩ := cd
      dsimp only at hd hdel hm
      subst hd hdel
      unfold oexM at hm
      split at hm
      · rename_i c bm
        obtain ⟨e, hv⟩ := Bool.and_eq_true_iff.mp hm
        have e := of_decide_eq_true e
        subst e
        exact ⟨nm, qn, ns, bs, bm, sn, sub, ab, col, dd, k0, k1, k2, k3, k5, rfl, hv⟩
      · cases hm
    · cases h1
def clsX (K : Fg) (c : Str) : Bool := PySem.W.selfFirst K (He.ga K c) && (He.eqO (PySem.W.findIn K (.ref (He.ga K c)) "__ne__") (some (some (.builtin "object.__ne__"))) && decide (PySem.W.mroIn K (He.ga K c) (.type "object") = some true))
theorem clsX_ok {K : Fg} {c : Str} (h : clsX K c = true) : PySem.W.selfFirst K (He.ga K c) = true ∧ PySem.W.findIn K (.ref (He.ga K c)) "__ne__" = some (some (.builtin "object.__ne__")) ∧ PySem.W.mroIn K (He.ga K c) (.type "object") = some true := by
  obtain ⟨h1, h⟩ := Bool.and_eq_true_iff.mp h
  obtain ⟨h2, h3⟩ := Bool.and_eq_true_iff.mp h
  exact ⟨h1, He.eqO_ok h2, of_decide_eq_true h3⟩
def isTB (K : Fg) (l : List (CN × CN × Bool)) : Bool := l.all fun p => decide (PySem.W.kitOne K (p.1.val K) (p.2.1.val K) = some p.2.2)
def insB (K : Fg) (x : Str) : Bool := He.eqO (PySem.W.findIn K (.ref (He.ga K x)) "__class__") (some (some (.builtin "object.__class__"))) &&
  (decide (PySem.W.specialIn K (.builtin "object.__class__") "__get__" = some (some (.builtin "getset_descriptor.__get__"))) && (decide (PySem.W.takesIn K (.builtin "object.__class__") = some true) && decide (PySem.W.mroIn K (He.ga K x) (.type "object") = some true)))
def isLk (l : List (CN × CN × Bool)) (t c : CN) : Option Bool := match l with
  | [] => none
  | p :: r => if p.1 = t ∧ p.2.1 = c then some p.2.2 else isLk r t c
theorem isLk_mem {t c : CN} {b : Bool} : ∀ {l : List (CN × CN × Bool)}, isLk l t c = some b → (t, c, b) ∈ l
  | [], h => by cases h
  | p :: r, h => by
    unfold isLk at h
    by_cases e : p.1 = t ∧ p.2.1 = c
    · rw [if_pos e] at h
      obtain ⟨rfl, rfl⟩ := e
      cases h
      exact List.mem_cons_self
    · rw [if_neg e] at h
      exact List.mem_cons_of_mem _ (isLk_mem h)
theorem isOk_of {K : Fg} {tb : Tab} {l : List (CN × CN × Bool)} (h : isTB K l = true) (hi : ∀ x c b, (CN.c x, c, b) ∈ l → Cls K (He.ga K x) ∧ insB K x = true) : IsOk K tb (isLk l) where
  at_ := fun t c b e => of_decide_eq_true (List.all_eq_true.mp h _ (isLk_mem e))
  ins := fun x c b e => by
    obtain ⟨h1, h2⟩ := hi x c b (isLk_mem e)
    unfold insB at h2
    obtain ⟨a1, h2⟩ := Bool.and_eq_true_iff.mp h2
    obtain ⟨a2, h2⟩ := Bool.and_eq_true_iff.mp h2
    obtain ⟨a3, a4⟩ := Bool.and_eq_true_iff.mp h2
    exact ⟨h1, He.eqO_ok a1, of_decide_eq_true a2, of_decide_eq_true a3, of_decide_eq_true a4⟩
theorem cxN_no {P : Program} {w : World} {H : Hp} {s s' : Shared} {e : Value} (h : L2N.CX P w [] H s (fun _ _ _ => False) e s') : False := by
  obtain ⟨_, _, _, _, _, _, _, _, _, _, _, _, z⟩ := h
  exact z
theorem walkN {l : PySem.W.OpenLaw} {n k : Nat} {q : Program} {loose : List Str} {XP : (Str → Option Value) → Heap → Prop} {YP : World → Heap → Prop} {d : DefRec} {x : Str}
    (most : l.most = some n) (few : n ≤ sizeLine) (nodf : d.params.defaults = []) (room : Room k callerA)
    (facts : ∀ (w : World) (mg : Str → Option Value) (fa : Addr) (h : Heap), YP w h → h.Ns mainGlobals mg → mg d.name = some (.ref fa) → ∃ (K : Fg) (fd : FuncData) (sp : Sp), K.In h ∧ (∀ (s : Shared) (u : Value), BindsTo s fd ⟨[u], []⟩ [(x, u)]) ∧
      (∀ (H : Hp) (a : Addr) (ns : List Int), ns.length ≤ n → SqL K H a (ns.map V.int) → sp [.ref a] H (fun v _ => v = .bl true) fun _ _ _ => False) ∧ ∀ base : Heap, K.In base → base.Ns mainGlobals mg → FnOk l.prog w K mg base (L2N.CX l.prog w) k fa fd [x] sp) :
    PySem.W.WalkO q loose XP YP l.row.toRowW d [] fun f vs => PySem.call f vs :=
  Att.attach_call most nodf fun w s₀ s₁ mg mb fa o pm cd doc a vs ns G Y ho hd hcd hmg hobj hints hlen hg => by
    obtain ⟨K, fd, sp, KX, hb, hs, hf⟩ := facts w mg fa _ Y G.T.g hmg
    exact law_call KX G.T.g G.T.b G.T.builtins G.T.nolimit hg hobj hints (Nat.le_trans hlen few) room hf hb (fun H _ hS => hs H a ns hlen hS) fun H e s' z => cxN_no z
def spLaw (K : Fg) : Sp := fun vs H Q _ => ∃ (a : Addr) (ns : List Int), vs = [.ref a] ∧ SqL K H a (ns.map V.int) ∧ ns.length ≤ 63 ∧ ∀ H', Q (.bl true) H'
end T
end
section
set_option Elab.async false
set_option linter.all false
set_option maxRecDepth 100000
set_option maxHeartbeats 4000000
namespace T
open PySem PySem.Spec PyProof.Rows L2
def OwnA (σ : Sg) (env : VEnv) (b : Addr) : Prop := ∃ i, Own env i ∧ σ[i]? = some (some (V.ref b))
section
variable {F : Fg} {dp : DP} {K0 H0 K H K2 H2 : Hp} {σ σ2 : Sg} {env env2 : VEnv} {s s2 : DS}
theorem Sta.ownA (S : Sta F dp K0 H0 σ env K H s) {b : Addr} (h : OwnA σ env b) : H0 b = none ∧ K b = none ∧ NotDeal dp b ∧ H b ≠ none := by
  obtain ⟨i, ho, e⟩ := h
  obtain ⟨s0, d0⟩ := S.d0
  rcases ho with ⟨ds, h2⟩ | ⟨c, fs, h2⟩
  · obtain ⟨a, vs, e1, e2, e3, e4, _⟩ := S.own i ds h2
    rw [e] at e1
    cases e1
    exact ⟨e3, e4, NotDeal.fresh d0 e3, by rw [e2]; simp⟩
  · obtain ⟨a, dx, gs, e0, e1, e2, e3, e4, _⟩ := S.slf i c fs h2
    rw [e] at e1
    cases e1
    exact ⟨e3, e4, NotDeal.fresh d0 e3, by rw [e2]; simp⟩
theorem Sta.there (S : Sta F dp K0 H0 σ env K H s) {a : Addr} (ha : H0 a ≠ none) : H a ≠ none := fun z => by
  cases e : H0 a with
  | none => exact ha e
  | some o =>
    by_cases nd : NotDeal dp a
    · rw [S.gr.fr a o e nd] at z
      cases z
    · refine nd fun p q hp => ?_
      obtain ⟨⟨b1, b2⟩, _⟩ := S.dl.2 p q hp
      refine ⟨fun y => ?_, fun y => ?_⟩
      · rw [y, b1] at z
        cases z
      · rw [y, b2] at z
        cases z
theorem Sta.rebase (S : Sta F dp K0 H0 σ env K H s) : Sta F dp K (lessK (OwnA σ env) H) σ env K H s where
  gr := ⟨Ex.rfl' K, S.gr.sub, fun _ _ => rfl, fun a o h _ => by
    by_cases ho : OwnA σ env a
    · rw [lessK_yes ho] at h
      cases h
    · rw [lessK_no ho] at h
      exact h⟩
  dl := S.dl
  d0 := ⟨s, S.dl.1, fun p q hp => by
    obtain ⟨⟨a1, a2⟩, a3, a4⟩ := S.dl.2 p q hp
    refine ⟨⟨?_, ?_⟩, a3, a4⟩
    · rw [lessK_no (fun z => ((S.ownA z).2.2.1 p q hp).1 rfl)]
      exact a1
    · rw [lessK_no (fun z => ((S.ownA z).2.2.1 p q hp).2 rfl)]
      exact a2⟩
  e0 := fun b o h => by
    rw [lessK_no (fun z => by rw [(S.ownA z).2.1] at h; cases h)]
    exact S.gr.sub b o h
  len := S.len
  val := S.val
  own := fun i ds h => by
    obtain ⟨a, vs, e1, e2, e3, e4, e5⟩ := S.own i ds h
    exact ⟨a, vs, e1, e2, lessK_yes ⟨i, .inl ⟨ds, h⟩, e1⟩, e4, e5⟩
  slf := fun i c fs h => by
    obtain ⟨a, dx, gs, e0, e1, e2, e3, e4, e5⟩ := S.slf i c fs h
    exact ⟨a, dx, gs, e0, e1, e2, lessK_yes ⟨i, .inr ⟨c, fs, h⟩, e1⟩, e4, e5⟩
  apart := S.apart
theorem Sta.unbase (S : Sta F dp K0 H0 σ env K H s) (S2 : Sta F dp K (lessK (OwnA σ env) H) σ2 env2 K2 H2 s2) : Sta F dp K0 H0 σ2 env2 K2 H2 s2 where
  gr := ⟨Ex.tr S.gr.kk S2.gr.kk, S2.gr.sub, fun a ha => by
      have hn : ¬ OwnA σ env a := fun z => ha (S.ownA z).1
      rw [S2.gr.new a (by rw [lessK_no hn]; exact S.there ha), S.gr.new a ha], fun a o h nd => S2.gr.fr a o (by
      rw [lessK_no (fun z => by rw [(S.ownA z).1] at h; cases h)]
      exact S.gr.fr a o h nd) nd⟩
  dl := S2.dl
  d0 := S.d0
  e0 := S.e0
  len := S2.len
  val := S2.val
  own := fun i ds h => by
    obtain ⟨a, vs, e1, e2, e3, e4, e5⟩ := S2.own i ds h
    refine ⟨a, vs, e1, e2, ?_, e4, e5⟩
    by_cases ho : OwnA σ env a
    · exact (S.ownA ho).1
    · rw [lessK_no ho] at e3
      cases e : H0 a with
      | none => rfl
      | some o => exact absurd e3 (S.there (by rw [e]; simp))
  slf := fun i c fs h => by
    obtain ⟨a, dx, gs, e0, e1, e2, e3, e4, e5⟩ := S2.slf i c fs h
    refine ⟨a, dx, gs, e0, e1, e2, ?_, e4, e5⟩
    by_cases ho : OwnA σ env a
    · exact (S.ownA ho).1
    · rw [lessK_no ho] at e3
      cases e : H0 a with
      | none => rfl
      | some o => exact absurd e3 (S.there (by rw [e]; simp))
  apart := S2.apart
theorem Sta.stays (S : Sta F dp K0 H0 σ env K H s) (S2 : Sta F dp K (lessK (OwnA σ env) H) σ2 env2 K2 H2 s2) {L : Addr} {o : HO} (h : H L = some o) (hn : ¬ OwnA σ env L) (nd : NotDeal dp L) (hk : K L = none) : H2 L = some o ∧ K2 L = none := by
  refine ⟨S2.gr.fr L o (by rw [lessK_no hn]; exact h) nd, ?_⟩
  rw [S2.gr.new L (by rw [lessK_no hn, h]; simp)]
  exact hk
end
def join1 : Option SV → Option SV → Option SV
  | some (.own _), some (.own ds) => some (.own ds)
  | some (.val d), _ => some (.val d)
  | _, _ => none
def joinV : VEnv → VEnv → VEnv
  | [], _ => []
  | x :: r, [] => join1 x none :: joinV r []
  | x :: r, y :: t => join1 x y :: joinV r t
theorem joinV_len : ∀ (a b : VEnv), (joinV a b).length = a.length
  | [], _ => rfl
  | x :: r, [] => congrArg (· + 1) (joinV_len r [])
  | x :: r, y :: t => congrArg (· + 1) (joinV_len r t)
theorem joinV_get : ∀ (a b : VEnv) (i : Nat) (z : SV), (joinV a b)[i]? = some (some z) → ∃ x, a[i]? = some x ∧ join1 x ((b[i]?).join) = some z
  | [], _, _, _, h => by simp [joinV] at h
  | x :: r, [], 0, z, h => ⟨x, rfl, by simpa [joinV] using h⟩
  | x :: r, [], i + 1, z, h => by
    obtain ⟨y, e1, e2⟩ := joinV_get r [] i z (by simpa [joinV] using h)
    exact ⟨y, by simpa using e1, by simpa using e2⟩
  | x :: r, y :: t, 0, z, h => ⟨x, rfl, by simpa [joinV] using h⟩
  | x :: r, y :: t, i + 1, z, h => by
    obtain ⟨u, e1, e2⟩ := joinV_get r t i z (by simpa [joinV] using h)
    exact ⟨u, by simpa using e1, by simpa using e2⟩
theorem join_own {x y : Option SV} {ds : List D} (h : join1 x y = some (.own ds)) : (∃ ds0, x = some (.own ds0)) ∧ y = some (.own ds) := by
  unfold join1 at h
  split at h <;> first | (cases h; exact ⟨⟨_, rfl⟩, rfl⟩) | cases h
theorem join_val {x y : Option SV} {d : D} (h : join1 x y = some (.val d)) : x = some (.val d) := by
  unfold join1 at h
  split at h <;> first | (cases h; rfl) | cases h
theorem join_slf {x y : Option SV} {c : Str} {fs : List (Str × D)} (h : join1 x y ≠ some (.slf c fs)) : True := trivial
theorem join_noslf {x y : Option SV} {c : Str} {fs : List (Str × D)} : join1 x y ≠ some (.slf c fs) := fun h => by
  unfold join1 at h
  split at h <;> cases h
theorem own_join {a b : VEnv} {i : Nat} (h : Own (joinV a b) i) : (∃ ds, a[i]? = some (some (.own ds))) ∧ ∃ ds, b[i]? = some (some (.own ds)) := by
  rcases h with ⟨ds, h⟩ | ⟨c, fs, h⟩
  · obtain ⟨x, e1, e2⟩ := joinV_get a b i _ h
    obtain ⟨⟨d0, rfl⟩, e3⟩ := join_own e2
    refine ⟨⟨d0, e1⟩, ds, ?_⟩
    cases hb : b[i]? with
    | none => rw [hb] at e3; cases e3
    | some y => rw [hb] at e3; exact congrArg some e3
  · obtain ⟨x, e1, e2⟩ := joinV_get a b i _ h
    exact absurd e2 join_noslf
section
variable {F : Fg} {dp : DP} {K0 H0 K H K2 H2 : Hp} {σ σ2 : Sg} {env env2 : VEnv} {s s2 : DS}
theorem Sta.joined (S : Sta F dp K0 H0 σ env K H s) (S2 : Sta F dp K0 H0 σ2 env2 K2 H2 s2) (hk : Ex K K2) (hs : ∀ (i : Nat) (ds : List D), env[i]? = some (some (SV.own ds)) → σ2[i]? = σ[i]?) : Sta F dp K0 H0 σ (joinV env env2) K2 H2 s2 where
  gr := S2.gr
  dl := S2.dl
  d0 := S2.d0
  e0 := S2.e0
  len := by rw [joinV_len]; exact S.len
  val := fun i d h => by
    obtain ⟨x, e1, e2⟩ := joinV_get env env2 i _ h
    have e3 := join_val e2
    subst e3
    obtain ⟨v, f1, f2⟩ := S.val i d e1
    exact ⟨v, f1, f2.mono hk⟩
  own := fun i ds h => by
    obtain ⟨x, e1, e2⟩ := joinV_get env env2 i _ h
    obtain ⟨⟨d0, rfl⟩, e3⟩ := join_own e2
    have e4 : env2[i]? = some (some (.own ds)) := by
      cases hb : env2[i]? with
      | none => rw [hb] at e3; cases e3
      | some y => rw [hb] at e3; exact congrArg some e3
    obtain ⟨a, vs, f1, f2, f3, f4, f5⟩ := S2.own i ds e4
    exact ⟨a, vs, by rw [← hs i d0 e1]; exact f1, f2, f3, f4, f5⟩
  slf := fun i c fs h => by
    obtain ⟨x, e1, e2⟩ := joinV_get env env2 i _ h
    exact absurd e2 join_noslf
  apart := fun i j a hi hj e1 e2 => by
    obtain ⟨⟨d1, o1⟩, ⟨d2, p1⟩⟩ := own_join hi
    obtain ⟨⟨d3, o2⟩, ⟨d4, p2⟩⟩ := own_join hj
    exact S2.apart i j a (.inl ⟨d2, p1⟩) (.inl ⟨d4, p2⟩) (by rw [hs i d1 o1]; exact e1) (by rw [hs j d3 o2]; exact e2)
def wipeV (env : VEnv) : List Nat → VEnv
  | [] => env
  | v :: vs => (wipeV env vs).set v none
theorem Sta.wiped (S : Sta F dp K0 H0 σ env K H s) : ∀ vs : List Nat, Sta F dp K0 H0 (wipe σ vs) (wipeV env vs) K H s
  | [] => S
  | v :: vs => (Sta.wiped S vs).unset v
theorem wipeV_no : ∀ (vs : List Nat) (i : Nat) (z : SV), (wipeV env vs)[i]? = some (some z) → i ∉ vs ∧ env[i]? = some (some z)
  | [], i, z, h => ⟨by simp, h⟩
  | v :: vs, i, z, h => by
    rcases get_set h with ⟨_, hx, _⟩ | ⟨hne, h⟩
    · cases hx
    · obtain ⟨h1, h2⟩ := wipeV_no vs i z h
      exact ⟨by simp [hne, h1], h2⟩
theorem wipe_get {vs : List Nat} {i : Nat} (h : i ∉ vs) : ∀ σ : Sg, (wipe σ vs)[i]? = σ[i]? := by
  induction vs with
  | nil => exact fun _ => rfl
  | cons v vs ih =>
    intro σ
    show ((wipe σ vs).set v none)[i]? = _
    rw [List.getElem?_set_ne (fun z => h (by simp [z]))]
    exact ih (fun z => h (by simp [z])) σ
theorem setV_get {i : Nat} : ∀ (lv : List (Nat × V)) (σ : Sg), i ∉ lv.map (·.1) → (setV σ lv)[i]? = σ[i]?
  | [], _, _ => rfl
  | p :: r, σ, h => by
    show (setV (σ.set p.1 (some p.2)) r)[i]? = _
    rw [setV_get r _ (fun z => h (by simp [z])), List.getElem?_set_ne (fun z => h (by simp [z]))]
theorem setS_get {i : Nat} : ∀ (l : List (Nat × D)) (env : VEnv), i ∉ l.map (·.1) → (Bd.setS env l)[i]? = env[i]?
  | [], _, _ => rfl
  | p :: r, env, h => by
    show (Bd.setS (env.set p.1 (some (.val p.2))) r)[i]? = _
    rw [setS_get r _ (fun z => h (by simp [z])), List.getElem?_set_ne (fun z => h (by simp [z]))]
end
def Par (m : SM) : Prop := ∀ env s, (∃ d e' s', ∀ k, m k env s = k d e' s') ∨ (∀ k, m k env s = .stuck) ∨ ∃ c fs e' s', ∀ k, m k env s = .exc c fs e' s'
def runS (m : SM) (env : VEnv) (s : DS) : Option (D × VEnv × DS) := match m (fun d e' s' => .ok (.rt d) e' s') env s with
  | .ok (.rt d) e' s' => some (d, e', s')
  | _ => none
theorem Par.of_run {m : SM} (hp : Par m) {env : VEnv} {s : DS} {d : D} {e' : VEnv} {s' : DS} (h : runS m env s = some (d, e', s')) : ∀ k, m k env s = k d e' s' := by
  rcases hp env s with ⟨d1, e1, s1, hk⟩ | hc | ⟨c, fs, e1, s1, hc⟩
  · unfold runS at h
    rw [hk] at h
    cases h
    exact hk
  · unfold runS at h
    rw [hc] at h
    cases h
  · unfold runS at h
    rw [hc] at h
    cases h
theorem par_sx {vis : List Nat} {m : EM} : Par (Bd.sx vis m) := fun env s => by
  unfold Bd.sx
  cases h : Bd.ev vis m env s with
  | ok d s' => exact .inl ⟨d, env, s', fun k => rfl⟩
  | exc c fs s' => exact .inr (.inr ⟨c, fs, env, s', fun k => rfl⟩)
  | stuck => exact .inr (.inl fun k => rfl)
theorem par_pop {j : Nat} : Par (Bd.pop j) := fun env s => by
  unfold Bd.pop
  cases ho : Bd.ownAt env j with
  | none => exact .inr (.inl fun k => rfl)
  | some ds =>
    simp only
    cases hd : ds[ds.length - 1]? with
    | none => exact .inr (.inl fun k => rfl)
    | some d => exact .inl ⟨d, _, s, fun k => rfl⟩
theorem par_popAt {j : Nat} {mi : SM} (h : Par mi) : Par (Bd.popAt j mi) := fun env s => by
  unfold Bd.popAt
  cases ho : Bd.ownAt env j with
  | none => exact .inr (.inl fun k => rfl)
  | some ds0 =>
    simp only
    rcases h env s with ⟨d1, e1, s1, hk⟩ | hc | ⟨c, fs, e1, s1, hc⟩
    · simp only [hk]
      cases ho1 : Bd.ownAt e1 j with
      | none => exact .inr (.inl fun k => rfl)
      | some ds =>
        cases d1 with
        | int i =>
          simp only
          by_cases hz : -(2 ^ 63) ≤ i ∧ i < 2 ^ 63
          · simp only [if_pos hz]
            cases hq : seqIndex? i ds.length with
            | none => exact .inr (.inl fun k => rfl)
            | some n =>
              simp only
              cases hd : ds[n]? with
              | none => exact .inr (.inl fun k => rfl)
              | some d => exact .inl ⟨d, _, s1, fun k => rfl⟩
          · simp only [if_neg hz]
            exact .inr (.inl fun k => trivial)
        | _ => exact .inr (.inl fun k => rfl)
    · exact .inr (.inl fun k => hc _)
    · exact .inr (.inr ⟨c, fs, e1, s1, fun k => hc _⟩)
namespace Bd
def lcXM (t : Tg) (elt : SM) (k : List D → VEnv → DS → RB) : List D → List D → VEnv → DS → RB
  | [], acc, env, s => k acc env s
  | d :: r, acc, env, s => match t.bind d with
    | none => .stuck
    | some l => match runS elt (setS env l) s with
      | some (y, env', s') => if acc.length < sizeLine then lcXM t elt k r (acc ++ [y]) (joinV env env') s' else .stuck
      | none => .stuck
def lcX (vs : List Nat) (src : EL) (t : Tg) (elt : SM) : SM := fun k env s => match src (view [] 0 env) s with
  | .ok ds s' => lcXM t elt (fun out env2 s2 => k (.lst out) (joinV env env2) s2) ds [] (wipeV env vs) s'
  | .exc c fs s' => .exc c fs env s'
  | .stuck => .stuck
end Bd
section
variable {X : Cx} {W : WX}
theorem lcX_run {J : It} {te : TE} {vs : List Nat} {t : Tg} {elt : SM} {dp : DP} {σ : Sg} {K0 H0 K1 H1 : Hp} {env0 : VEnv} {s1 : DS} {ds : List D} {Dn : Ends} {k : List D → VEnv → DS → RB} {Q : VK} {L : Addr}
    (hsl : ∀ j ∈ t.slots, j ∈ vs) (S0 : Sta X.K dp K0 H0 (wipe σ vs) env0 K1 H1 s1) (hw : ∀ j ∈ vs, ¬ Own env0 j) (hy : Yields X.K J K1 ds) (hL : H1 L = none) (hp : Par elt)
    (hel : ∀ dp K0 H0 σ env K H s, Sta X.K dp K0 H0 σ env K H s → ∀ Dn k Q, PostS X.K dp K0 H0 K (elt k env s) Dn W0 → (∀ d env' s' v K2 H2, Sta X.K dp K0 H0 σ env' K2 H2 s' → Ex K K2 → Rep X.K K2 v d → PostS X.K dp K0 H0 K2 (k d env' s') Dn W0 → Q v H2) → te σ H Q)
    (q : PostS X.K dp K0 H0 K1 (Bd.lcXM t elt k ds [] env0 s1) Dn W)
    (fin : ∀ out env2 s2 vs2 K2 H2, Sta X.K dp K0 H0 (wipe σ vs) env2 K2 H2 s2 → Ex K1 K2 → (∀ j ∈ vs, ¬ Own env2 j) → (∀ i, Own env2 i → Own env0 i) → H2 L = some (.lst vs2) → K2 L = none → Reps X.K K2 vs2 out → PostS X.K dp K0 H0 K2 (k out env2 s2) Dn W → Q (.ref L) H2) :
    ∃ W : Nat → Nat → Hp → Prop, (∃ m, W 0 m (upd H1 L (.lst []))) ∧ ∀ i m H, W i m H →
      (J.stop i H ∧ Q (.ref L) H) ∨ (J.go i H ∧ ∃ Nx : Hp → Prop, (∀ H', Nx H' → ∃ m', m' < m ∧ W (i + 1) m' H') ∧ ∀ x H', J.yld i H x H' → t.g X.K x (wipe σ vs) H' fun σ2 H2 => wipe σ2 vs = wipe σ vs ∧ tYes σ2 H2 fun b H3 =>
        if b = true then te σ2 H3 fun y H4 => ∃ acc, H4 L = some (.lst acc) ∧ acc.length < sizeLine ∧ Nx (upd H4 L (.lst (acc ++ [y]))) else Nx H3) := by
  have nL : NotDeal dp L := fun p q' hp => by
    obtain ⟨⟨a1, a2⟩, _⟩ := S0.dl.2 p q' hp
    refine ⟨fun z => ?_, fun z => ?_⟩
    · rw [z, a1] at hL
      cases hL
    · rw [z, a2] at hL
      cases hL
  have h0L : H0 L = none := by
    cases e : H0 L with
    | none => rfl
    | some o => exact absurd hL (S0.there (by rw [e]; simp))
  have hk1L : K1 L = none := ex_none S0.gr.sub hL
  have notL : ∀ i, Own env0 i → (wipe σ vs)[i]? ≠ some (some (V.ref L)) := fun i ho z => (S0.ownA ⟨i, ho, z⟩).2.2.2 hL
  let S : Nat → Hp → Prop := fun i H => ∃ (K3 : Hp) (s3 : DS) (env3 : VEnv) (acc : List V) (accD : List D), Sta X.K dp K0 H0 (wipe σ vs) env3 K3 H s3 ∧ Ex K1 K3 ∧ (∀ j ∈ vs, ¬ Own env3 j) ∧ (∀ i, Own env3 i → Own env0 i) ∧ H L = some (.lst acc) ∧ K3 L = none ∧ Reps X.K K3 acc accD ∧
    PostS X.K dp K0 H0 K3 (Bd.lcXM t elt k (ds.drop i) accD env3 s3) Dn W
  have upL : ∀ {σ : Sg} {env : VEnv} {K H : Hp} {s : DS} {o : HO}, Sta X.K dp K0 H0 σ env K H s → K L = none → (∀ i, Own env i → σ[i]? ≠ some (some (V.ref L))) → Sta X.K dp K0 H0 σ env K (upd H L o) s := fun {σ env K H s o} S hk hn => {
    gr := ⟨S.gr.kk, fun b u e => by rw [upd_ne (ne_of_none e hk)]; exact S.gr.sub _ _ e, S.gr.new, fun b u e nd => by rw [upd_ne (ne_of_none e h0L)]; exact S.gr.fr b u e nd⟩
    dl := ⟨S.dl.1, fun p q' hp => by
      obtain ⟨⟨a1, a2⟩, a3, a4⟩ := S.dl.2 p q' hp
      obtain ⟨n1, n2⟩ := nL p q' hp
      exact ⟨⟨by rw [upd_ne (Ne.symm n1)]; exact a1, by rw [upd_ne (Ne.symm n2)]; exact a2⟩, a3, a4⟩⟩
    d0 := S.d0
    e0 := S.e0
    len := S.len
    val := S.val
    own := fun i ds h => by
      obtain ⟨a, vs, e1, e2, e3, e4, e5⟩ := S.own i ds h
      exact ⟨a, vs, e1, by rw [upd_ne (fun z => hn i (.inl ⟨ds, h⟩) (by rw [← z]; exact e1))]; exact e2, e3, e4, e5⟩
    slf := fun i c fs h => by
      obtain ⟨a, dx, gs, e0, e1, e2, e3, e4, e5⟩ := S.slf i c fs h
      exact ⟨a, dx, gs, e0, e1, by rw [upd_ne (fun z => hn i (.inr ⟨c, fs, h⟩) (by rw [← z]; exact e1))]; exact e2, e3, e4, e5⟩
    apart := S.apart }
  refine ⟨fun i m H => m = ds.length - i ∧ i ≤ ds.length ∧ S i H, ⟨ds.length, by simp, Nat.zero_le _, K1, s1, env0, [], [], upL S0 hk1L notL, Ex.rfl' K1, hw, fun _ h => h, upd_same, hk1L, .nil, q⟩, ?_⟩
  rintro i m H ⟨rfl, hi, K3, s3, env3, acc, accD, S3, eK, hw3, ho3, hLH, hLK, hr, hq⟩
  by_cases hlt : i < ds.length
  · refine .inr ⟨hy.go i H hlt (Ex.tr eK S3.gr.sub), S (i + 1), fun H' p => ⟨ds.length - (i + 1), by omega, rfl, hlt, p⟩, fun x H' hyl => ?_⟩
    obtain ⟨K4, d, g4, hd, hrx⟩ := hy.yld i H x H' K3 hlt eK S3.gr.sub hyl
    have g4' : Gr dp K3 H K4 H' := ⟨g4.kk, g4.sub, g4.new, fun a o h _ => g4.fr a o h (fun _ _ z => by cases z)⟩
    have S4 := S3.step g4' (g4'.deal S3.dl (fun a o h => g4.fr a o h (fun _ _ z => by cases z)))
    have edrop : ds.drop i = d :: ds.drop (i + 1) := by
      rw [List.drop_eq_getElem_cons hlt]
      congr
      rw [List.getElem?_eq_getElem hlt] at hd
      exact Option.some.inj hd
    rw [edrop] at hq
    have hLH' : H' L = some (.lst acc) := g4.fr L _ hLH (fun _ _ z => by cases z)
    have hLK4 : K4 L = none := by rw [g4.new L (by rw [hLH]; simp)]; exact hLK
    cases hb : t.bind d with
    | none =>
      have z : Bd.lcXM t elt k (d :: ds.drop (i + 1)) accD env3 s3 = .stuck := by
        show (match t.bind d with | none => RB.stuck | some l => _) = _
        rw [hb]
      rw [z] at hq
      exact hq.elim
    | some l =>
      have z : Bd.lcXM t elt k (d :: ds.drop (i + 1)) accD env3 s3 = (match runS elt (Bd.setS env3 l) s3 with
        | some (y, env', s') => if accD.length < sizeLine then Bd.lcXM t elt k (ds.drop (i + 1)) (accD ++ [y]) (joinV env3 env') s' else .stuck
        | none => .stuck) := by
        show (match t.bind d with | none => RB.stuck | some l => _) = _
        rw [hb]
      rw [z] at hq
      refine t.ok (K := K4) (l := l) S4.gr.sub hrx hb fun lv hlv => ?_
      have hin : ∀ j ∈ lv.map (·.1), j ∈ vs := fun j hj => hsl j (bind_slots t hb j (by rw [← repN_fst hlv]; exact hj))
      have hin2 : ∀ j ∈ l.map (·.1), j ∈ vs := fun j hj => hsl j (bind_slots t hb j hj)
      refine ⟨wipe_set hin, ?_⟩
      have S5 := S4.sets hlv
      have ownS : ∀ i, Own (Bd.setS env3 l) i → Own env3 i ∧ i ∉ l.map (·.1) := by
        have key : ∀ (l : List (Nat × D)) (env : VEnv) (i : Nat), Own (Bd.setS env l) i → Own env i ∧ i ∉ l.map (·.1) := fun l => by
          induction l with
          | nil => exact fun env i h => ⟨h, by simp⟩
          | cons p r ih =>
            intro env i h
            obtain ⟨h1, h2⟩ := ih _ i h
            obtain ⟨h3, h4⟩ := own_set ⟨fun _ => by simp, fun _ _ => by simp⟩ h1
            exact ⟨h3, by simp [h4, h2]⟩
        exact key l env3
      have getS : ∀ i, Own env3 i → (setV (wipe σ vs) lv)[i]? = (wipe σ vs)[i]? := fun i ho => setV_get lv _ (fun z => hw3 i (hin i z) ho)
      have nOwnL : ¬ OwnA (setV (wipe σ vs) lv) (Bd.setS env3 l) L := fun ⟨i, ho, e⟩ => by
        obtain ⟨h1, _⟩ := ownS i ho
        rw [getS i h1] at e
        exact notL i (ho3 i h1) e
      unfold tYes
      dsimp only
      try rw [if_pos rfl]
      cases hrun : runS elt (Bd.setS env3 l) s3 with
      | none => rw [hrun] at hq; exact hq.elim
      | some r =>
        obtain ⟨y, env', s'⟩ := r
        rw [hrun] at hq
        have hq : PostS X.K dp K0 H0 K3 (if accD.length < sizeLine then Bd.lcXM t elt k (ds.drop (i + 1)) (accD ++ [y]) (joinV env3 env') s' else .stuck) Dn W := hq
        have hdet := hp.of_run hrun
        classical
        refine hel dp _ _ _ _ K4 H' s3 S5.rebase ⟨fun _ _ => True, fun _ _ => False, fun _ _ => False, fun _ _ => False⟩ (fun d2 e2 s2 => if d2 = y ∧ e2 = env' ∧ s2 = s' then .ok .nx e2 s2 else .stuck) _ ?_ ?_
        · rw [hdet, if_pos ⟨rfl, rfl, rfl⟩]
          exact fun _ _ _ _ _ => trivial
        · intro d2 e2 s2 v K6 H6 S6 e6 r6 p6
          by_cases he : d2 = y ∧ e2 = env' ∧ s2 = s'
          · obtain ⟨rfl, rfl, rfl⟩ := he
            obtain ⟨hLH6, hLK6⟩ := S5.stays S6 hLH' nOwnL nL hLK4
            have S7 := S5.unbase S6
            by_cases hz : accD.length < sizeLine
            · rw [if_pos hz] at hq
              have hr6 := hr.mono (Ex.tr g4.kk e6)
              have S8 : Sta X.K dp K0 H0 (wipe σ vs) (joinV env3 e2) K6 H6 s2 := Sta.joined S4 S7 e6 (fun i ds ho => getS i (.inl ⟨ds, ho⟩))
              refine ⟨acc, hLH6, by rw [hr6.len]; exact hz, K6, s2, joinV env3 e2, acc ++ [v], accD ++ [d2], upL S8 hLK6 (fun i ho => notL i (ho3 i (.inl (own_join ho).1))), Ex.tr (Ex.tr eK g4.kk) e6, fun j hj ho => hw3 j hj (.inl (own_join ho).1), fun i ho => ho3 i (.inl (own_join ho).1), upd_same, hLK6, hr6.app (.cons r6 .nil), PostS.later (Ex.tr g4.kk e6) hq⟩
            · rw [if_neg hz] at hq
              exact hq.elim
          · rw [if_neg he] at p6
            exact p6.elim
  · have e : i = ds.length := by omega
    subst e
    refine .inl ⟨hy.stop H (Ex.tr eK S3.gr.sub), ?_⟩
    rw [List.drop_length] at hq
    exact fin accD env3 s3 acc K3 H S3 eK hw3 ho3 hLH hLK hr hq
theorem sx_lc {elt tg iter : Expr} {scope : Scope} {own : List (Str × Nat)} {pos : Pos} {src : EL} {t : Tg} {me : SM} (hc : X.calm = true) (hN : X.N.Nodup) (hi : EvI X W tg iter src) (ok : BlkOk X.N X.env.scope scope own) (hsl : ∀ j ∈ t.slots, j ∈ own.map (·.2)) (hg : ∀ z, PG (Cx.bk X scope z) tg (t.g X.K))
    (hp : Par me) (he : ∀ z, SxX (Cx.bk X scope z) W0 elt me) (hs : ∀ x, foldedSetIterable iter X.env x = pure x := by intro _; rfl) : SxX X W (.ListComp elt [⟨tg, iter, [], 0⟩] scope pos) (Bd.lcX (own.map (·.2)) src t me) := fun dp K0 H0 σ env K H s S Dn k Q q h => by
  refine sem_of (pe_lc (g := t.g X.K) (wi := semI X tg iter) (tt := tYes) (te := teB X scope elt) hc hN pi_sem ok (fun s H C cl fp => hg (s, H, C, cl, fp)) (fun _ _ _ _ _ => pts_nil) (fun s H C cl fp => ⟨fun pins s' σ H' Q I h => h (s, H, C, cl, fp) pins s' I⟩) hs) ?_
  refine hi dp σ _ K H s (relV S) S.gr.sub S.dl _ ?_
  unfold Bd.lcX at q
  cases hm : src (view [] 0 env) s with
  | stuck => rw [hm] at q; exact q.elim
  | exc c fs s' =>
    rw [hm] at q
    exact fun dx gs K2 H2 g hd h1 h2 => (show ∀ σ dx gs K2 H2, Sta X.K dp K0 H0 σ env K2 H2 s' → Ex K K2 → K2 dx = some (.xd gs) → RepF X.K K2 gs fs → W (.ref (He.ga X.K c)) (some dx) σ H2 from q) σ dx gs K2 H2 (S.step g hd) g.kk h1 h2
  | ok ds s' =>
    rw [hm] at q
    intro J K1 H1 g1 hd1 hy L hL
    have S1 := S.step g1 hd1
    refine lcX_run (W := W) (Dn := Dn) (k := fun out env2 s2 => k (.lst out) (joinV env env2) s2) hsl (S1.wiped (own.map (·.2))) (fun j hj ho => ?_) hy hL hp (fun dp K0 H0 σ env K H s S Dn k Q q h z => he z dp K0 H0 σ env K H s S Dn k Q q h) (PostS.later g1.kk q) ?_
    · rcases ho with ⟨ds, h⟩ | ⟨c, fs, h⟩
      · exact (wipeV_no _ j _ h).1 hj
      · exact (wipeV_no _ j _ h).1 hj
    · intro out env2 s2 vs2 K2 H2 S2 e2 hw2 ho2 hL2 hk2 r2 q2
      have hno : ∀ i, Own env2 i → i ∉ own.map (·.2) := fun i ho hj => hw2 i hj ho
      have S3 : Sta X.K dp K0 H0 σ (joinV env env2) K2 H2 s2 := by
        have S2' : Sta X.K dp K0 H0 (wipe σ (own.map (·.2))) env2 K2 H2 s2 := S2
        exact {
          gr := S2.gr
          dl := S2.dl
          d0 := S2.d0
          e0 := S2.e0
          len := by rw [joinV_len]; exact S.len
          val := fun i d h => by
            obtain ⟨x, f1, f2⟩ := joinV_get env env2 i _ h
            have f3 := join_val f2
            subst f3
            obtain ⟨v, a1, a2⟩ := S1.val i d f1
            exact ⟨v, a1, a2.mono e2⟩
          own := fun i ds h => by
            obtain ⟨⟨d1, o1⟩, ⟨d2, o2⟩⟩ := own_join (.inl ⟨ds, h⟩)
            obtain ⟨x, f1, f2⟩ := joinV_get env env2 i _ h
            obtain ⟨_, f3⟩ := join_own f2
            rw [o2] at f3
            cases f3
            obtain ⟨a, vs, b1, b2, b3, b4, b5⟩ := S2.own i ds o2
            exact ⟨a, vs, by rw [← wipe_get (hno i (.inl ⟨ds, o2⟩)) σ]; exact b1, b2, b3, b4, b5⟩
          slf := fun i c fs h => by
            obtain ⟨x, f1, f2⟩ := joinV_get env env2 i _ h
            exact absurd f2 join_noslf
          apart := fun i j a hi hj f1 f2 => by
            obtain ⟨_, ⟨d2, o2⟩⟩ := own_join hi
            obtain ⟨_, ⟨d4, o4⟩⟩ := own_join hj
            exact S2.apart i j a (.inl ⟨d2, o2⟩) (.inl ⟨d4, o4⟩) (by rw [wipe_get (hno i (.inl ⟨d2, o2⟩)) σ]; exact f1) (by rw [wipe_get (hno j (.inl ⟨d4, o4⟩)) σ]; exact f2) }
      have h0L : H0 L = none := by
        cases e : H0 L with
        | none => rfl
        | some o => exact absurd hL (S1.there (by rw [e]; simp))
      have hkx : Ex K2 (upd K2 L (.lst vs2)) := fun b o e => by rw [upd_ne (ne_of_none e hk2)]; exact e
      have nL : NotDeal dp L := by
        obtain ⟨s0, d0⟩ := S.d0
        exact NotDeal.fresh d0 h0L
      have nOwn : ∀ i, Own (joinV env env2) i → σ[i]? ≠ some (some (V.ref L)) := fun i ho e => by
        obtain ⟨⟨d1, o1⟩, _⟩ := own_join ho
        exact (S1.ownA ⟨i, .inl ⟨d1, o1⟩, e⟩).2.2.2 hL
      have S4 : Sta X.K dp K0 H0 σ (joinV env env2) (upd K2 L (.lst vs2)) H2 s2 := {
        gr := ⟨Ex.tr S3.gr.kk hkx, fun b o e => by
            by_cases hb : b = L
            · subst hb
              rw [upd_same] at e
              cases e
              exact hL2
            · rw [upd_ne hb] at e
              exact S3.gr.sub _ _ e, fun a ha => by
            rw [upd_ne (fun z => ha (by rw [z]; exact h0L))]
            exact S3.gr.new a ha, S3.gr.fr⟩
        dl := ⟨S3.dl.1, fun p q' hp => by
          obtain ⟨a1, a2, a3⟩ := S3.dl.2 p q' hp
          obtain ⟨n1, n2⟩ := nL p q' hp
          exact ⟨a1, by rw [upd_ne (Ne.symm n1)]; exact a2, by rw [upd_ne (Ne.symm n2)]; exact a3⟩⟩
        d0 := S3.d0
        e0 := S3.e0
        len := S3.len
        val := fun i d h => by
          obtain ⟨v, a1, a2⟩ := S3.val i d h
          exact ⟨v, a1, a2.mono hkx⟩
        own := fun i ds h => by
          obtain ⟨a, vs, b1, b2, b3, b4, b5⟩ := S3.own i ds h
          exact ⟨a, vs, b1, b2, b3, by rw [upd_ne (fun z => nOwn i (.inl ⟨ds, h⟩) (by rw [← z]; exact b1))]; exact b4, b5.mono hkx⟩
        slf := fun i c fs h => by
          obtain ⟨x, f1, f2⟩ := joinV_get env env2 i _ h
          exact absurd f2 join_noslf
        apart := S3.apart }
      exact h (.lst out) _ s2 (.ref L) _ H2 S4 (Ex.tr (Ex.tr g1.kk e2) hkx) (.lst upd_same (r2.mono hkx)) (PostS.later hkx q2)
namespace Bd
def sxO (g : D → M D) (m : SM) : SM := fun k env s => m (fun d env' s' => withE (g d s') env' fun y s2 => k y env' s2) env s
def retX (m : SM) : BM := m fun d env s => .ok (.rt d) env s
end Bd
theorem sx_ty {x : Str} {ty : String} {e : Expr} {p pos : Pos} {m : SM} {g : List D → M D} (hf : OpLX X W (fun us => call (.type ty) us) g) (hg : Gl X x) (hm : X.mg x = none) (hv : bootBuiltins x = some (.type ty)) (he : SxX X W e m)
    (hn : x ≠ "__name__" := by decide) (hdb : (x == ("__debug__" : Str)) = false := by decide) (hst : starEach [e] X.env = (false, eval e X.env) :: starEach [] X.env := by rfl) (hpl : (backTo pos (starEach [] X.env)).any (·.1) = false := by rfl) :
    SxX X W (.Call (.Name x p) [e] [] pos) (Bd.sxO (fun d => g [d]) m) := fun dp K0 H0 σ env K H s S Dn k Q q h pins sh I => by
  refine wpAny_Call_Name_kw (ld_blt I hg hm hv ?_ hn hdb)
  refine PyProof.Rows.callWith_type1 (thn ((pa_cons (te := sem X e) pe_sem pa_nil hst).run pos pins sh σ H (fun vs H2 => ∃ (v : V) (d : D) (env' : VEnv) (s' : DS) (K2 : Hp), vs = [v] ∧ Sta X.K dp K0 H0 σ env' K2 H2 s' ∧ Ex K K2 ∧ Rep X.K K2 v d ∧ PostS X.K dp K0 H0 K2 (Bd.withE (g [d] s') env' fun y s2 => k y env' s2) Dn W) I ?_)
    fun us s1 ⟨vs, H1, I1, r1, v, d, env', s', K2, ev, S2, e2, r2, q2⟩ => ?_) hst hpl
  · refine he dp K0 H0 σ env K H s S Dn _ _ q fun d env' s' v K2 H2 S2 e2 r2 q2 => ?_
    exact ⟨v, d, env', s', K2, rfl, S2, e2, r2, q2⟩
  · subst ev
    refine hf dp σ K2 H1 s' [v] [d] Q S2.gr.sub S2.dl (.cons r2 .nil) ?_ pins s1 us I1 r1
    cases hgd : g [d] s' with
    | stuck => rw [hgd] at q2; exact q2
    | exc c fs s2 =>
      rw [hgd] at q2
      exact fun dx gs K3 H3 g3 hd3 h1 h2 => (show ∀ σ dx gs K3 H3, Sta X.K dp K0 H0 σ env' K3 H3 s2 → Ex K2 K3 → K3 dx = some (.xd gs) → RepF X.K K3 gs fs → W (.ref (He.ga X.K c)) (some dx) σ H3 from q2) σ dx gs K3 H3 (S2.step g3 hd3) g3.kk h1 h2
    | ok y s2 =>
      rw [hgd] at q2
      exact fun v3 K3 H3 g3 hd3 r3 => h y env' s2 v3 K3 H3 (S2.step g3 hd3) (Ex.tr e2 g3.kk) r3 (PostS.later g3.kk q2)
theorem st_retX {e : Expr} {pos : Pos} {m : SM} (he : SxX X W e m) : StX X W (.Return (some e) pos) (Bd.retX m) := fun dp K0 H0 σ env K H s S Dn q => by
  refine semS_of (ps_ret (te := sem X e) pe_sem) ?_
  refine he dp K0 H0 σ env K H s S Dn _ _ q fun d env' s' v K2 H2 S2 e2 r2 q2 => ?_
  exact (show ∀ v K3 H3, Gr dp K0 H0 K3 H3 → DealOk dp K3 H3 s' → Rep X.K K3 v d → Dn.rt v H3 from q2) v K2 H2 S2.gr S2.dl r2
end
end T
end
section
set_option Elab.async false
set_option linter.all false
set_option maxRecDepth 100000
set_option maxHeartbeats 4000000
namespace T
open PySem PySem.Spec PyProof.Rows L2
def isNone : D → Bool
  | .non => true
  | _ => false
def okLt (x y : D) : Bool := okEq x && (okEq y && (!isNone x && PySem.W.alike (pyOf x) (pyOf y)))
def dLtD (x y : D) : M D := if okLt x y = true then pure (.bl (PySem.W.dataLt (pyOf x) (pyOf y))) else stuck
section
variable {X : Cx} {W : WX}
theorem o_ltD (hu : X.A.units + 64 < cLine) : Op2X X W (compareOp .Lt) dLtD := by
  intro dp σ K H s v w x y Q he hd rx ry q pins sh u u' I ru ru'
  have q' : Post X.K dp K H ((if okLt x y = true then pure (.bl (PySem.W.dataLt (pyOf x) (pyOf y))) else stuck : M D) s) Q (fun c d H => W c d σ H) := q
  by_cases hz : okLt x y = true
  · rw [if_pos hz] at q'
    unfold okLt at hz
    simp only [Bool.and_eq_true] at hz
    obtain ⟨h1, h2, h3, h4⟩ := hz
    obtain ⟨p1, s1⟩ := okEq_ok h1
    obtain ⟨p2, s2⟩ := okEq_ok h2
    obtain ⟨as, r1⟩ := Dp.reads I _ v u (dp_of he rx p1) ru
    obtain ⟨bs, r2⟩ := Dp.reads I _ w u' (dp_of he ry p2) ru'
    refine PySem.W.lt_data r1 r2 h4 (fun z => ?_) (SeqAt.room_of_shaped s1 hu) ⟨.bl _, H, I, rfl, post_ok q' he hd (.bl _)⟩
    cases x <;> first | (cases h3; done) | (cases p1; done) | (cases z; done)
  · rw [if_neg hz] at q'
    exact q'.elim
def dIn (b : Bool) (x y : D) : M D := match y with
  | .lst ds => if (okEq x && okEq (.lst ds)) = true then pure (.bl (b == (pyOfs ds).any fun z => PyData.eqv z (pyOf x))) else stuck
  | _ => stuck
theorem o_in (hu : X.A.units + 65 < cLine) : Op2X X W (compareOp .In) (dIn true) := by
  refine op2x_of (op_inD hu) ?_
  intro dp K H s EE v w x y Q he hd rx ry q
  cases y with
  | lst ds =>
    have q' : Post X.K dp K H ((if (okEq x && okEq (.lst ds)) = true then pure (.bl (true == (pyOfs ds).any fun z => PyData.eqv z (pyOf x))) else stuck : M D) s) Q EE := q
    by_cases hz : (okEq x && okEq (.lst ds)) = true
    · rw [if_pos hz] at q'
      obtain ⟨h1, h2⟩ := Bool.and_eq_true_iff.mp hz
      obtain ⟨p1, s1⟩ := okEq_ok h1
      obtain ⟨p2, s2⟩ := okEq_ok h2
      have := post_ok q' he hd (.bl _)
      refine ⟨_, _, dp_of he rx p1, dp_of he ry p2, s1, s2, ?_⟩
      rw [show ((pyOfs ds).any fun z => PyData.eqv z (pyOf x)) = (true == (pyOfs ds).any fun z => PyData.eqv z (pyOf x)) from by simp]
      exact this
    · rw [if_neg hz] at q'
      exact q'.elim
  | _ => exact q.elim
theorem o_nin (hu : X.A.units + 65 < cLine) : Op2X X W (compareOp .NotIn) (dIn false) := by
  refine op2x_of (op_notInD hu) ?_
  intro dp K H s EE v w x y Q he hd rx ry q
  cases y with
  | lst ds =>
    have q' : Post X.K dp K H ((if (okEq x && okEq (.lst ds)) = true then pure (.bl (false == (pyOfs ds).any fun z => PyData.eqv z (pyOf x))) else stuck : M D) s) Q EE := q
    by_cases hz : (okEq x && okEq (.lst ds)) = true
    · rw [if_pos hz] at q'
      obtain ⟨h1, h2⟩ := Bool.and_eq_true_iff.mp hz
      obtain ⟨p1, s1⟩ := okEq_ok h1
      obtain ⟨p2, s2⟩ := okEq_ok h2
      have := post_ok q' he hd (.bl _)
      refine ⟨_, _, dp_of he rx p1, dp_of he ry p2, s1, s2, ?_⟩
      rw [show (!(pyOfs ds).any fun z => PyData.eqv z (pyOf x)) = (false == (pyOfs ds).any fun z => PyData.eqv z (pyOf x)) from by cases (pyOfs ds).any fun z => PyData.eqv z (pyOf x) <;> rfl]
      exact this
    · rw [if_neg hz] at q'
      exact q'.elim
  | _ => exact q.elim
def okCnt (ds : List D) (k : D) : Bool := plains ds && (plain k && (PyData.plainAll (pyOfs ds) && ((pyOf k).plain && decide (min (PyData.depthAll (pyOfs ds)) (pyOf k).depth ≤ 32))))
def dCnt (x k : D) : M D := match x with
  | .lst ds => if okCnt ds k = true then pure (.int ((pyOfs ds).countP fun y => PyData.eqv y (pyOf k) : Nat)) else stuck
  | _ => stuck
def E.cnt (a b : EM) : EM := fun env => a env >>= fun x => isLst x >>= fun _ => b env >>= fun y => dCnt x y
def rCntD (K : Fg) : V → List V → Hp → VK → Prop := fun x xs H Q => ∃ (a : Addr) (y : V) (d : PyData) (vs : List V) (ds : List PyData), x = V.ref a ∧ xs = [y] ∧ SqL K H a vs ∧ DpAll K H vs ds ∧ Dp K H y d ∧
  PyData.plainAll ds = true ∧ d.plain = true ∧ min (PyData.depthAll ds) d.depth ≤ 32 ∧ Q (.int (ds.countP fun y => PyData.eqv y d : Nat)) H
theorem mt_cntD (hu : X.A.units + 64 < cLine) : MtR X "list.count" (rCntD X.K) := by
  intro pins s σ H x xs v us Q I rx rxs h
  obtain ⟨a, y, d, vs, ds, rfl, rfl, hs, ha, hy, h1, h2, h3, q⟩ := h
  cases rx
  cases rxs with
  | cons ry rt =>
    cases rt
    obtain ⟨bs, r1⟩ := Dp.reads I d y _ hy ry
    obtain ⟨its, rv, pl, hz⟩ := I.list hs
    obtain ⟨as, h4⟩ := Dp.readsAll I ds _ its ha rv
    exact PySem.SeqAt.count_list_data pl.isList h4 r1 h1 h2 (by omega) ⟨.int _, H, I.tok _, ⟨_, rfl⟩, q⟩
theorem e_cnt (hu : X.A.units + 64 < cLine) {o e : Expr} {apos cpos : Pos} {mo me : EM} (ho : EvX X W o mo) (he : EvX X W e me) (L : Lk1 X o "count" apos e cpos) : EvX X W (.Call (.Attribute o "count" apos) [e] [] cpos) (E.cnt mo me) := fun dp σ env K H s hE heK hd Q q => by
  refine sem_of (pe_bm PySem.F.plainAttrs_list PySem.F.slot_list_count PySem.F.type_list_count (mt_cntD hu) (to := sem X o) pe_sem (pa_cons (te := sem X e) pe_sem pa_nil L.star) L.base L.few L.line L.star L.plain) ?_
  refine ho dp σ env K H s hE heK hd _ (Post.bind hd q fun v x K2 H2 s2 g2 hd2 r2 q2 => ?_)
  cases r2 with
  | @lst a vs ds h rs =>
    have q3 : Post X.K dp K2 H2 ((me env >>= fun y => dCnt (.lst ds) y) s2) Q (fun c d H => W c d σ H) := q2
    refine ⟨Or.inl ⟨rfl, _, Or.inl (Or.inl (g2.sub _ _ h))⟩, ?_⟩
    refine he dp σ env K2 H2 s2 (hE.mono g2.kk) g2.sub hd2 _ (Post.bind hd2 q3 fun w y K3 H3 s3 g3 hd3 r3 q4 => ?_)
    have q5 : Post X.K dp K3 H3 ((if okCnt ds y = true then pure (.int ((pyOfs ds).countP fun z => PyData.eqv z (pyOf y) : Nat)) else stuck : M D) s3) Q (fun c d H => W c d σ H) := q4
    by_cases hz : okCnt ds y = true
    · rw [if_pos hz] at q5
      unfold okCnt at hz
      simp only [Bool.and_eq_true, decide_eq_true_eq] at hz
      obtain ⟨h1, h2, h3, h4, h5⟩ := hz
      exact ⟨a, w, _, vs, _, rfl, rfl, .inl (.inl (g3.sub _ _ (g3.kk _ _ h))), dps_of g3.sub (rs.mono g3.kk) h1, dp_of g3.sub r3 h2, h3, h4, h5, post_ok q5 g3.sub hd3 (.int _)⟩
    · rw [if_neg hz] at q5
      exact q5.elim
  | _ => exact q2.elim
def E.star (a : EM) (r : EA) : EA := fun env => a env >>= fun x => items x >>= fun ds => r env >>= fun xs => pure (ds ++ xs)
theorem ea_star {e : Expr} {p : Pos} {es : List Expr} {m : EM} {r : EA} (h : EvX X W e m) (hr : EvA X W es r) (hs : starEach (.Starred e p :: es) X.env = (true, eval e X.env) :: starEach es X.env := by rfl) : EvA X W (.Starred e p :: es) (E.star m r) := fun dp σ env K H s hE he hd Q q => by
  refine semA_of (_root_.StX.pa_star (te := sem X e) (t := semA X es) pe_sem pa_sem hs) ?_
  refine h dp σ env K H s hE he hd _ (Post.bindL hd q fun v d K2 H2 s2 g2 hd2 r2 q2 => ?_)
  have fin : ∀ (a : Addr) (vs : List V) (ds : List D), v = .ref a → (SqT X.K H2 a vs ∨ SqL X.K H2 a vs) → Reps X.K K2 vs ds → PostL X.K dp K2 H2 ((r env >>= fun xs => pure (ds ++ xs)) s2) Q (fun c d H => W c d σ H) → ∃ p xs, v = V.ref p ∧ (SqT X.K H2 p xs ∨ SqL X.K H2 p xs) ∧ semA X es σ H2 fun ys H3 => Q (xs ++ ys) H3 := fun a vs ds ev hs rs q2 => by
    refine ⟨a, vs, ev, hs, ?_⟩
    refine hr dp σ env K2 H2 s2 (hE.mono g2.kk) g2.sub hd2 _ (PostL.bindL hd2 q2 fun ws es K3 H3 s3 g3 hd3 r3 q3 => ?_)
    exact q3 (vs ++ ws) K3 H3 (Gr.rfl' g3.sub) hd3 ((rs.mono g3.kk).app r3)
  cases r2 with
  | @tup a vs ds h rs => exact fin a vs ds rfl (.inl (tupN_mono g2.sub h).sqT) rs q2
  | @lst a vs ds h rs => exact fin a vs ds rfl (.inr (.inl (.inl (g2.sub _ _ h)))) rs q2
  | @lsk a vs ds h rs => exact fin a vs ds rfl (.inr (sqL_mono g2.sub h)) rs q2
  | _ => exact q2.elim
def downD (i : Int) (n : Nat) : List D := (List.range n).map fun k => .int (i + (k : Nat) * (-1))
def RgDn (i j : Int) : Prop := -(2 ^ 62) ≤ i ∧ i < 2 ^ 62 ∧ -(2 ^ 62) ≤ j ∧ j < 2 ^ 62
instance (i j : Int) : Decidable (RgDn i j) := by unfold RgDn; exact inferInstance
def rngDn (xs : List D) : M (List D) := match xs with
  | [.int i, .int j, .int c] => if RgDn i j ∧ c = -1 then pure (downD i (i - j).toNat) else stuck
  | _ => stuck
def E.rng3 (a : EA) : EL := fun env => a env >>= rngDn
theorem yields_dn {F : Fg} {K : Hp} {i : Int} {n : Nat} : Yields F (Itc i (-1) n) K (downD i n) where
  stop := fun H _ => by
    show n ≤ (downD i n).length
    simp [downD]
  go := fun k H h _ => by
    show k < n
    simpa [downD] using h
  yld := fun k H x H' K1 h hk e y => by
    obtain ⟨rfl, rfl⟩ := y
    have h : k < n := by simpa [downD] using h
    exact ⟨K1, .int (i + (k : Nat) * (-1)), ⟨Ex.rfl' K1, e, fun _ _ => rfl, fun _ _ z _ => z⟩, by simp [downD, h], .int _⟩
theorem i_rng3 {tg a b c : Expr} {p pos : Pos} {ma : EA} (hg : Gl X "range") (hm : X.mg "range" = none) (ha : EvA X W [a, b, c] ma)
    (hs : starEach [a, b, c] X.env = (false, eval a X.env) :: starEach [b, c] X.env := by rfl) (hpl : (backTo pos (starEach [b, c] X.env)).any (·.1) = false := by rfl) : EvI X W tg (.Call (.Name "range" p) [a, b, c] [] pos) (E.rng3 ma) := fun dp σ env K H s hE he hd R q pins sh I => by
  refine (pi_range3 (tg := tg) (ta := semA X [a, b, c]) hg hm pa_sem hs hpl).run pins sh σ H R I ?_
  have key : ∀ (vs : List V) (ds : List D) (K2 H2 : Hp) (s2 : DS), Gr dp K H K2 H2 → DealOk dp K2 H2 s2 → Reps X.K K2 vs ds → PostJ X.K dp K2 H2 (rngDn ds s2) R (fun c d H => W c d σ H) → ∃ (i j c : Int) (n : Nat), vs = [.int i, .int j, .int c] ∧ RgC i j c n ∧ R (Itc i c n) H2 := fun vs ds K2 H2 s2 g2 hd2 r2 q2 => by
    match ds, r2, q2 with
    | [x, y, z], .cons r1 (.cons r2 (.cons r3 .nil)), q2 =>
      cases r1 with
      | int i =>
        cases r2 with
        | int j =>
          cases r3 with
          | int c =>
            have q3 : PostJ X.K dp K2 H2 ((if RgDn i j ∧ c = -1 then pure (downD i (i - j).toNat) else stuck : M (List D)) s2) R (fun c d H => W c d σ H) := q2
            by_cases hz : RgDn i j ∧ c = -1
            · rw [if_pos hz] at q3
              obtain ⟨⟨h1, h2, h3, h4⟩, rfl⟩ := hz
              exact ⟨i, j, -1, _, rfl, RgC.neg h1 h2 h3 h4, q3 _ K2 H2 (Gr.rfl' g2.sub) hd2 yields_dn⟩
            · rw [if_neg hz] at q3
              exact q3.elim
          | _ => exact q2.elim
        | _ => exact q2.elim
      | _ => exact q2.elim
    | [], _, q2 => exact q2.elim
    | [_], .cons r1 .nil, q2 => cases r1 <;> exact q2.elim
    | [_, _], .cons r1 (.cons r2 .nil), q2 => cases r1 <;> first | exact q2.elim | (cases r2 <;> exact q2.elim)
    | _ :: _ :: _ :: _ :: _, .cons r1 (.cons r2 (.cons r3 _)), q2 => cases r1 <;> first | exact q2.elim | (cases r2 <;> first | exact q2.elim | (cases r3 <;> exact q2.elim))
  refine ha dp σ env K H s hE he hd _ ?_
  have q' : PostJ X.K dp K H (M.bind (ma env) rngDn s) R (fun c d H => W c d σ H) := q
  unfold M.bind at q'
  cases hm : ma env s with
  | stuck => rw [hm] at q'; exact q'
  | exc c fs s' => rw [hm] at q'; exact q'
  | ok xs s' =>
    rw [hm] at q'
    have q' : PostJ X.K dp K H (rngDn xs s') R (fun c d H => W c d σ H) := q'
    intro vs K2 H2 g2 hd2 r2
    refine key vs xs K2 H2 s' g2 hd2 r2 ?_
    cases hr : rngDn xs s' with
    | stuck => rw [hr] at q'; exact q'
    | exc c fs s2 =>
      rw [hr] at q'
      exact fun dx gs K3 H3 g3 hd3 h1 h2 => (show ∀ dx gs K2 H2, Gr dp K H K2 H2 → DealOk dp K2 H2 s2 → K2 dx = some (.xd gs) → RepF X.K K2 gs fs → W (.ref (He.ga X.K c)) (some dx) σ H2 from q') dx gs K3 H3 (Gr.trans hd g2 hd2 g3) hd3 h1 h2
    | ok ds s2 =>
      rw [hr] at q'
      exact fun J K3 H3 g3 hd3 ys => (show ∀ J K2 H2, Gr dp K H K2 H2 → DealOk dp K2 H2 s2 → Yields X.K J K2 ds → R J H2 from q') J K3 H3 (Gr.trans hd g2 hd2 g3) hd3 ys
def zipD (a b : List D) : List D := (a.zip b).map fun p => .tup [p.1, p.2]
def zipI (xs : List D) : M (List D) := match xs with
  | [.lst a, .lst b] => pure (zipD a b)
  | _ => stuck
def E.zip (a : EA) : EL := fun env => a env >>= zipI
def Itzf (K : Fg) (a b : Addr) : It :=
  ⟨fun i H => ∃ (l m : List V) (x y : V), SqL K H a l ∧ SqL K H b m ∧ l[i]? = some x ∧ m[i]? = some y,
   fun i H v H' => ∃ T x y, ∃ o : Obj, v = .ref T ∧ H T = none ∧ o.dict = none ∧ H' = upd H T (.frz o (.tup [x, y])) ∧ (∀ l, SqL K H a l → l[i]? = some x) ∧ ∀ m, SqL K H b m → m[i]? = some y,
   fun i H => ∃ l m : List V, SqL K H a l ∧ SqL K H b m ∧ (l.length ≤ i ∨ m.length ≤ i)⟩
theorem turn_zf {P : Program} {w : World} {K : Fg} {es : List Expr} {n : Nat} {tp : Pos} {a b z TI TO i1 i2 : Addr} (ap : ZipApart z TI TO i1 i2 a b) :
    Turn P w K (.Tuple es n tp) (Itzf K a b) [z, TI, TO, i1, i2] z (fun i h => IsZip h z TI TO .none ∧ IsPair h TI (.ref i1) (.ref i2) ∧ (∃ x y, IsPair h TO x y) ∧ h.IsListIter i1 a i ∧ h.IsListIter i2 b i) where
  mem := (turn_zip (P := P) (w := w) (K := K) (elts := es) (kk := n) (tpos := tp) ap).mem
  obj := (turn_zip (P := P) (w := w) (K := K) (elts := es) (kk := n) (tpos := tp) ap).obj
  keep := (turn_zip (P := P) (w := w) (K := K) (elts := es) (kk := n) (tpos := tp) ap).keep
  item := by
    intro X hP hw hK hc i pins s σ H EE inv fr st go
    subst hP hw hK
    obtain ⟨zz, zI, ⟨x0, y0, zO⟩, j1, j2⟩ := st
    obtain ⟨l, m, x, y, ql, qm, ex, ey⟩ := go
    obtain ⟨its, rv, pl, _⟩ := inv.list ql
    obtain ⟨jts, rw', pm, _⟩ := inv.list qm
    obtain ⟨u, hu, ru⟩ := rv.get ex
    obtain ⟨t, ht, rt⟩ := rw'.get ey
    have zl := Heap.lt_size zz
    refine wpAny_pyNext_zip_item ap zz zI zO j1 j2 pl.isList pm.isList (x := u) (y := t) (by simpa using hu) (by simpa using ht) fun h' z' TO' k1 k2 hT hsz hk => ?_
    refine ⟨_, rfl, wpAny_letOwnedTupleGo_zip (s := { s with heap := h' }) z' fun h2 z2 sb => ?_⟩
    have at_ : h2.get? s.heap.objs.size = some { cls := .type "tuple", data := .seq #[u, t] } := (sb.2 _ (Nat.ne_of_gt zl)).trans hT
    have ok : ObjOk X.prog X.w (upd H s.heap.objs.size (.frz { cls := .type "tuple", data := .seq #[u, t] } (.tup [x, y]))) h2 s.heap.objs.size (.frz { cls := .type "tuple", data := .seq #[u, t] } (.tup [x, y])) :=
      ⟨at_, by show 2 ≤ sizeLine; decide, [u, t], .cons ru (.cons rt .nil), ⟨_, at_, rfl, _, rfl⟩⟩
    have inv2 := inv.turnedNew (t' := s.toks) (ch := [z, TI, TO, i1, i2]) (fun c o hb q => (sb.2 c (fun e => hb (by simp [e]))).trans (hk c o (fun e => hb (by simp [e])) (fun e => hb (by simp [e])) (fun e => hb (by simp [e])) (fun e => hb (by simp [e])) q)) fr (Nat.le_refl _) ok
    refine ⟨.ref s.heap.objs.size, _, inv2, rfl, ⟨_, x, y, _, rfl, inv.hok.fresh (Nat.le_refl _), rfl, rfl, fun l' hl => by rw [inv.list_inj hl ql]; exact ex, fun l' hl => by rw [inv.list_inj hl qm]; exact ey⟩, ⟨z2, ?_, ⟨u, t, ?_⟩, ?_, ?_⟩, fun c hcm => ?_⟩
    · exact (sb.2 _ ap.TIz).trans (hk _ _ ap.TIz ap.TITO ap.TIi1 ap.TIi2 zI)
    · exact (sb.2 _ ap.TOz).trans TO'
    · exact k1.at fun o q => (sb.2 _ ap.i1z).trans q
    · exact k2.at fun o q => (sb.2 _ ap.i2z).trans q
    · have lt : c < s.heap.objs.size := by
        simp only [List.mem_cons, List.not_mem_nil, or_false] at hcm
        rcases hcm with e | e | e | e | e
        · rw [e]; exact zl
        · rw [e]; exact Heap.lt_size zI
        · rw [e]; exact Heap.lt_size zO
        · obtain ⟨_, f, _⟩ := j1
          rw [e]; exact Heap.lt_size f
        · obtain ⟨_, f, _⟩ := j2
          rw [e]; exact Heap.lt_size f
      rw [upd_ne (Nat.ne_of_lt lt)]
      exact (fr c hcm).1
  done := (turn_zip (P := P) (w := w) (K := K) (elts := es) (kk := n) (tpos := tp) ap).done
  self := (turn_zip (P := P) (w := w) (K := K) (elts := es) (kk := n) (tpos := tp) ap).self
end
end T
end
section
set_option Elab.async false
set_option linter.all false
set_option maxRecDepth 100000
set_option maxHeartbeats 1000000
namespace T
open PySem PySem.Spec PyProof.Rows L2
section
variable {X : Cx} {W : WX}
def iZf (K : Fg) (ta : TA) : TI := fun σ H R => ta σ H fun vs H1 => ∃ a b l m, vs = [.ref a, .ref b] ∧ SqL K H1 a l ∧ SqL K H1 b m ∧ R (Itzf K a b) H1
theorem pi_zf {X : Cx} {a b : Expr} {ta : TA} {p pos tp : Pos} {es : List Expr} {n : Nat} (hg : Gl X "zip") (hm : X.mg "zip" = none) (ha : PA X [a, b] ta) (s1 : starEach [a, b] X.env = (false, eval a X.env) :: starEach [b] X.env := by rfl) (s2 : (backTo pos (starEach [b] X.env)).any (·.1) = false := by rfl) :
    PI X (.Tuple es n tp) (.Call (.Name "zip" p) [a, b] [] pos) (iZf X.K ta) := ⟨fun pins s σ H R inv h => by
  refine Call_ (ld_blt inv hg hm PyProof.Rows.boot_zip (PyProof.Rows.callWith_type1 (thn (ha.run pos pins s σ H _ inv h) fun us t ⟨vs, H1, i1, r1, q1⟩ => ?_) s1 s2))
  obtain ⟨a, b, l, m, e, ql, qm, q⟩ := q1
  subst e
  cases r1 with
  | cons ru rr =>
   cases rr with
   | cons rv r0 =>
    cases r0
    cases ru
    cases rv
    obtain ⟨its, _, pl, _⟩ := i1.list ql
    obtain ⟨jts, _, pm, _⟩ := i1.list qm
    refine call_zip_2 pl.isList pm.isList fun h' hz hTI hTO h1 h2 hsz hk => wpAny_pyIter_zip hz ?_
    have i2 : Inv X pins σ H1 { t with heap := h' } := i1.kept (t' := t.toks) hk
    refine ⟨t.heap.objs.size + 4, [t.heap.objs.size + 4, t.heap.objs.size + 2, t.heap.objs.size + 3, t.heap.objs.size, t.heap.objs.size + 1], _, _, H1, rfl, i2, turn_zf (PySem.W.ktu_apart t.heap.objs.size a b pl.lt pm.lt), ⟨hz, hTI, ⟨_, _, hTO⟩, h1, h2⟩, fun c hc => ?_, q⟩
    have le : t.heap.objs.size ≤ c := by
      have z : c = t.heap.objs.size + 4 ∨ c = t.heap.objs.size + 2 ∨ c = t.heap.objs.size + 3 ∨ c = t.heap.objs.size ∨ c = t.heap.objs.size + 1 := by simpa using hc
      rcases z with z | z | z | z | z <;> rw [z] <;> first | exact Nat.le_add_right _ _ | exact Nat.le_refl _
    exact i1.fpOk le (i1.hok.fresh le)⟩
theorem zipD_len (a b : List D) : (zipD a b).length = min a.length b.length := by simp [zipD]
theorem yields_zf {F : Fg} {K : Hp} {a b : Addr} {l m : List V} {ds es : List D} (h1 : SqL F K a l) (h2 : SqL F K b m) (r1 : Reps F K l ds) (r2 : Reps F K m es) : Yields F (Itzf F a b) K (zipD ds es) where
  stop := fun H e => ⟨l, m, sqL_mono e h1, sqL_mono e h2, by rw [zipD_len, ← r1.len, ← r2.len]; omega⟩
  go := fun i H hi e => by
    rw [zipD_len, ← r1.len, ← r2.len] at hi
    exact ⟨l, m, l[i], m[i], sqL_mono e h1, sqL_mono e h2, List.getElem?_eq_getElem (by omega), List.getElem?_eq_getElem (by omega)⟩
  yld := fun i H x H' K1 hi e1 e2 y => by
    obtain ⟨T, u, v, o, rfl, hT, hdo, rfl, f1, f2⟩ := y
    have g1 := f1 l (sqL_mono (Ex.tr e1 e2) h1)
    have g2 := f2 m (sqL_mono (Ex.tr e1 e2) h2)
    obtain ⟨d, d1, d2⟩ := r1.getV g1
    obtain ⟨e, e3, e4⟩ := r2.getV g2
    have g : Gr dp0 K1 H (upd K1 T (.frz o (.tup [u, v]))) (upd H T (.frz o (.tup [u, v]))) := Gr.add e2 hT
    refine ⟨_, .tup [d, e], g, ?_, .tup (.inl ⟨o, upd_same, hdo⟩) (.cons ((d2.mono e1).mono g.kk) (.cons ((e4.mono e1).mono g.kk) .nil))⟩
    rw [zipD_len] at hi
    unfold zipD
    rw [List.getElem?_map, (List.getElem?_zip_eq_some (z := (d, e))).mpr ⟨d1, e3⟩]
    rfl
theorem i_zip {a b : Expr} {p pos tp : Pos} {es : List Expr} {n : Nat} {ma : EA} (hg : Gl X "zip") (hm : X.mg "zip" = none) (ha : EvA X W [a, b] ma) (s1 : starEach [a, b] X.env = (false, eval a X.env) :: starEach [b] X.env := by rfl) (s2 : (backTo pos (starEach [b] X.env)).any (·.1) = false := by rfl) :
    EvI X W (.Tuple es n tp) (.Call (.Name "zip" p) [a, b] [] pos) (E.zip ma) := fun dp σ env K H s hE he hd R q pins sh I => by
  refine (pi_zf (ta := semA X [a, b]) hg hm pa_sem s1 s2).run pins sh σ H R I ?_
  refine ha dp σ env K H s hE he hd _ ?_
  have q' : PostJ X.K dp K H (M.bind (ma env) zipI s) R (fun c d H => W c d σ H) := q
  unfold M.bind at q'
  cases hm : ma env s with
  | stuck => rw [hm] at q'; exact q'
  | exc c fs s' => rw [hm] at q'; exact q'
  | ok xs s' =>
    rw [hm] at q'
    have q' : PostJ X.K dp K H (zipI xs s') R (fun c d H => W c d σ H) := q'
    intro vs K2 H2 g2 hd2 r2
    match xs, r2, q' with
    | [x, y], .cons r1 (.cons r2 .nil), q' =>
      cases r1 with
      | @lst a l ds h1 rs1 =>
        cases r2 with
        | @lst b m es h2 rs2 =>
          have q2 : ∀ J K2 H2, Gr dp K H K2 H2 → DealOk dp K2 H2 s' → Yields X.K J K2 (zipD ds es) → R J H2 := q'
          exact ⟨a, b, l, m, rfl, .inl (.inl (g2.sub _ _ h1)), .inl (.inl (g2.sub _ _ h2)), q2 _ K2 H2 g2 hd2 (yields_zf (.inl (.inl h1)) (.inl (.inl h2)) rs1 rs2)⟩
        | _ => exact q'.elim
      | _ => exact q'.elim
    | [], _, q' => exact q'.elim
    | [_], .cons r1 .nil, q' => cases r1 <;> exact q'.elim
    | _ :: _ :: _ :: _, .cons r1 (.cons r2 _), q' => cases r1 <;> first | exact q'.elim | (cases r2 <;> exact q'.elim)
end
end T
end
section
set_option Elab.async false
set_option linter.all false
set_option maxRecDepth 100000
set_option maxHeartbeats 1000000
namespace T
open PySem PySem.Spec PyProof.Rows L2 HT
section
variable {prog : Program} {w : World} {A : Around} {E : Value → Shared → Prop} {s : Shared}
theorem adj_rev (n : Nat) : Builtin.Slice.sliceAdjust none none (-1) (n : Int) = ((n : Int) - 1, -1) := by
  unfold Builtin.Slice.sliceAdjust
  rfl
theorem places_rev (n : Nat) : Builtin.Slice.slicePlaces ((n : Int) - 1) (-1) (-1) = n := by
  unfold Builtin.Slice.slicePlaces
  rw [if_neg (by decide)]
  split
  · rename_i hz
    rw [show (- -1 : Int) = 1 from rfl, Int.ediv_one]
    omega
  · rename_i hz
    omega
theorem sliceApplied_back {sl : Addr} {vl vu vs : Value} {n : Nat} {Q : Int × Int × Nat → Shared → Prop} (hs : s.heap.IsSliceOf sl vl vu vs) (pl : IsPart vl none) (pu : IsPart vu none) (ps : IsPart vs (some (-1)))
    (h : Q ((n : Int) - 1, -1, n) s) : wpAny (model prog w) A (Builtin.Slice.sliceApplied (.ref sl) (pure (n : Int))) Q E s := by
  obtain ⟨o, ho, hc, hd⟩ := id hs
  unfold Builtin.Slice.sliceApplied Builtin.Slice.sliceFields
  refine wpAny_bind (wpAny_bind (wpAny_field ho hd (x := vl) rfl (wpAny_bind (wpAny_field ho hd (x := vu) rfl (wpAny_bind (wpAny_field ho hd (x := vs) rfl (wpAny_pure ?_)))))))
  refine wpAny_bind (slicePart_ ps ?_)
  show wpAny _ _ (if ((-1 : Int) == 0) = true then _ else _) _ _ s
  rw [if_neg (by decide)]
  refine wpAny_bind (slicePart_ pl (wpAny_bind (slicePart_ pu (wpAny_bind (wpAny_pure ?_)))))
  show wpAny _ _ (match Builtin.Slice.sliceAdjust none none (-1) (n : Int) with | (lo, hi) => pure (lo, (-1 : Int), Builtin.Slice.slicePlaces lo hi (-1))) _ _ s
  rw [adj_rev n]
  show wpAny _ _ (pure ((n : Int) - 1, (-1 : Int), Builtin.Slice.slicePlaces ((n : Int) - 1) (-1) (-1))) _ _ s
  rw [places_rev]
  exact wpAny_pure h
theorem fm_congr {α β : Type} {f g : α → Option β} : ∀ {l : List α}, (∀ x ∈ l, f x = g x) → l.filterMap f = l.filterMap g
  | [], _ => rfl
  | x :: l, h => by
    have ih := fm_congr (l := l) (f := f) (g := g) fun y hy => h y (by simp [hy])
    rw [List.filterMap_cons, List.filterMap_cons, h x (by simp), ih]
theorem pick_back (xs : Array Value) : ((List.range xs.size).filterMap fun (m : Nat) => xs[(((xs.size : Nat) : Int) - 1 + (m : Int) * (-1)).toNat]?).toArray = xs.toList.reverse.toArray := by
  congr 1
  have key : ∀ (l : List Value), (List.range l.length).filterMap (fun (m : Nat) => l[((l.length : Int) - 1 + (m : Int) * (-1)).toNat]?) = l.reverse := by
    intro l
    have e : ∀ m ∈ List.range l.length, l[((l.length : Int) - 1 + (m : Int) * (-1)).toNat]? = l.reverse[m]? := by
      intro m hm
      have := List.mem_range.mp hm
      rw [List.getElem?_reverse this]
      congr 1
      omega
    have e2 : (List.range l.length).filterMap (fun (m : Nat) => l[((l.length : Int) - 1 + (m : Int) * (-1)).toNat]?) = (List.range l.length).filterMap (fun m => l.reverse[m]?) := fm_congr e
    rw [e2]
    have e3 : ∀ (r : List Value), (List.range r.length).filterMap (fun m => r[m]?) = r := by
      intro r
      induction r with
      | nil => rfl
      | cons x t ih =>
        rw [List.length_cons, List.range_succ_eq_map, List.filterMap_cons]
        show x :: _ = _
        rw [List.filterMap_map]
        have : ((fun m => (x :: t)[m]?) ∘ Nat.succ) = fun m => t[m]? := by
          funext m
          simp
        rw [this, ih]
    have := e3 l.reverse
    rwa [List.length_reverse] at this
  obtain ⟨l⟩ := xs
  simpa using key l
theorem getItem_tup_back {t sl : Addr} {items : Array Value} {vl vu vs : Value} {Q : Value → Shared → Prop} (ht : IsTup s.heap t items) (hs : s.heap.IsSliceOf sl vl vu vs) (pl : IsPart vl none) (pu : IsPart vu none) (ps : IsPart vs (some (-1)))
    (h : Q (.ref s.heap.objs.size) { s with heap := s.heap.push { cls := .type "tuple", data := .seq items.toList.reverse.toArray } }) (hsz : items.size ≤ sizeLine) : wpAny (model prog w) A (getItem (.ref t) (.ref sl)) Q E s := by
  have fits : sizeOk (.seq items.toList.reverse.toArray) := by
    show items.toList.reverse.toArray.size ≤ sizeLine
    rw [List.size_toArray, List.length_reverse, Array.length_toList]
    exact hsz
  obtain ⟨o, ho, hc, hd⟩ := id hs
  have isS : s.TypeIs (.ref sl) "slice" := ⟨o, ho, hc⟩
  unfold getItem
  try with_reducible refine wpAny_holding ?_
  first | refine wpAny_bind (wpAny_pure ?_) | skip
  refine wpAny_bind (wpAny_sequenceKey ht.typeIs (by decide) ?_)
  refine wpAny_bind (wpAny_callSpecial?_slot (name := Str.ofString "__getitem__") ht.typeIs PyProof.Rows.slot_tuple_getitem (wpAny_call_entry PyProof.Rows.slot_tuple_getitem ht.typeIs entry_tuple_getitem ?_ (args_tuple_getitem _ _)))
  show wpAny _ _ (Builtin.Tuple.tupleItemsOf (.ref t) >>= _) _ _ s
  refine wpAny_bind (tupleItemsOf_ ht ?_)
  refine wpAny_bind (wpAny_typeOf isS ?_)
  rw [if_pos (by decide)]
  refine wpAny_bind (sliceApplied_back hs pl pu ps ?_)
  have hno : ¬ (((((items.size : Nat) : Int) - 1) == 0 && (-1 : Int) == 1 && items.size == items.size) = true) := by
    intro q
    rw [Bool.and_eq_true, Bool.and_eq_true] at q
    exact absurd q.1.2 (by decide)
  show wpAny _ _ (if ((((items.size : Nat) : Int) - 1) == 0 && (-1 : Int) == 1 && items.size == items.size) = true then _ else _) _ _ s
  rw [if_neg hno, pick_back]
  first
    | exact wpAny_bind (m := Builtin.Tuple.tupleExact _) (wpAny_newObj_type (wpAny_pure ⟨_, rfl, wpAny_pure h⟩) fits)
    | exact wpAny_bind (m := Builtin.Tuple.tupleExact _) (wpAny_newObj_type (wpAny_bind (wpAny_pure (wpAny_pure ⟨_, rfl, wpAny_pure h⟩))) fits)
    | exact wpAny_bind (wpAny_bind (m := Builtin.Tuple.tupleExact _) (wpAny_newObj_type (wpAny_pure (wpAny_pure ⟨_, rfl, wpAny_pure h⟩)) fits))
    | exact wpAny_bind (wpAny_bind (m := Builtin.Tuple.tupleExact _) (wpAny_newObj_type (wpAny_pure ⟨_, rfl, wpAny_pure h⟩) fits))
end
def tRevT (K : Fg) (te : TE) : TE := fun σ H Q => te σ H fun x H1 => ∃ a xs, x = .ref a ∧ SqT K H1 a xs ∧ ∀ p (o : Obj), H1 p = none → o.dict = none → Q (.ref p) (upd H1 p (.frz o (.tup xs.reverse)))
section
variable {X : Cx} {W : WX}
theorem pe_revT {e : Expr} {te : TE} {k : Nat} {p1 p2 p3 pos : Pos} (he : PE X e te) : PE X (.Subscript e (.Slice none none (some (.UnaryOp .USub (.Constant (.int 1) k p1) p2)) p3) pos) (tRevT X.K te) := ⟨fun pins s σ H Q I h => by
  refine Subscript_ (thn (he.run pins s σ H _ I h) fun v t ⟨x, H1, I1, r1, q1⟩ => ?_)
  obtain ⟨a, xs, ex, hx, q⟩ := q1
  subst ex
  cases r1
  have st : PO X (some (.UnaryOp .USub (.Constant (.int 1) k p1) p2)) (tPart (tUn (rU fun i => .int (-i)) (tC (.int 1)))) := po_some (pe_un un_neg pe_int)
  refine wpAny_Slice (thn (po_none.run pins t σ H1 (fun o H2 => o = none ∧ H2 = H1) I1 ⟨rfl, rfl⟩) fun vl s2 ⟨l, H2, I2, pl, el, e2⟩ => ?_)
  subst el e2
  refine thn (po_none.run pins s2 σ H2 (fun o H3 => o = none ∧ H3 = H2) I2 ⟨rfl, rfl⟩) fun vu s3 ⟨u, H3, I3, pu, eu, e3⟩ => ?_
  subst eu e3
  refine thn (st.run pins s3 σ H3 (fun o H4 => o = some (-1) ∧ H4 = H3) I3 ⟨1, rfl, -1, rfl, rfl, rfl⟩) fun vs s4 ⟨o, H4, I4, ps, eo, e4⟩ => ?_
  subst eo e4
  have I5 : Inv X pins σ H4 { s4 with heap := s4.heap.push { cls := .type "slice", data := .fields #[vl, vu, vs] } } := I4.kept (t' := s4.toks) fun b ob q => Heap.get?_push_of_some _ q
  obtain ⟨its, r, ht, hz⟩ := I5.tuple hx
  show wpAny (model X.prog X.w) X.A (subscriptTail e (.Slice none none (some (.UnaryOp .USub (.Constant (.int 1) k p1) p2)) p3) (.ref a) (.ref s4.heap.objs.size)) (EP X pins σ Q) X.xe _
  refine tail_any (ops := [.ref a, .ref s4.heap.objs.size]) ht.typeIs (PyProof.Rows.slot_tuple_getitem.lookup) ?_ (by with_unfolding_all rfl)
  refine getItem_tup_back ht (Heap.IsSliceOf.new _ vl vu vs) pl pu ps ?_ (by rw [List.size_toArray, ← r.length]; exact hz)
  exact Inv.laidN I5 r.reverse (by rw [List.length_reverse]; exact hz) q⟩
def dRevT : D → M D
  | .tup xs => pure (.tup xs.reverse)
  | _ => stuck
theorem e_revT {a : Expr} {k : Nat} {p1 p2 p3 pos : Pos} {ma : EM} (ha : EvX X W a ma) : EvX X W (.Subscript a (.Slice none none (some (.UnaryOp .USub (.Constant (.int 1) k p1) p2)) p3) pos) (E.op1 dRevT ma) := fun dp σ env K H s hE he hd Q q => by
  refine sem_of (pe_revT (te := sem X a) pe_sem) ?_
  refine ha dp σ env K H s hE he hd _ (Post.bind hd q fun v d K2 H2 s2 g2 hd2 r2 q2 => ?_)
  cases r2 with
  | @tup b vs ds h0 rs => exact ⟨b, vs, rfl, (tupN_mono g2.sub h0).sqT, fun p o hp ho => post_new q2 g2.sub hd2 hp (rep_tup (dp := dp0) ho g2.sub hp rs.rev)⟩
  | _ => exact q2.elim
end
end T
end
section
set_option Elab.async false
set_option linter.all false
set_option maxRecDepth 100000
set_option maxHeartbeats 2000000
namespace T
open PySem PySem.Spec PyProof.Rows L2
section
variable {X : Cx} {W : WX}
theorem lc_in {J : It} {g : TG} {tt : TT} {te : TE} {vs : List Nat} {t : Tg} {tst : ET} {elt : EM} {dp : DP} {σ : Sg} {env : Env} {K1 H1 : Hp} {s1 : DS} {ds : List D} {Q : VK} {EE : XK} {L : Addr}
    (hsl : ∀ j ∈ t.slots, j ∈ vs) (hg : g = t.g X.K) (e1 : Ex K1 H1) (hd1 : DealOk dp K1 H1 s1) (hL : H1 L = none)
    {K0 H0 : Hp} {s0 : DS} {acc0 : List V} {accD0 : List D} {k : List D → M D} {Fin : Hp → Prop} (hE : RelE X.K σ env K0) (g0 : Gr dp K1 H1 K0 H0) (hd0 : DealOk dp K0 H0 s0) (hL0 : H0 L = some (.lst acc0)) (hk0 : K0 L = none) (hr0 : Reps X.K K0 acc0 accD0) (hy : Yields X.K J K0 ds)
    (ht : ∀ dp σ env K H s, RelE X.K σ env K → Ex K H → DealOk dp K H s → ∀ Q, PostB X.K dp K H (tst env s) Q (fun _ _ _ => False) → tt σ H Q)
    (hel : ∀ dp σ env K H s, RelE X.K σ env K → Ex K H → DealOk dp K H s → ∀ Q, Post X.K dp K H (elt env s) Q (fun _ _ _ => False) → te σ H Q)
    (q : PostFr X.K dp K1 H1 ((lcM (wipeE env vs) t tst elt ds accD0 >>= k) s0) Q EE)
    (fin : ∀ K s acc accD H, Gr dp K1 H1 K H → Ex K0 K → DealOk dp K H s → H L = some (.lst acc) → K L = none → Reps X.K K acc accD → PostFr X.K dp K1 H1 (k accD s) Q EE → Fin H) :
    ∃ W : Nat → Nat → Hp → Prop, (∃ m, W 0 m H0) ∧ ∀ i m H, W i m H →
      (J.stop i H ∧ Fin H) ∨ (J.go i H ∧ ∃ Nx : Hp → Prop, (∀ H', Nx H' → ∃ m', m' < m ∧ W (i + 1) m' H') ∧ ∀ x H', J.yld i H x H' → g x (wipe σ vs) H' fun σ2 H2 => wipe σ2 vs = wipe σ vs ∧ tt σ2 H2 fun b H3 =>
        if b = true then te σ2 H3 fun y H4 => ∃ acc, H4 L = some (.lst acc) ∧ acc.length < sizeLine ∧ Nx (upd H4 L (.lst (acc ++ [y]))) else Nx H3) := by
  subst hg
  -- L is not the deal's
  have nL : NotDeal dp L := fun p q' hp => by
    obtain ⟨⟨a1, a2⟩, _⟩ := hd1.2 p q' hp
    refine ⟨fun z => ?_, fun z => ?_⟩
    · rw [z, a1] at hL
      cases hL
    · rw [z, a2] at hL
      cases hL
  let S : Nat → Hp → Prop := fun i H => ∃ (K3 : Hp) (s3 : DS) (acc : List V) (accD : List D), Gr dp K1 H1 K3 H ∧ Ex K0 K3 ∧ DealOk dp K3 H s3 ∧ H L = some (.lst acc) ∧ K3 L = none ∧ Reps X.K K3 acc accD ∧
    PostFr X.K dp K1 H1 ((lcM (wipeE env vs) t tst elt (ds.drop i) accD >>= k) s3) Q EE
  refine ⟨fun i m H => m = ds.length - i ∧ i ≤ ds.length ∧ S i H, ⟨ds.length, by simp, Nat.zero_le _, K0, s0, acc0, accD0, g0, Ex.rfl' K0, hd0, hL0, hk0, hr0, q⟩, ?_⟩
  rintro i m H ⟨rfl, hi, K3, s3, acc, accD, g3, eK, hd3, hLH, hLK, hr, hq⟩
  by_cases hlt : i < ds.length
  · refine .inr ⟨hy.go i H hlt (Ex.tr eK g3.sub), S (i + 1), fun H' p => ⟨ds.length - (i + 1), by omega, rfl, hlt, p⟩, fun x H' hyl => ?_⟩
    obtain ⟨K4, d, g4, hd, hrx⟩ := hy.yld i H x H' K3 hlt eK g3.sub hyl
    have g4' : Gr dp K3 H K4 H' := ⟨g4.kk, g4.sub, g4.new, fun a o h _ => g4.fr a o h (fun _ _ z => by cases z)⟩
    have hd4 : DealOk dp K4 H' s3 := g4'.deal hd3 (fun a o h => g4.fr a o h (fun _ _ z => by cases z))
    have edrop : ds.drop i = d :: ds.drop (i + 1) := by
      rw [List.drop_eq_getElem_cons hlt]
      congr
      rw [List.getElem?_eq_getElem hlt] at hd
      exact Option.some.inj hd
    rw [edrop] at hq
    cases hb : t.bind d with
    | none =>
      have z : lcM (wipeE env vs) t tst elt (d :: ds.drop (i + 1)) accD = stuck := by show (match t.bind d with | none => stuck | some l => _) = stuck; rw [hb]
      rw [z] at hq
      exact hq.elim
    | some l =>
      have z : lcM (wipeE env vs) t tst elt (d :: ds.drop (i + 1)) accD = (noExc (tst (setE (wipeE env vs) l)) >>= fun b => if b = true then (noExc (elt (setE (wipeE env vs) l)) >>= fun y => if accD.length < sizeLine then lcM (wipeE env vs) t tst elt (ds.drop (i + 1)) (accD ++ [y]) else stuck) else lcM (wipeE env vs) t tst elt (ds.drop (i + 1)) accD) := by
        show (match t.bind d with | none => stuck | some l => _) = _
        rw [hb]
      rw [z] at hq
      have hLH' : H' L = some (.lst acc) := g4.fr L _ hLH (fun _ _ z => by cases z)
      have hLK4 : K4 L = none := by rw [g4.new L (by rw [hLH]; simp)]; exact hLK
      refine t.ok (K := K4) (l := l) g4.sub hrx hb fun lv hlv => ?_
      refine ⟨wipe_set fun j hj => hsl j (bind_slots t hb j (by rw [← repN_fst hlv]; exact hj)), ?_⟩
      have hE4 : RelE X.K (setV (wipe σ vs) lv) (setE (wipeE env vs) l) K4 := RelE.sets ((hE.mono (Ex.tr eK g4.kk)).wipe vs) hlv
      -- the test
      have as1 : ∀ (m : M Bool) (f : Bool → M (List D)), ((m >>= f) >>= k) = (m >>= fun b => f b >>= k) := fun m f => by
        funext s
        show M.bind (M.bind m f) _ s = M.bind m _ s
        unfold M.bind
        cases m s <;> rfl
      rw [as1] at hq
      obtain ⟨b, s5, eb', q5⟩ := PostFr.casesN hq
      refine ht dp _ _ K4 H' s3 hE4 g4.sub hd4 _ ?_
      rw [eb']
      intro K5 H5 g5 hd5
      have hLH5 : H5 L = some (.lst acc) := g5.fr L _ hLH' nL
      have hLK5 : K5 L = none := by rw [g5.new L (by rw [hLH']; simp)]; exact hLK4
      have G5 : Gr dp K1 H1 K5 H5 := Gr.trans hd1 g3 hd3 (Gr.trans hd3 g4' hd4 g5)
      cases b with
      | false => exact ⟨K5, s5, acc, accD, G5, Ex.tr eK (Ex.tr g4.kk g5.kk), hd5, hLH5, hLK5, hr.mono (Ex.tr g4.kk g5.kk), q5⟩
      | true =>
        have as2 : ∀ (m : M D) (f : D → M (List D)), ((m >>= f) >>= k) = (m >>= fun b => f b >>= k) := fun m f => by
          funext s
          show M.bind (M.bind m f) _ s = M.bind m _ s
          unfold M.bind
          cases m s <;> rfl
        have q5' : PostFr X.K dp K1 H1 (((noExc (elt (setE (wipeE env vs) l)) >>= fun y => if accD.length < sizeLine then lcM (wipeE env vs) t tst elt (ds.drop (i + 1)) (accD ++ [y]) else stuck) >>= k) s5) Q EE := q5
        rw [as2] at q5'
        obtain ⟨y, s6, ey', q6⟩ := PostFr.casesN q5'
        refine hel dp _ _ K5 H5 s5 (hE4.mono g5.kk) g5.sub hd5 _ ?_
        rw [ey']
        intro v K6 H6 g6 hd6 r6
        have hLH6 : H6 L = some (.lst acc) := g6.fr L _ hLH5 nL
        have hLK6 : K6 L = none := by rw [g6.new L (by rw [hLH5]; simp)]; exact hLK5
        by_cases hz : accD.length < sizeLine
        · rw [if_pos hz] at q6
          have G6 : Gr dp K1 H1 K6 H6 := Gr.trans hd1 G5 hd5 g6
          have hr6 := hr.mono (Ex.tr (Ex.tr g4.kk g5.kk) g6.kk)
          refine ⟨acc, hLH6, by rw [hr6.len]; exact hz, K6, s6, acc ++ [v], accD ++ [y], ?_, Ex.tr eK (Ex.tr (Ex.tr g4.kk g5.kk) g6.kk), ?_, upd_same, hLK6, hr6.app (.cons r6 .nil), q6⟩
          · refine ⟨G6.kk, fun b o h => ?_, G6.new, fun a o h nd => ?_⟩
            · rw [upd_ne (ne_of_none h hLK6)]
              exact G6.sub _ _ h
            · rw [upd_ne (ne_of_none h hL)]
              exact G6.fr a o h nd
          · refine ⟨hd6.1, fun p q' hp => ?_⟩
            obtain ⟨⟨a1, a2⟩, a3, a4⟩ := hd6.2 p q' hp
            obtain ⟨n1, n2⟩ := nL p q' hp
            exact ⟨⟨by rw [upd_ne (Ne.symm n1)]; exact a1, by rw [upd_ne (Ne.symm n2)]; exact a2⟩, a3, a4⟩
        · rw [if_neg hz] at q6
          exact q6.elim
  · have e : i = ds.length := by omega
    subst e
    refine .inl ⟨hy.stop H (Ex.tr eK g3.sub), ?_⟩
    rw [List.drop_length] at hq
    exact fin K3 s3 acc accD H g3 eK hd3 hLH hLK hr hq
def lcM2 (env0 : Env) (t : Tg) (tst : ET) (src1 : EL) (vs1 : List Nat) (t1 : Tg) (tst1 : ET) (elt : EM) : List D → List D → M (List D)
  | [], acc => pure acc
  | d :: r, acc => match t.bind d with
    | none => stuck
    | some l => noExc (tst (setE env0 l)) >>= fun b => if b = true then (noExc (src1 (setE env0 l)) >>= fun ds1 => lcM (wipeE (setE env0 l) vs1) t1 tst1 elt ds1 acc >>= fun acc' => lcM2 env0 t tst src1 vs1 t1 tst1 elt r acc') else lcM2 env0 t tst src1 vs1 t1 tst1 elt r acc
def E.lc2 (vs : List Nat) (src : EL) (t : Tg) (tst : ET) (src1 : EL) (vs1 : List Nat) (t1 : Tg) (tst1 : ET) (elt : EM) : EM := fun env => src env >>= fun ds => lcM2 (wipeE env vs) t tst src1 vs1 t1 tst1 elt ds [] >>= fun out => pure (.lst out)
theorem lc2_run {J : It} {g g1 : TG} {tt tt1 : TT} {te : TE} {wi1 : TI} {vs vs1 : List Nat} {t t1 : Tg} {tst tst1 : ET} {src1 : EL} {elt : EM} {dp : DP} {σ : Sg} {env : Env} {K1 H1 : Hp} {s1 : DS} {ds : List D} {Q : VK} {EE : XK} {L : Addr}
    (hsl : ∀ j ∈ t.slots, j ∈ vs) (hsl1 : ∀ j ∈ t1.slots, j ∈ vs1) (hg : g = t.g X.K) (hg1 : g1 = t1.g X.K) (hE : RelE X.K σ env K1) (e1 : Ex K1 H1) (hd1 : DealOk dp K1 H1 s1) (hy : Yields X.K J K1 ds) (hL : H1 L = none)
    (ht : ∀ dp σ env K H s, RelE X.K σ env K → Ex K H → DealOk dp K H s → ∀ Q, PostB X.K dp K H (tst env s) Q (fun _ _ _ => False) → tt σ H Q)
    (hi1 : ∀ dp σ env K H s, RelE X.K σ env K → Ex K H → DealOk dp K H s → ∀ R, PostJ X.K dp K H (src1 env s) R (fun _ _ _ => False) → wi1 σ H R)
    (ht1 : ∀ dp σ env K H s, RelE X.K σ env K → Ex K H → DealOk dp K H s → ∀ Q, PostB X.K dp K H (tst1 env s) Q (fun _ _ _ => False) → tt1 σ H Q)
    (hel : ∀ dp σ env K H s, RelE X.K σ env K → Ex K H → DealOk dp K H s → ∀ Q, Post X.K dp K H (elt env s) Q (fun _ _ _ => False) → te σ H Q)
    (q : PostFr X.K dp K1 H1 ((lcM2 (wipeE env vs) t tst src1 vs1 t1 tst1 elt ds [] >>= fun out => pure (.lst out)) s1) Q EE) :
    ∃ W : Nat → Nat → Hp → Prop, (∃ m, W 0 m (upd H1 L (.lst []))) ∧ ∀ i m H, W i m H →
      (J.stop i H ∧ Q (.ref L) H) ∨ (J.go i H ∧ ∃ Nx : Hp → Prop, (∀ H', Nx H' → ∃ m', m' < m ∧ W (i + 1) m' H') ∧ ∀ x H', J.yld i H x H' → g x (wipe σ vs) H' fun σ2 H2 => wipe σ2 vs = wipe σ vs ∧ tt σ2 H2 fun b H3 =>
        if b = true then wi1 σ2 H3 fun J1 H4 => ∃ W1 : Nat → Nat → Hp → Prop, (∃ m, W1 0 m H4) ∧ ∀ j k H, W1 j k H →
          (J1.stop j H ∧ Nx H) ∨ (J1.go j H ∧ ∃ Nx1 : Hp → Prop, (∀ H', Nx1 H' → ∃ k', k' < k ∧ W1 (j + 1) k' H') ∧ ∀ x H', J1.yld j H x H' → g1 x (wipe σ2 vs1) H' fun σ3 H5 => wipe σ3 vs1 = wipe σ2 vs1 ∧ tt1 σ3 H5 fun b H6 =>
            if b = true then te σ3 H6 fun y H7 => ∃ acc, H7 L = some (.lst acc) ∧ acc.length < sizeLine ∧ Nx1 (upd H7 L (.lst (acc ++ [y]))) else Nx1 H6)
        else Nx H3) := by
  subst hg
  have nL : NotDeal dp L := fun p q' hp => by
    obtain ⟨⟨a1, a2⟩, _⟩ := hd1.2 p q' hp
    refine ⟨fun z => ?_, fun z => ?_⟩
    · rw [z, a1] at hL
      cases hL
    · rw [z, a2] at hL
      cases hL
  let rest : List D → List D → M D := fun r acc => lcM2 (wipeE env vs) t tst src1 vs1 t1 tst1 elt r acc >>= fun out => pure (.lst out)
  let S : Nat → Hp → Prop := fun i H => ∃ (K3 : Hp) (s3 : DS) (acc : List V) (accD : List D), Gr dp K1 H1 K3 H ∧ DealOk dp K3 H s3 ∧ H L = some (.lst acc) ∧ K3 L = none ∧ Reps X.K K3 acc accD ∧ PostFr X.K dp K1 H1 (rest (ds.drop i) accD s3) Q EE
  refine ⟨fun i m H => m = ds.length - i ∧ i ≤ ds.length ∧ S i H, ⟨ds.length, by simp, Nat.zero_le _, K1, s1, [], [], Gr.add0 e1 hL, (Gr.add0 (dp := dp) (o := .lst []) e1 hL).deal hd1 (ex_upd hL), upd_same, ex_none e1 hL, .nil, q⟩, ?_⟩
  rintro i m H ⟨rfl, hi, K3, s3, acc, accD, g3, hd3, hLH, hLK, hr, hq⟩
  have eK : Ex K1 K3 := g3.kk
  by_cases hlt : i < ds.length
  · refine .inr ⟨hy.go i H hlt (Ex.tr eK g3.sub), S (i + 1), fun H' p => ⟨ds.length - (i + 1), by omega, rfl, hlt, p⟩, fun x H' hyl => ?_⟩
    obtain ⟨K4, d, g4, hd, hrx⟩ := hy.yld i H x H' K3 hlt eK g3.sub hyl
    have g4' : Gr dp K3 H K4 H' := ⟨g4.kk, g4.sub, g4.new, fun a o h _ => g4.fr a o h (fun _ _ z => by cases z)⟩
    have hd4 : DealOk dp K4 H' s3 := g4'.deal hd3 (fun a o h => g4.fr a o h (fun _ _ z => by cases z))
    have edrop : ds.drop i = d :: ds.drop (i + 1) := by
      rw [List.drop_eq_getElem_cons hlt]
      congr
      rw [List.getElem?_eq_getElem hlt] at hd
      exact Option.some.inj hd
    rw [edrop] at hq
    have assoc : ∀ {α β : Type} (m : M α) (f : α → M β) (k : β → M D), ((m >>= f) >>= k) = (m >>= fun b => f b >>= k) := fun m f k => by
      funext s
      show M.bind (M.bind m f) _ s = M.bind m _ s
      unfold M.bind
      cases m s <;> rfl
    cases hb : t.bind d with
    | none =>
      have z : rest (d :: ds.drop (i + 1)) accD s3 = .stuck := by
        show ((match t.bind d with | none => stuck | some l => _ : M (List D)) >>= fun out => (pure (.lst out) : M D)) s3 = _
        rw [hb]
        rfl
      rw [z] at hq
      exact hq.elim
    | some l =>
      have z : rest (d :: ds.drop (i + 1)) accD = (noExc (tst (setE (wipeE env vs) l)) >>= fun b => if b = true then (noExc (src1 (setE (wipeE env vs) l)) >>= fun ds1 => lcM (wipeE (setE (wipeE env vs) l) vs1) t1 tst1 elt ds1 accD >>= fun acc' => rest (ds.drop (i + 1)) acc') else rest (ds.drop (i + 1)) accD) := by
        show ((match t.bind d with | none => stuck | some l => _ : M (List D)) >>= fun out => (pure (.lst out) : M D)) = _
        rw [hb]
        show ((noExc (tst (setE (wipeE env vs) l)) >>= fun b => if b = true then (noExc (src1 (setE (wipeE env vs) l)) >>= fun ds1 => lcM (wipeE (setE (wipeE env vs) l) vs1) t1 tst1 elt ds1 accD >>= fun acc' => lcM2 (wipeE env vs) t tst src1 vs1 t1 tst1 elt (ds.drop (i + 1)) acc') else lcM2 (wipeE env vs) t tst src1 vs1 t1 tst1 elt (ds.drop (i + 1)) accD) >>= fun out => (pure (.lst out) : M D)) = _
        rw [assoc]
        congr 1
        funext b
        cases b with
        | false => rfl
        | true =>
          show ((noExc (src1 (setE (wipeE env vs) l)) >>= _) >>= _) = (noExc (src1 (setE (wipeE env vs) l)) >>= _)
          rw [assoc]
          congr 1
          funext ds1
          rw [assoc]
      rw [z] at hq
      have hLH' : H' L = some (.lst acc) := g4.fr L _ hLH (fun _ _ z => by cases z)
      have hLK4 : K4 L = none := by rw [g4.new L (by rw [hLH]; simp)]; exact hLK
      refine t.ok (K := K4) (l := l) g4.sub hrx hb fun lv hlv => ?_
      refine ⟨wipe_set fun j hj => hsl j (bind_slots t hb j (by rw [← repN_fst hlv]; exact hj)), ?_⟩
      have hE4 : RelE X.K (setV (wipe σ vs) lv) (setE (wipeE env vs) l) K4 := RelE.sets ((hE.mono (Ex.tr eK g4.kk)).wipe vs) hlv
      obtain ⟨b, s5, eb', q5⟩ := PostFr.casesN hq
      refine ht dp _ _ K4 H' s3 hE4 g4.sub hd4 _ ?_
      rw [eb']
      intro K5 H5 g5 hd5
      have hLH5 : H5 L = some (.lst acc) := g5.fr L _ hLH' nL
      have hLK5 : K5 L = none := by rw [g5.new L (by rw [hLH']; simp)]; exact hLK4
      have G5 : Gr dp K1 H1 K5 H5 := Gr.trans hd1 g3 hd3 (Gr.trans hd3 g4' hd4 g5)
      cases b with
      | false => exact ⟨K5, s5, acc, accD, G5, hd5, hLH5, hLK5, hr.mono (Ex.tr g4.kk g5.kk), q5⟩
      | true =>
        have q5' : PostFr X.K dp K1 H1 ((noExc (src1 (setE (wipeE env vs) l)) >>= fun ds1 => lcM (wipeE (setE (wipeE env vs) l) vs1) t1 tst1 elt ds1 accD >>= fun acc' => rest (ds.drop (i + 1)) acc') s5) Q EE := q5
        obtain ⟨ds1, s6, ey', q6⟩ := PostFr.casesN q5'
        refine hi1 dp _ _ K5 H5 s5 (hE4.mono g5.kk) g5.sub hd5 _ ?_
        rw [ey']
        intro J1 K6 H6 g6 hd6 hy1
        have hLH6 : H6 L = some (.lst acc) := g6.fr L _ hLH5 nL
        have hLK6 : K6 L = none := by rw [g6.new L (by rw [hLH5]; simp)]; exact hLK5
        have G6 : Gr dp K1 H1 K6 H6 := Gr.trans hd1 G5 hd5 g6
        exact lc_in (vs := vs1) (t := t1) (tst := tst1) (elt := elt) (ds := ds1) (L := L) hsl1 hg1 e1 hd1 hL (K0 := K6) (H0 := H6) (s0 := s6) (acc0 := acc) (accD0 := accD) (k := fun acc' => rest (ds.drop (i + 1)) acc') (Fin := S (i + 1)) ((hE4.mono g5.kk).mono g6.kk) G6 hd6 hLH6 hLK6 (hr.mono (Ex.tr (Ex.tr g4.kk g5.kk) g6.kk)) hy1 ht1 hel q6
          fun K s acc accD H g e hd h1 h2 hr q => ⟨K, s, acc, accD, g, hd, h1, h2, hr, q⟩
  · have e : i = ds.length := by omega
    subst e
    refine .inl ⟨hy.stop H (Ex.tr eK g3.sub), ?_⟩
    rw [List.drop_length] at hq
    exact hq L acc K3 H g3 hd3 hL hLH hLK hr
section
variable {elt tg iter tg1 iter1 : Expr} {scope : Scope} {own : List (Str × Nat)} {pos : Pos} {src src1 : EL} {t t1 : Tg} {me : EM} {vs1 : List Nat}
def tiB (X : Cx) (scope : Scope) (tg e : Expr) : TI := fun σ H R => ∀ z, semI (Cx.bk X scope z) tg e σ H R
theorem lc2_fr (hc : X.calm = true) (hN : X.N.Nodup) (hi : EvI X W tg iter src) (ok : BlkOk X.N X.env.scope scope own) (hv : ∀ i ∈ vs1, i ∈ own.map (·.2)) (hsl : ∀ j ∈ t.slots, j ∈ own.map (·.2)) (hsl1 : ∀ j ∈ t1.slots, j ∈ vs1) (hg : ∀ z, PG (Cx.bk X scope z) tg (t.g X.K)) (hi1 : ∀ z, EvI (Cx.bk X scope z) W0 tg1 iter1 src1) (hg1 : ∀ z, PG (Cx.bk X scope z) tg1 (t1.g X.K))
    (he : ∀ z, EvX (Cx.bk X scope z) W0 elt me) (hs : ∀ x, foldedSetIterable iter X.env x = pure x := by intro _; rfl) (hs1 : ∀ env x, foldedSetIterable iter1 env x = pure x := by intro _ _; rfl) : EvFr X W (.ListComp elt [⟨tg, iter, [], 0⟩, ⟨tg1, iter1, [], 0⟩] scope pos) (E.lc2 (own.map (·.2)) src t E.yes src1 vs1 t1 E.yes me) := fun dp σ env K H s hE heK hd Q q => by
  refine sem_of (pe_lc2 (g := t.g X.K) (g1 := t1.g X.K) (wi := semI X tg iter) (wi1 := tiB X scope tg1 iter1) (tt := tYes) (tt1 := tYes) (te := teB X scope elt) (vs1 := vs1) hc hN pi_sem ok hv (fun s H C cl fp => hg (s, H, C, cl, fp)) (fun _ _ _ _ _ => pts_nil) (fun s H C cl fp => ⟨fun pins s' σ H' R I h => h (s, H, C, cl, fp) pins s' I⟩) (fun s H C cl fp => hg1 (s, H, C, cl, fp)) (fun _ _ _ _ _ => pts_nil) (fun s H C cl fp => ⟨fun pins s' σ H' Q I h => h (s, H, C, cl, fp) pins s' I⟩) hs hs1) ?_
  refine hi dp σ env K H s hE heK hd _ (PostJ.casesFr q fun ds J K2 H2 s2 g hd2 ys q2 L hL => ?_)
  exact lc2_run (tst := E.yes) (tst1 := E.yes) (elt := me) (src1 := src1) hsl hsl1 rfl rfl (hE.mono g.kk) g.sub hd2 ys hL (fun dp σ env K H s hE he hd Q q => (show ∀ K2 H2, Gr dp K H K2 H2 → DealOk dp K2 H2 s → Q true H2 from q) K H (Gr.rfl' he) hd)
    (fun dp σ env K H s hE he hd R q z => hi1 z dp σ env K H s hE he hd R q) (fun dp σ env K H s hE he hd Q q => (show ∀ K2 H2, Gr dp K H K2 H2 → DealOk dp K2 H2 s → Q true H2 from q) K H (Gr.rfl' he) hd) (fun dp σ env K H s hE heK hd Q q z => he z dp σ env K H s hE heK hd Q q) (PostFr.later hd g hd2 q2)
theorem lcM2_lst (env s d s') {env0 : Env} {tst tst1 : ET} (z : E.lc2 (own.map (·.2)) src t tst src1 vs1 t1 tst1 me env s = .ok d s') : ∃ ds, d = .lst ds := by
  have z' : M.bind (src env) (fun ds => lcM2 (wipeE env (own.map (·.2))) t tst src1 vs1 t1 tst1 me ds [] >>= fun out => (pure (.lst out) : M D)) s = .ok d s' := z
  unfold M.bind at z'
  cases h1 : src env s with
  | stuck => rw [h1] at z'; cases z'
  | exc c fs s2 => rw [h1] at z'; cases z'
  | ok ds s2 =>
    rw [h1] at z'
    have z2 : M.bind (lcM2 (wipeE env (own.map (·.2))) t tst src1 vs1 t1 tst1 me ds []) (fun out => (pure (.lst out) : M D)) s2 = .ok d s' := z'
    unfold M.bind at z2
    cases h2 : lcM2 (wipeE env (own.map (·.2))) t tst src1 vs1 t1 tst1 me ds [] s2 with
    | stuck => rw [h2] at z2; cases z2
    | exc c fs s3 => rw [h2] at z2; cases z2
    | ok out s3 => rw [h2] at z2; cases z2; exact ⟨_, rfl⟩
theorem e_lc2 {e : Expr} {tst tst1 : ET} (h : EvFr X W e (E.lc2 (own.map (·.2)) src t tst src1 vs1 t1 tst1 me)) : EvX X W e (E.lc2 (own.map (·.2)) src t tst src1 vs1 t1 tst1 me) := h.x (fun env s d s' z => lcM2_lst (own := own) env s d s' (env0 := env) z)
end
end
end T
end
section
set_option Elab.async false
set_option linter.all false
set_option maxRecDepth 100000
set_option maxHeartbeats 2000000
namespace T
open PySem PySem.Spec PyProof.Rows L2
namespace Bd
def retF (m : EM) : BM := fun env s => match m (view [] 0 env) s with
  | .ok (.lst ds) s' => .ok (.rtL ds) env s'
  | .ok _ _ => .stuck
  | .exc c fs s' => .exc c fs env s'
  | .stuck => .stuck
def outF (r : RB) : Res D := match r with
  | .ok (.rtL ds) _ s => .ok (.lst ds) s
  | .exc c fs _ s => .exc c fs s
  | _ => .stuck
def runF (n np : Nat) (mb : BM) : List D → M D := fun ds s => if ds.length = np then outF (mb (start n ds) s) else .stuck
end Bd
section
variable {X : Cx} {W : WX}
theorem st_retF {e : Expr} {pos : Pos} {m : EM} (he : EvFr X W e m) : StX X W (.Return (some e) pos) (Bd.retF m) := fun dp K0 H0 σ env K H s S Dn q => by
  refine semS_of (ps_ret (te := sem X e) pe_sem) ?_
  refine he dp σ _ K H s (relV S) S.gr.sub S.dl _ ?_
  unfold Bd.retF at q
  cases hm : m (view [] 0 env) s with
  | stuck => rw [hm] at q; exact q
  | exc c fs s' =>
    rw [hm] at q
    exact fun dx gs K2 H2 g hd h1 h2 => (show ∀ σ dx gs K2 H2, Sta X.K dp K0 H0 σ env K2 H2 s' → Ex K K2 → K2 dx = some (.xd gs) → RepF X.K K2 gs fs → W (.ref (He.ga X.K c)) (some dx) σ H2 from q) σ dx gs K2 H2 (S.step g hd) g.kk h1 h2
  | ok d s' =>
    rw [hm] at q
    cases d with
    | lst ds =>
      intro p vs K2 H2 g hd hp h2 hk rs
      have h0 : H0 p = none := by
        cases e : H0 p with
        | none => rfl
        | some o => exact absurd hp (S.there (by rw [e]; simp))
      have S2 := S.step g hd
      exact (show ∀ p vs K2 H2, Gr dp K0 H0 K2 H2 → DealOk dp K2 H2 s' → H0 p = none → K2 p = none → H2 p = some (.lst vs) → Reps X.K K2 vs ds → Dn.rt (.ref p) H2 from q) p vs K2 H2 S2.gr S2.dl h0 hk h2 rs
    | _ => exact q.elim
def spF (F : Fg) (n : Nat) (m : List D → M D) : Sp := fun vs H Q EE => vs.length = n ∧ ∃ (dp : DP) (K : Hp) (ds : List D) (s : DS), Ex K H ∧ DealOk dp K H s ∧ Reps F K vs ds ∧ PostFr F dp K H (m ds s) Q EE
theorem post_runF {F : Fg} {dp : DP} {K0 H0 : Hp} {r : RB} {Q : VK} {E : XK} (q : PostFr F dp K0 H0 (Bd.outF r) Q E) (K2 : Hp) : PostS F dp K0 H0 K2 r { nx := fun _ H' => Q .non H', rt := Q } (fun cls d _ H => E cls d H) := by
  match r, q with
  | .ok .nx env s', q => exact q.elim
  | .ok .bk env s', q => exact q.elim
  | .ok .ct env s', q => exact q.elim
  | .ok (.rt d) env s', q => exact q.elim
  | .ok (.rtD g m) env s', q => exact q.elim
  | .ok (.rtL ds) env s', q => exact fun p vs K3 H3 g hd h0 hk h2 rs => (show ∀ p vs K2 H2, Gr dp K0 H0 K2 H2 → DealOk dp K2 H2 s' → H0 p = none → H2 p = some (.lst vs) → K2 p = none → Reps F K2 vs ds → Q (.ref p) H2 from q) p vs K3 H3 g hd h0 h2 hk rs
  | .exc c fs env s', q => exact fun σ dx gs K3 H3 S _ h1 h2 => (show ∀ dx gs K2 H2, Gr dp K0 H0 K2 H2 → DealOk dp K2 H2 s' → K2 dx = some (.xd gs) → RepF F K2 gs fs → E (.ref (He.ga F c)) (some dx) H2 from q) dx gs K3 H3 S.gr S.dl h1 h2
  | .stuck, q => exact q.elim
end
section
variable {P : Program} {w : World} {K : Fg} {mg : Str → Option Value} {base : Heap} {x qual : Str} {params : Arguments} {body : List Stmt} {scope : Scope} {dvs : List V} {kws : List (Str × V)} {f : Addr} {fd : FuncData} {N ps : List Str} {k : Nat} {mb : BM}
theorem fnF_ok (F : FunD K x qual params body scope dvs kws f fd) (S : FnScope N ps scope) (hb : BodyOk P w K mg base N qual scope k body mb) : FnOk P w K mg base (L2N.CX P w) (k + 1) f fd ps (spF K ps.length (Bd.runF N.length ps.length mb)) :=
  F.ok S (fun vs H Q E h => h.1) fun cdv A outer s H vs Q E hr h => by
    refine ⟨semB (cxOf (L2N.CX P w) P w K mg base N qual scope f cdv A outer s H E) body, pss_sem, ?_⟩
    obtain ⟨hl, dp, K1, ds, s0, he, hd, r, q⟩ := h
    refine hb f cdv A outer s H E hr dp K1 H _ _ K1 H s0 (sta_start he hd r) _ ?_
    have q2 : PostFr K dp K1 H (if ds.length = ps.length then Bd.outF (mb (Bd.start N.length ds) s0) else .stuck) Q E := q
    rw [if_pos (by rw [← r.len]; exact hl)] at q2
    exact post_runF q2 K1
structure FnF (P : Program) (w : World) (K : Fg) (mg : Str → Option Value) (base : Heap) (k : Nat) (x : Str) (n : Nat) (m : List D → M D) : Prop where
  ex : ∃ (f : Addr) (fd : FuncData) (ps : List Str), FnOk P w K mg base (L2N.CX P w) k f fd ps (spF K n m) ∧ mg x = some (.ref f) ∧ PySem.W.keepIn K (.ref f) = true ∧ Binds K fd ps []
end
def E.fnF (n : Nat) (m : List D → M D) (a : EA) : EM := fun env => a env >>= fun xs => if xs.length = n then m xs else stuck
section
variable {X : Cx} {W : WX}
theorem fnF_fr {k n : Nat} {x : Str} {m : List D → M D} {e : Expr} {es : List Expr} {p pos : Pos} {ma : EA} (Fi : FnF X.prog X.w X.K X.mg X.base k x n m) (hr : Room k X.A) (tk : L2N.Takes X W) (hg : Gl X x) (ha : EvA X W (e :: es) ma)
    (hdb : (x == ("__debug__" : Str)) = false := by decide) (he : starEach (e :: es) X.env = (false, eval e X.env) :: starEach es X.env := by rfl) (hpl : (backTo pos (starEach es X.env)).any (·.1) = false := by rfl) :
    EvFr X W (.Call (.Name x p) (e :: es) [] pos) (E.fnF n m ma) := fun dp σ env K H s hE heK hd Q q pins sh I => by
  obtain ⟨f, fd, ps, F, hm, hk, hb⟩ := Fi.ex
  refine wpAny_Call_Name_kw (ld_glob I hg hm ?_ hdb)
  refine PySem.W.callWith_K (h₀ := X.base) I.ok.mod.kin hk (thn (ha dp σ env K H s hE heK hd (fun vs H2 => spF X.K n m (vs ++ []) H2 Q (WE W σ)) ?_ pos pins sh I) fun us s1 ⟨vs, H1, I1, r1, q1⟩ => ⟨I1.kIn, run_at (ds := []) F hr hb .nil (L2N.passAt tk σ) I1 r1 q1⟩) he hpl
  rcases PostFr.cases q with ⟨xs, s', e1, q2⟩ | ⟨c, fs, s', e1, q2⟩
  · rw [e1]
    intro vs K2 H2 g2 hd2 r2
    rw [List.append_nil]
    by_cases hn : xs.length = n
    · rw [if_pos hn] at q2
      exact ⟨by rw [r2.len]; exact hn, dp, K2, xs, s', g2.sub, hd2, r2, PostFr.later hd g2 hd2 q2⟩
    · rw [if_neg hn] at q2
      exact q2.elim
  · rw [e1]
    exact q2
end
end T
end
section
set_option Elab.async false
set_option linter.all false
set_option maxRecDepth 100000
set_option maxHeartbeats 2000000
namespace T
open PySem PySem.Spec PyProof.Rows L2
section
variable {X : Cx} {W : WX}
theorem st_lc2L {i : Nat} {y : Str} {py : Pos} {elt tg iter tg1 iter1 : Expr} {scope : Scope} {own : List (Str × Nat)} {pos spos : Pos} {src src1 : EL} {t t1 : Tg} {me : EM} {vs1 vis : List Nat} (hy : X.env.scope.names.lookup y = some .local) (hiy : X.N[i]? = some y)
    (hsw : swapsWith (.ListComp elt [⟨tg, iter, [], 0⟩, ⟨tg1, iter1, [], 0⟩] scope pos) (some (.Name y py)) spos.line X.env = pure true)
    (hc : X.calm = true) (hN : X.N.Nodup) (hi : EvI X W tg iter src) (ok : BlkOk X.N X.env.scope scope own) (hv : ∀ i ∈ vs1, i ∈ own.map (·.2)) (hsl : ∀ j ∈ t.slots, j ∈ own.map (·.2)) (hsl1 : ∀ j ∈ t1.slots, j ∈ vs1) (hg : ∀ z, PG (Cx.bk X scope z) tg (t.g X.K)) (hi1 : ∀ z, EvI (Cx.bk X scope z) W0 tg1 iter1 src1) (hg1 : ∀ z, PG (Cx.bk X scope z) tg1 (t1.g X.K))
    (he : ∀ z, EvX (Cx.bk X scope z) W0 elt me) (hs : ∀ x, foldedSetIterable iter X.env x = pure x := by intro _; rfl) (hs1 : ∀ env x, foldedSetIterable iter1 env x = pure x := by intro _ _; rfl) :
    StX X W (.Assign [.Name y py] (.ListComp elt [⟨tg, iter, [], 0⟩, ⟨tg1, iter1, [], 0⟩] scope pos) spos) (Bd.asgL i vis (E.lc2 (own.map (·.2)) src t E.yes src1 vs1 t1 E.yes me)) := fun dp K0 H0 σ env K H s S Dn q => by
  refine semS_of (ps_setLc2 (g := t.g X.K) (g1 := t1.g X.K) (wi := semI X tg iter) (wi1 := tiB X scope tg1 iter1) (tt := tYes) (tt1 := tYes) (te := teB X scope elt) (vs1 := vs1) hc hN hiy hy hsw pi_sem ok hv (fun s H C cl fp => hg (s, H, C, cl, fp)) (fun _ _ _ _ _ => pts_nil) (fun s H C cl fp => ⟨fun pins s' σ H' R I h => h (s, H, C, cl, fp) pins s' I⟩) (fun s H C cl fp => hg1 (s, H, C, cl, fp)) (fun _ _ _ _ _ => pts_nil) (fun s H C cl fp => ⟨fun pins s' σ H' Q I h => h (s, H, C, cl, fp) pins s' I⟩) hs hs1) ?_
  refine asgL_read (X := X) (by rcases List.getElem?_eq_some_iff.mp hiy with ⟨h, _⟩; exact h) trivial rfl (fun dp σ env K H s hE heK hd Q q => ?_) S q
  refine hi dp σ env K H s hE heK hd _ (PostJ.casesFr q fun ds J K2 H2 s2 g hd2 ys q2 L hL => ?_)
  exact lc2_run (tst := E.yes) (tst1 := E.yes) (elt := me) (src1 := src1) hsl hsl1 rfl rfl (hE.mono g.kk) g.sub hd2 ys hL (fun dp σ env K H s hE he hd Q q => (show ∀ K2 H2, Gr dp K H K2 H2 → DealOk dp K2 H2 s → Q true H2 from q) K H (Gr.rfl' he) hd)
    (fun dp σ env K H s hE he hd R q z => hi1 z dp σ env K H s hE he hd R q) (fun dp σ env K H s hE he hd Q q => (show ∀ K2 H2, Gr dp K H K2 H2 → DealOk dp K2 H2 s → Q true H2 from q) K H (Gr.rfl' he) hd) (fun dp σ env K H s hE heK hd Q q z => he z dp σ env K H s hE heK hd Q q) (PostFr.later hd g hd2 q2)
theorem runF_lst {n np : Nat} {mb : BM} {xs : List D} {s s' : DS} {d : D} (h : Bd.runF n np mb xs s = .ok d s') : ∃ ds, d = .lst ds := by
  unfold Bd.runF at h
  split at h
  · unfold Bd.outF at h
    split at h <;> first | (cases h; exact ⟨_, rfl⟩) | cases h
  · cases h
theorem e_fnF {e : Expr} {k n np : Nat} {mb : BM} {ma : EA} (h : EvFr X W e (E.fnF k (Bd.runF n np mb) ma)) : EvX X W e (E.fnF k (Bd.runF n np mb) ma) := h.x fun env s d s' z => by
  have z' : M.bind (ma env) (fun xs => if xs.length = k then Bd.runF n np mb xs else stuck) s = .ok d s' := z
  unfold M.bind at z'
  cases h1 : ma env s with
  | stuck => rw [h1] at z'; cases z'
  | exc c fs s2 => rw [h1] at z'; cases z'
  | ok xs s2 =>
    rw [h1] at z'
    simp only at z'
    by_cases hk : xs.length = k
    · rw [if_pos hk] at z'
      exact runF_lst z'
    · rw [if_neg hk] at z'
      cases z'
end
end T
end
section
set_option Elab.async false
set_option linter.all false
namespace PM
def plainR (n : Nat) : List Int := (List.range n).map fun (i : Nat) => (i : Int) + 1
theorem plainR_len (n : Nat) : (plainR n).length = n := by simp [plainR]
theorem plainR_get (n i : Nat) (h : i < n) : (plainR n)[i]? = some ((i : Int) + 1) := by simp [plainR, h]
theorem plainR_mem {n : Nat} {x : Int} : x ∈ plainR n ↔ 1 ≤ x ∧ x ≤ n := by
  unfold plainR
  rw [List.mem_map]
  constructor
  · rintro ⟨i, h, rfl⟩
    have := List.mem_range.mp h
    omega
  · rintro ⟨h1, h2⟩
    exact ⟨(x - 1).toNat, List.mem_range.mpr (by omega), by omega⟩
theorem plainR_nodup (n : Nat) : (plainR n).Nodup := by
  unfold plainR
  refine List.Pairwise.map _ ?_ (List.nodup_range (n := n))
  intro a b h
  omega
def IsP (r : List Int) : Prop := r.Perm (plainR r.length)
theorem IsP.mem {r : List Int} (h : IsP r) {x : Int} : x ∈ r ↔ 1 ≤ x ∧ x ≤ r.length := by
  rw [h.mem_iff, plainR_mem]
theorem IsP.nodup {r : List Int} (h : IsP r) : r.Nodup := h.nodup_iff.mpr (plainR_nodup _)
theorem perm_of_sub : ∀ {l m : List Int}, l.Nodup → (∀ x ∈ l, x ∈ m) → m.length ≤ l.length → l.Perm m
  | [], m, _, _, h => by
    cases m with
    | nil => exact List.Perm.refl _
    | cons _ _ => simp at h
  | x :: l, m, hn, hs, hl => by
    have hx : x ∈ m := hs x (by simp)
    have hn' := List.nodup_cons.mp hn
    have p := List.perm_cons_erase hx
    have q : l.Perm (m.erase x) := perm_of_sub hn'.2 (fun y hy => by
      have : y ≠ x := fun e => hn'.1 (e ▸ hy)
      exact (List.mem_erase_of_ne this).mpr (hs y (by simp [hy]))) (by rw [List.length_erase_of_mem hx]; simp at hl; omega)
    exact (q.cons x).trans p.symm
theorem isP_of {r : List Int} (hn : r.Nodup) (h : ∀ x ∈ r, 1 ≤ x ∧ x ≤ r.length) : IsP r :=
  perm_of_sub hn (fun x hx => plainR_mem.mpr (h x hx)) (by rw [plainR_len]; omega)
theorem isP_plain (n : Nat) : IsP (plainR n) := by
  unfold IsP
  rw [plainR_len]
def at1 (r : List Int) (p : Int) : Int := r.getD (p - 1).toNat 0
def times (a b : List Int) : List Int := b.map (at1 a)
def inv (r : List Int) : List Int := (plainR r.length).map fun p => (r.idxOf p : Int) + 1
theorem times_len (a b : List Int) : (times a b).length = b.length := by simp [times]
theorem inv_len (r : List Int) : (inv r).length = r.length := by simp [inv, plainR_len]
theorem at1_get {r : List Int} {p : Int} (h1 : 1 ≤ p) (h2 : p ≤ r.length) : r[(p - 1).toNat]? = some (at1 r p) := by
  unfold at1
  have h : (p - 1).toNat < r.length := by omega
  rw [List.getD_eq_getElem?_getD, List.getElem?_eq_getElem h]
  rfl
theorem at1_mem {r : List Int} {p : Int} (h1 : 1 ≤ p) (h2 : p ≤ r.length) : at1 r p ∈ r := List.mem_of_getElem? (at1_get h1 h2)
theorem ext1 {a b : List Int} (hl : a.length = b.length) (h : ∀ p : Int, 1 ≤ p → p ≤ a.length → at1 a p = at1 b p) : a = b := by
  apply List.ext_getElem? 
  intro i
  by_cases hi : i < a.length
  · have e := h ((i : Int) + 1) (by omega) (by omega)
    have e1 := at1_get (r := a) (p := (i : Int) + 1) (by omega) (by omega)
    have e2 := at1_get (r := b) (p := (i : Int) + 1) (by omega) (by omega)
    have : ((i : Int) + 1 - 1).toNat = i := by omega
    rw [this] at e1 e2
    rw [e1, e2, e]
  · rw [List.getElem?_eq_none (by omega), List.getElem?_eq_none (by omega)]
theorem at1_plain {n : Nat} {p : Int} (h1 : 1 ≤ p) (h2 : p ≤ n) : at1 (plainR n) p = p := by
  have e := at1_get (r := plainR n) h1 (by rw [plainR_len]; exact h2)
  rw [plainR_get n _ (by omega)] at e
  injection e with e
  omega
theorem at1_times {a b : List Int} {p : Int} (h1 : 1 ≤ p) (h2 : p ≤ b.length) : at1 (times a b) p = at1 a (at1 b p) := by
  have e := at1_get (r := times a b) h1 (by rw [times_len]; exact h2)
  unfold times at e
  rw [List.getElem?_map, at1_get h1 h2] at e
  injection e with e
  exact e.symm
theorem plain_map (a : List Int) : (plainR a.length).map (at1 a) = a := by
  refine ext1 (by simp [plainR_len]) fun p h1 h2 => ?_
  simp [plainR_len] at h2
  have := at1_times (a := a) (b := plainR a.length) h1 (by rw [plainR_len]; exact h2)
  rw [show (plainR a.length).map (at1 a) = times a (plainR a.length) from rfl, this, at1_plain h1 h2]
theorem times_plain (a : List Int) : times a (plainR a.length) = a := plain_map a
theorem plain_times {b : List Int} {n : Nat} (hb : IsP b) (h : b.length = n) : times (plainR n) b = b := by
  subst h
  unfold times
  have : ∀ x ∈ b, at1 (plainR b.length) x = id x := fun x hx => by
    have := hb.mem.mp hx
    exact at1_plain this.1 this.2
  rw [List.map_congr_left this, List.map_id]
theorem times_isP {a b : List Int} (ha : IsP a) (hb : IsP b) (h : a.length = b.length) : IsP (times a b) := by
  unfold IsP
  rw [times_len]
  have p : (times a b).Perm ((plainR b.length).map (at1 a)) := List.Perm.map _ hb
  rw [← h, plain_map] at p
  rw [← h]
  exact p.trans ha
theorem idxOf_get {r : List Int} (hn : r.Nodup) {i : Nat} {x : Int} (h : r[i]? = some x) : r.idxOf x = i := by
  rcases List.getElem?_eq_some_iff.mp h with ⟨hl, e⟩
  subst e
  exact hn.idxOf_getElem i hl
theorem at1_inv {r : List Int} {p : Int} (h1 : 1 ≤ p) (h2 : p ≤ r.length) : at1 (inv r) p = (r.idxOf p : Int) + 1 := by
  have e := at1_get (r := inv r) h1 (by rw [inv_len]; exact h2)
  unfold inv at e
  rw [List.getElem?_map, plainR_get _ _ (by omega)] at e
  have e := Option.some.inj e
  have hp : ((p - 1).toNat : Int) + 1 = p := by omega
  rw [hp] at e
  exact e.symm
theorem at1_inv_at1 {r : List Int} (hr : IsP r) {p : Int} (h1 : 1 ≤ p) (h2 : p ≤ r.length) : at1 (inv r) (at1 r p) = p := by
  have hm := hr.mem.mp (at1_mem h1 h2)
  rw [at1_inv hm.1 hm.2, idxOf_get hr.nodup (at1_get h1 h2)]
  omega
theorem at1_at1_inv {r : List Int} (hr : IsP r) {p : Int} (h1 : 1 ≤ p) (h2 : p ≤ r.length) : at1 r (at1 (inv r) p) = p := by
  rw [at1_inv h1 h2]
  have hm : p ∈ r := hr.mem.mpr ⟨h1, h2⟩
  have hl := List.idxOf_lt_length_of_mem hm
  have e := at1_get (r := r) (p := (r.idxOf p : Int) + 1) (by omega) (by omega)
  have : ((r.idxOf p : Int) + 1 - 1).toNat = r.idxOf p := by omega
  rw [this, List.getElem?_eq_getElem hl, List.getElem_idxOf hl] at e
  injection e with e
  exact e.symm
theorem inv_isP {r : List Int} (hr : IsP r) : IsP (inv r) := by
  refine isP_of ?_ ?_
  · unfold inv
    refine List.Pairwise.map _ ?_ ((List.pairwise_iff_forall_sublist (R := fun a b => a ∈ r ∧ b ∈ r ∧ a ≠ b)).mpr ?_)
    · rintro a b ⟨ha, hb, hne⟩ e
      apply hne
      have la := List.idxOf_lt_length_of_mem ha
      have lb := List.idxOf_lt_length_of_mem hb
      have e' : r.idxOf a = r.idxOf b := by omega
      have := List.getElem_idxOf la
      have q := List.getElem_idxOf lb
      simp only [e'] at this
      exact this.symm.trans q
    · intro a b hs
      have hn := (plainR_nodup r.length).sublist hs
      have ma : a ∈ plainR r.length := hs.subset (by simp)
      have mb : b ∈ plainR r.length := hs.subset (by simp)
      exact ⟨hr.mem.mpr (plainR_mem.mp ma), hr.mem.mpr (plainR_mem.mp mb), by simpa using hn⟩
  · intro x hx
    rw [inv_len]
    unfold inv at hx
    obtain ⟨p, hp, rfl⟩ := List.mem_map.mp hx
    have := List.idxOf_lt_length_of_mem (hr.mem.mpr (plainR_mem.mp hp))
    omega
theorem times_inv {a : List Int} (ha : IsP a) : times a (inv a) = plainR a.length := by
  refine ext1 (by rw [times_len, inv_len, plainR_len]) fun p h1 h2 => ?_
  rw [times_len, inv_len] at h2
  rw [at1_times h1 (by rw [inv_len]; exact h2), at1_at1_inv ha h1 h2, at1_plain h1 h2]
theorem inv_times {a : List Int} (ha : IsP a) : times (inv a) a = plainR a.length := by
  refine ext1 (by rw [times_len, plainR_len]) fun p h1 h2 => ?_
  rw [times_len] at h2
  rw [at1_times h1 h2, at1_inv_at1 ha h1 h2, at1_plain h1 h2]
theorem assoc {a b c : List Int} (hc : IsP c) (h : b.length = c.length) : times (times a b) c = times a (times b c) := by
  show c.map (at1 (times a b)) = (c.map (at1 b)).map (at1 a)
  rw [List.map_map]
  refine List.map_congr_left fun x hx => ?_
  have := hc.mem.mp hx
  exact at1_times this.1 (by omega)
theorem inv_uniq {a b : List Int} (ha : IsP a) (hb : IsP b) (h : a.length = b.length) (e : times a b = plainR a.length) : b = inv a := by
  have e1 : times (inv a) (times a b) = times (times (inv a) a) b := (assoc hb h).symm
  rw [e, inv_times ha, plain_times hb h.symm] at e1
  have : plainR a.length = plainR (inv a).length := by rw [inv_len]
  rw [this, times_plain] at e1
  exact e1.symm
theorem inv_mul {a b : List Int} (ha : IsP a) (hb : IsP b) (h : a.length = b.length) : inv (times a b) = times (inv b) (inv a) := by
  have h1 : IsP (times a b) := times_isP ha hb h
  have h2 : IsP (times (inv b) (inv a)) := times_isP (inv_isP hb) (inv_isP ha) (by rw [inv_len, inv_len, h])
  refine (inv_uniq h1 h2 (by rw [times_len, times_len, inv_len, h]) ?_).symm
  rw [assoc h2 (by rw [times_len, inv_len, h]), ← assoc (a := b) (inv_isP ha) (by rw [inv_len, inv_len, h]), times_inv hb, times_len]
  rw [plain_times (inv_isP ha) (by rw [inv_len, h]), times_inv ha, h]
theorem inv_inv {a : List Int} (ha : IsP a) : inv (inv a) = a := by
  have := inv_uniq (inv_isP ha) ha (by rw [inv_len]) (by rw [inv_times ha, inv_len])
  exact this.symm
def pow (r : List Int) : Nat → List Int
  | 0 => plainR r.length
  | n + 1 => times (pow r n) r
theorem pow_len (r : List Int) : ∀ n, (pow r n).length = r.length
  | 0 => by simp [pow, plainR_len]
  | n + 1 => by simp [pow, times_len]
theorem pow_isP {r : List Int} (hr : IsP r) : ∀ n, IsP (pow r n)
  | 0 => isP_plain _
  | n + 1 => times_isP (pow_isP hr n) hr (pow_len r n)
theorem pow_succ {r : List Int} (hr : IsP r) : ∀ n, times r (pow r n) = pow r (n + 1)
  | 0 => by
    show times r (plainR r.length) = times (plainR r.length) r
    rw [times_plain, plain_times hr rfl]
  | n + 1 => by
    show times r (times (pow r n) r) = times (pow r (n + 1)) r
    rw [← assoc hr (pow_len r n), pow_succ hr n]
theorem pow_two {r : List Int} (hr : IsP r) : pow r 2 = times r r := by
  show times (times (plainR r.length) r) r = _
  rw [plain_times hr rfl]
def rowL : List Int → List Int → List Int
  | _, [] => []
  | left, k :: ks => at1 left k :: rowL (left.eraseIdx (k - 1).toNat) ks
def RanksOk : Nat → List Int → Prop
  | _, [] => True
  | n, k :: ks => 1 ≤ k ∧ k ≤ n ∧ RanksOk (n - 1) ks
theorem cons_erase : ∀ (l : List Int) (i : Nat) (h : i < l.length), (l[i] :: l.eraseIdx i).Perm l
  | x :: l, 0, _ => List.Perm.refl _
  | x :: l, i + 1, h => by
    have h' : i < l.length := by simpa using h
    show (l[i] :: x :: l.eraseIdx i).Perm (x :: l)
    exact (List.Perm.swap _ _ _).trans ((cons_erase l i h').cons x)
theorem rowL_perm : ∀ {ks left : List Int}, ks.length = left.length → RanksOk left.length ks → (rowL left ks).Perm left
  | [], left, h, _ => by
    cases left with
    | nil => exact List.Perm.refl _
    | cons _ _ => simp at h
  | k :: ks, left, h, ⟨h1, h2, h3⟩ => by
    simp at h
    have hk : (k - 1).toNat < left.length := by omega
    have el : (left.eraseIdx (k - 1).toNat).length = left.length - 1 := by rw [List.length_eraseIdx, if_pos hk]
    have ih := rowL_perm (ks := ks) (left := left.eraseIdx (k - 1).toNat) (by rw [el]; omega) (by rw [el]; exact h3)
    have e := at1_get (r := left) h1 (by omega)
    have e2 : at1 left k = left[(k - 1).toNat] := by
      rw [List.getElem?_eq_getElem hk] at e
      exact (Option.some.inj e).symm
    show (at1 left k :: rowL _ ks).Perm left
    refine (ih.cons _).trans ?_
    rw [e2]
    exact cons_erase left _ hk
theorem rowL_len : ∀ (ks left : List Int), (rowL left ks).length = ks.length
  | [], _ => rfl
  | k :: ks, left => congrArg (· + 1) (rowL_len ks _)
theorem rowL_isP {ks : List Int} (h : RanksOk ks.length ks) : IsP (rowL (plainR ks.length) ks) := by
  unfold IsP
  rw [rowL_len]
  exact rowL_perm (by rw [plainR_len]) (by rw [plainR_len]; exact h)
def invL : List Int → Nat → List Int → List Int
  | pl, _, [] => pl
  | pl, i, p :: r => invL (pl.set (p - 1).toNat ((i : Int) + 1)) (i + 1) r
theorem invL_len : ∀ (r pl : List Int) (i : Nat), (invL pl i r).length = pl.length
  | [], _, _ => rfl
  | p :: r, pl, i => by
    show (invL _ (i + 1) r).length = _
    rw [invL_len r, List.length_set]
theorem at1_set {pl : List Int} {p q x : Int} (h1 : 1 ≤ p) (h2 : p ≤ pl.length) (h3 : 1 ≤ q) (h4 : q ≤ pl.length) : at1 (pl.set (q - 1).toNat x) p = if p = q then x else at1 pl p := by
  have e := at1_get (r := pl.set (q - 1).toNat x) h1 (by rw [List.length_set]; exact h2)
  by_cases h : p = q
  · subst h
    rw [if_pos rfl]
    rw [List.getElem?_set_self (by omega)] at e
    exact (Option.some.inj e).symm
  · rw [if_neg h]
    rw [List.getElem?_set_ne (by omega), at1_get h1 h2] at e
    exact (Option.some.inj e).symm
theorem invL_at : ∀ {r pl : List Int} {i : Nat} {p : Int}, r.Nodup → (∀ x ∈ r, 1 ≤ x ∧ x ≤ pl.length) → 1 ≤ p → p ≤ pl.length →
    at1 (invL pl i r) p = if p ∈ r then (i : Int) + r.idxOf p + 1 else at1 pl p
  | [], pl, i, p, _, _, _, _ => by simp [invL]
  | q :: r, pl, i, p, hn, hs, h1, h2 => by
    have hn' := List.nodup_cons.mp hn
    have hq := hs q (by simp)
    show at1 (invL (pl.set (q - 1).toNat ((i : Int) + 1)) (i + 1) r) p = _
    rw [invL_at hn'.2 (fun x hx => by rw [List.length_set]; exact hs x (by simp [hx])) h1 (by rw [List.length_set]; exact h2)]
    by_cases hp : p ∈ r
    · have ne : q ≠ p := fun e => hn'.1 (e ▸ hp)
      rw [if_pos hp, if_pos (by simp [hp]), show (q :: r).idxOf p = r.idxOf p + 1 from by rw [List.idxOf_cons, show (q == p) = false from by simpa using ne]; rfl]
      omega
    · rw [if_neg hp, at1_set h1 h2 hq.1 hq.2]
      by_cases e : p = q
      · subst e
        simp
      · rw [if_neg e, if_neg (by simp [e, hp])]
theorem invL_inv {r : List Int} (hr : IsP r) : invL (List.replicate r.length 0) 0 r = inv r := by
  refine ext1 (by rw [invL_len, inv_len, List.length_replicate]) fun p h1 h2 => ?_
  rw [invL_len, List.length_replicate] at h2
  rw [invL_at hr.nodup (fun x hx => by rw [List.length_replicate]; exact hr.mem.mp hx) h1 (by rw [List.length_replicate]; exact h2), if_pos (hr.mem.mpr ⟨h1, h2⟩), at1_inv h1 h2]
  simp
end PM
end
section
set_option Elab.async false
set_option linter.all false
set_option maxRecDepth 100000
set_option maxHeartbeats 4000000
namespace T
open PySem PySem.Spec PyProof.Rows L2
def Rg62 (j : Int) : Prop := -(2 ^ 62) ≤ j ∧ j < 2 ^ 62
instance (j : Int) : Decidable (Rg62 j) := by unfold Rg62; exact inferInstance
theorem rg62 {j : Int} (h0 : 0 ≤ j) (h1 : j < 1000000000) : Rg62 j := by unfold Rg62; omega
def Rg62b (i j : Int) : Prop := -(2 ^ 62) ≤ i ∧ i < 2 ^ 62 ∧ -(2 ^ 62) ≤ j ∧ j < 2 ^ 62
instance (i j : Int) : Decidable (Rg62b i j) := by unfold Rg62b; exact inferInstance
theorem rg62b {i j : Int} (h0 : 0 ≤ i) (h1 : i < 1000000000) (h2 : 0 ≤ j) (h3 : j < 1000000000) : Rg62b i j := by unfold Rg62b; omega
def Rp63 (n : Nat) (k : Int) : Prop := (-(2 ^ 63) ≤ k ∧ k < 2 ^ 63) ∧ n * k.toNat ≤ sizeLine
instance (n : Nat) (k : Int) : Decidable (Rp63 n k) := by unfold Rp63; exact inferInstance
theorem rp63 {k : Int} (h0 : 0 ≤ k) (h1 : k < 1000000) : Rp63 1 k := by
  unfold Rp63
  have : sizeLine = 16777216 := by decide
  omega
theorem rgOk_of {i j : Int} (h0 : 0 ≤ i) (h1 : i < 1000000) (h2 : 0 ≤ j) (h3 : j < 1000000) : rgOk i j := by unfold rgOk; omega
theorem cmulR {i j : Int} (h0 : 0 ≤ j) (h1 : j < 1000000000000) : CMul i j := by unfold CMul; omega
theorem cdiv_of {i j : Int} (h0 : 0 < j) (h1 : j < 1073741824) : CDiv i j := ⟨h0, h1⟩
section
variable {α β : Type} {s : DS} {env : Env}
def bnd (r : Res α) (f : α → M β) : Res β := match r with
  | .ok a s' => f a s'
  | .exc c fs s' => .exc c fs s'
  | .stuck => .stuck
@[simp] theorem bnd_ok (a : α) (s : DS) (f : α → M β) : bnd (.ok a s) f = f a s := Eq.trans rfl rfl
@[simp] theorem bnd_exc (c : Str) (fs : List (Str × D)) (s : DS) (f : α → M β) : bnd (.exc c fs s) f = .exc c fs s := Eq.trans rfl rfl
@[simp] theorem bnd_stuck (f : α → M β) : bnd .stuck f = .stuck := Eq.trans rfl rfl
@[simp] theorem r_bind (m : M α) (f : α → M β) (s : DS) : (m >>= f) s = bnd (m s) f := Eq.trans rfl rfl
def getV (o : Option (Option D)) : M D := match o with
  | some (some d) => pure d
  | _ => stuck
@[simp] theorem getV_s (d : D) : getV (some (some d)) = pure d := Eq.trans rfl rfl
def rngI (xs : List D) : M (List D) := match xs with
  | [.int j] => if Rg62 j then pure (rangeD 0 j.toNat) else stuck
  | _ => stuck
@[simp] theorem rngI_i (j : Int) : rngI [.int j] = if Rg62 j then pure (rangeD 0 j.toNat) else stuck := Eq.trans rfl rfl
def rngI2 (xs : List D) : M (List D) := match xs with
  | [.int i, .int j] => if Rg62b i j then pure (rangeD i (j - i).toNat) else stuck
  | _ => stuck
@[simp] theorem rngI2_i (i j : Int) : rngI2 [.int i, .int j] = if Rg62b i j then pure (rangeD i (j - i).toNat) else stuck := Eq.trans rfl rfl
@[simp] theorem r_pure (a : α) (s : DS) : (pure a : M α) s = .ok a s := Eq.trans rfl rfl
@[simp] theorem r_stuck (s : DS) : (stuck : M α) s = .stuck := Eq.trans rfl rfl
@[simp] theorem r_ofS (a : α) (s : DS) : (ofO (some a) : M α) s = .ok a s := Eq.trans rfl rfl
@[simp] theorem r_ite {c : Prop} [Decidable c] (m n : M α) (s : DS) : (if c then m else n) s = if c then m s else n s := by split <;> rfl
@[simp] theorem r_c (d : D) : E.c d env = pure d := Eq.trans rfl rfl
@[simp] theorem r_nil : E.nil env = pure [] := Eq.trans rfl rfl
@[simp] theorem r_cons (a : EM) (r : EA) : E.cons a r env = (a env >>= fun x => r env >>= fun xs => pure (x :: xs)) := Eq.trans rfl rfl
@[simp] theorem r_op2 (g : D → D → M D) (a b : EM) : E.op2 g a b env = (a env >>= fun x => b env >>= fun y => g x y) := Eq.trans rfl rfl
@[simp] theorem r_op1 (g : D → M D) (a : EM) : E.op1 g a env = (a env >>= fun x => g x) := Eq.trans rfl rfl
@[simp] theorem r_opL (g : List D → M D) (a : EA) : E.opL g a env = (a env >>= fun xs => g xs) := Eq.trans rfl rfl
@[simp] theorem r_v (i : Nat) : E.v i env = getV env[i]? := Eq.trans rfl rfl
@[simp] theorem r_tru (a : EM) : E.tru a env = (a env >>= fun x => truth x) := Eq.trans rfl rfl
@[simp] theorem r_tnot (a : ET) : E.tnot a env = (a env >>= fun b => pure (!b)) := Eq.trans rfl rfl
@[simp] theorem r_tand (a b : ET) : E.tand a b env = (a env >>= fun x => if x = true then b env else pure false) := Eq.trans rfl rfl
@[simp] theorem r_tor (a b : ET) : E.tor a b env = (a env >>= fun x => if x = true then pure true else b env) := Eq.trans rfl rfl
@[simp] theorem r_isB (b : Bool) : E.isB (.bl b) = pure b := Eq.trans rfl rfl
@[simp] theorem r_vand (a b : EM) : E.vand a b env = (a env >>= fun x => E.isB x >>= fun c => if c = true then b env else pure (.bl false)) := Eq.trans rfl rfl
@[simp] theorem r_vor (a b : EM) : E.vor a b env = (a env >>= fun x => E.isB x >>= fun c => if c = true then pure (.bl true) else b env) := Eq.trans rfl rfl
@[simp] theorem r_vnot (a : EM) : E.vnot a env = (a env >>= fun x => E.isB x >>= fun c => pure (.bl (!c))) := Eq.trans rfl rfl
@[simp] theorem r_ite' (t : ET) (a b : EM) : E.ite t a b env = (t env >>= fun c => if c = true then a env else b env) := Eq.trans rfl rfl
@[simp] theorem r_tup (a : EA) : E.tup a env = (a env >>= fun xs => if xs.length ≤ sizeLine then pure (.tup xs) else stuck) := Eq.trans rfl rfl
@[simp] theorem r_lst (a : EA) : E.lst a env = (a env >>= fun xs => if xs.length ≤ sizeLine then pure (.lst xs) else stuck) := Eq.trans rfl rfl
@[simp] theorem r_fn (n : Nat) (m : List D → M D) (dfl : List D) (a : EA) : E.fn n m dfl a env = (a env >>= fun xs => if (xs ++ dfl).length = n then m (xs ++ dfl) else stuck) := Eq.trans rfl rfl
@[simp] theorem r_mk (c : Str) (n : Nat) (m : List D → M (List (Str × D))) (dfl : List D) (a : EA) : E.mk c n m dfl a env = (a env >>= fun xs => if (xs ++ dfl).length = n then m (xs ++ dfl) >>= fun fs => pure (.ins c fs) else stuck) := Eq.trans rfl rfl
@[simp] theorem r_it (a : EM) : E.it a env = (a env >>= fun x => items x) := Eq.trans rfl rfl
@[simp] theorem r_itemsL (xs : List D) : items (.lst xs) = pure xs := Eq.trans rfl rfl
@[simp] theorem r_itemsT (xs : List D) : items (.tup xs) = pure xs := Eq.trans rfl rfl
@[simp] theorem r_itemsK (xs : List D) : items (.lsk xs) = pure xs := Eq.trans rfl rfl
@[simp] theorem r_en (a : EM) : E.en a env = (a env >>= fun x => items x >>= fun ds => pure (enumD ds)) := Eq.trans rfl rfl
@[simp] theorem r_rng1 (a : EA) : E.rng1 a env = (a env >>= rngI) := Eq.trans rfl rfl
@[simp] theorem r_rng2 (a : EA) : E.rng2 a env = (a env >>= rngI2) := Eq.trans rfl rfl
@[simp] theorem r_lc (vs : List Nat) (src : EL) (t : Tg) (tst : ET) (elt : EM) : E.lc vs src t tst elt env = (src env >>= fun ds => lcM (wipeE env vs) t tst elt ds [] >>= fun out => pure (.lst out)) := Eq.trans rfl rfl
@[simp] theorem r_p0 : E.p0 env = pure none := Eq.trans rfl rfl
@[simp] theorem r_p1 (a : EM) : E.p1 a env = (a env >>= fun x => E.isI x) := Eq.trans rfl rfl
@[simp] theorem r_isI (i : Int) : E.isI (.int i) = pure (some i) := Eq.trans rfl rfl
@[simp] theorem r_sl (a : EM) (lo hi : Env → M (Option Int)) : E.sl a lo hi env = (a env >>= fun x => lo env >>= fun l => hi env >>= fun h => dSl x l h) := Eq.trans rfl rfl
@[simp] theorem r_slL (xs : List D) (l h : Option Int) : dSl (.lst xs) l h = pure (.lst (cutD xs l h)) := Eq.trans rfl rfl
@[simp] theorem r_slK (xs : List D) (l h : Option Int) : dSl (.lsk xs) l h = pure (.lst (cutD xs l h)) := Eq.trans rfl rfl
@[simp] theorem r_slT (xs : List D) (l h : Option Int) : dSl (.tup xs) l h = pure (.tup (cutD xs l h)) := Eq.trans rfl rfl
@[simp] theorem r_yes : E.yes env = pure true := Eq.trans rfl rfl
@[simp] theorem r_rgL (f : List D → D) (a b : EM) : E.rgL f a b env = (rgM a b env >>= fun p => pure (f (rangeD p.1 (p.2 - p.1).toNat))) := Eq.trans rfl rfl
@[simp] theorem r_rgM (a b : EM) : rgM a b env = (a env >>= fun x => b env >>= fun y => rgP x y) := Eq.trans rfl rfl
@[simp] theorem r_rgP (i j : Int) : rgP (.int i) (.int j) = if rgOk i j then pure (i, j) else stuck := Eq.trans rfl rfl
@[simp] theorem d_addI (i j : Int) : dAdd (.int i) (.int j) = pure (.int (i + j)) := Eq.trans rfl rfl
@[simp] theorem d_addL (a b : List D) : dAdd (.lst a) (.lst b) = if a.length + b.length ≤ sizeLine then pure (.lst (a ++ b)) else stuck := Eq.trans rfl rfl
@[simp] theorem d_addT (a b : List D) : dAdd (.tup a) (.tup b) = if a.length + b.length ≤ sizeLine then pure (.tup (a ++ b)) else stuck := Eq.trans rfl rfl
@[simp] theorem d_I0 (g : Int → Int → D) (i j : Int) : dI0 g (.int i) (.int j) = pure (g i j) := Eq.trans rfl rfl
@[simp] theorem d_II (C : Int → Int → Prop) [∀ i j, Decidable (C i j)] (g : Int → Int → D) (i j : Int) : dII C g (.int i) (.int j) = if C i j then pure (g i j) else stuck := Eq.trans rfl rfl
@[simp] theorem d_mulI (i j : Int) : dMul (.int i) (.int j) = if CMul i j then pure (.int (i * j)) else stuck := Eq.trans rfl rfl
@[simp] theorem d_mulL (a : List D) (k : Int) : dMul (.lst a) (.int k) = if Rp63 a.length k then pure (.lst (List.replicate k.toNat a).flatten) else stuck := Eq.trans rfl rfl
@[simp] theorem d_neg (i : Int) : dNeg (.int i) = pure (.int (-i)) := Eq.trans rfl rfl
@[simp] theorem d_absI (i : Int) : dAbs [.int i] = pure (.int (if i < 0 then -i else i)) := Eq.trans rfl rfl
@[simp] theorem d_min2 (i j : Int) : dMin2 [.int i, .int j] = pure (.int (if j < i then j else i)) := Eq.trans rfl rfl
@[simp] theorem d_max2 (i j : Int) : dMax2 [.int i, .int j] = pure (.int (if j > i then j else i)) := Eq.trans rfl rfl
@[simp] theorem d_intI (i : Int) : dInt [.int i] = pure (.int i) := Eq.trans rfl rfl
@[simp] theorem d_intB (k : Bool) : dInt [.bl k] = pure (.int (if k then 1 else 0)) := Eq.trans rfl rfl
@[simp] theorem d_lenL (xs : List D) : dLen [.lst xs] = pure (.int xs.length) := Eq.trans rfl rfl
@[simp] theorem d_lenK (xs : List D) : dLen [.lsk xs] = pure (.int xs.length) := Eq.trans rfl rfl
@[simp] theorem d_lenT (xs : List D) : dLen [.tup xs] = pure (.int xs.length) := Eq.trans rfl rfl
@[simp] theorem d_tupL (xs : List D) : dTuple [.lst xs] = pure (.tup xs) := Eq.trans rfl rfl
@[simp] theorem d_tupK (xs : List D) : dTuple [.lsk xs] = pure (.tup xs) := Eq.trans rfl rfl
@[simp] theorem d_tupT (xs : List D) : dTuple [.tup xs] = pure (.tup xs) := Eq.trans rfl rfl
@[simp] theorem d_revL (xs : List D) : dRev (.lst xs) = pure (.lst xs.reverse) := Eq.trans rfl rfl
@[simp] theorem d_revK (xs : List D) : dRev (.lsk xs) = pure (.lst xs.reverse) := Eq.trans rfl rfl
@[simp] theorem d_ixL (xs : List D) (i : Int) : dIx (.lst xs) (.int i) = ofO (atI xs i) := Eq.trans rfl rfl
@[simp] theorem d_ixK (xs : List D) (i : Int) : dIx (.lsk xs) (.int i) = ofO (atI xs i) := Eq.trans rfl rfl
@[simp] theorem d_ixT (xs : List D) (i : Int) : dIx (.tup xs) (.int i) = ofO (atI xs i) := Eq.trans rfl rfl
@[simp] theorem t_bl (b : Bool) : truth (.bl b) = pure b := Eq.trans rfl rfl
@[simp] theorem t_int (i : Int) : truth (.int i) = pure (i != 0) := Eq.trans rfl rfl
@[simp] theorem t_non : truth .non = pure false := Eq.trans rfl rfl
theorem intsOf_ints : ∀ ns : List Int, intsOf (ns.map D.int) = some ns
  | [] => rfl
  | n :: r => by
    show (intsOf (r.map D.int)).map (n :: ·) = _
    rw [intsOf_ints r]
    rfl
theorem blsOf_bls : ∀ ns : List Bool, blsOf (ns.map D.bl) = some ns
  | [] => rfl
  | n :: r => by
    show (blsOf (r.map D.bl)).map (n :: ·) = _
    rw [blsOf_bls r]
    rfl
@[simp] theorem d_allB (bs : List Bool) : dAll [.lst (bs.map D.bl)] = pure (.bl (bs.all id)) := by
  unfold dAll
  simp only [blsOf_bls]
@[simp] theorem d_anyB (bs : List Bool) : dAny [.lst (bs.map D.bl)] = pure (.bl (bs.any id)) := by
  unfold dAny
  simp only [blsOf_bls]
@[simp] theorem d_sortI (ns : List Int) : dSorted [.lst (ns.map D.int)] = pure (.lst ((sortI ns).map D.int)) := by
  unfold dSorted
  simp only [intsOf_ints]
@[simp] theorem d_maxDf (ns : List Int) (d : D) : dMaxDf (.tup (ns.map D.int)) d = pure (match maxI ns with
    | some m => .int m
    | none => d) := by
  unfold dMaxDf
  show (pure (ns.map D.int) >>= fun ds => _) = _
  funext s
  simp only [r_bind, r_pure, bnd_ok, intsOf_ints] <;> rfl
theorem plains_ints : ∀ ns : List Int, plains (ns.map D.int) = true
  | [] => rfl
  | n :: r => by simp [plains, plain, plains_ints r]
theorem pyOfs_ints : ∀ ns : List Int, pyOfs (ns.map D.int) = ns.map PyData.int
  | [] => rfl
  | n :: r => by simp [pyOfs, pyOf, pyOfs_ints r]
theorem canLay_ints : ∀ ns : List Int, PyData.canLayAll0 (ns.map PyData.int) = true
  | [] => rfl
  | n :: r => by simp [PyData.canLayAll0, PyData.canLay0, canLay_ints r]
theorem depth_ints : ∀ ns : List Int, PyData.depthAll (ns.map PyData.int) = 0
  | [] => rfl
  | n :: r => by simp [PyData.depthAll, PyData.depth, depth_ints r]
@[simp] theorem okEq_int (i : Int) : okEq (.int i) = true := rfl
@[simp] theorem okEq_bl (i : Bool) : okEq (.bl i) = true := rfl
@[simp] theorem okEq_non : okEq .non = true := rfl
@[simp] theorem okEq_tupI (ns : List Int) : okEq (.tup (ns.map D.int)) = true := by
  simp [okEq, plain, plains_ints, SeqAt.shaped, pyOf, pyOfs_ints, PyData.canLay0, canLay_ints, PyData.depth, depth_ints]
@[simp] theorem okEq_lstI (ns : List Int) : okEq (.lst (ns.map D.int)) = true := by
  simp [okEq, plain, plains_ints, SeqAt.shaped, pyOf, pyOfs_ints, PyData.canLay0, canLay_ints, PyData.depth, depth_ints]
theorem eqv_ints : ∀ ns ms : List Int, PyData.eqvAll (ns.map PyData.int) (ms.map PyData.int) = decide (ns = ms)
  | [], [] => rfl
  | [], _ :: _ => rfl
  | _ :: _, [] => rfl
  | n :: r, m :: t => by
    simp only [List.map_cons, PyData.eqvAll, PyData.eqv, eqv_ints r t]
    by_cases h : n = m <;> by_cases h2 : r = t <;> simp [h, h2]
@[simp] theorem eqv_int (i j : Int) : PyData.eqv (pyOf (.int i)) (pyOf (.int j)) = (i == j) := rfl
@[simp] theorem eqv_tupI (ns ms : List Int) : PyData.eqv (pyOf (.tup (ns.map D.int))) (pyOf (.tup (ms.map D.int))) = decide (ns = ms) := by
  simp only [pyOf, PyData.eqv, pyOfs_ints, eqv_ints]
@[simp] theorem eqv_lstI (ns ms : List Int) : PyData.eqv (pyOf (.lst (ns.map D.int))) (pyOf (.lst (ms.map D.int))) = decide (ns = ms) := by
  simp only [pyOf, PyData.eqv, pyOfs_ints, eqv_ints]
abbrev rowD (ns : List Int) : D := .tup (ns.map D.int)
theorem plains_rows : ∀ ns : List (List Int), plains (ns.map rowD) = true
  | [] => rfl
  | n :: r => by simp [plains, plain, plains_ints, plains_rows r]
theorem pyOfs_rows : ∀ ns : List (List Int), pyOfs (ns.map rowD) = ns.map fun r => PyData.tuple (r.map PyData.int)
  | [] => rfl
  | n :: r => by simp [pyOfs, pyOf, pyOfs_ints, pyOfs_rows r]
theorem canLay_rows : ∀ ns : List (List Int), PyData.canLayAll0 (ns.map fun r => PyData.tuple (r.map PyData.int)) = true
  | [] => rfl
  | n :: r => by simp [PyData.canLayAll0, PyData.canLay0, canLay_ints, canLay_rows r]
theorem depth_rows : ∀ ns : List (List Int), PyData.depthAll (ns.map fun r => PyData.tuple (r.map PyData.int)) ≤ 1
  | [] => by simp [PyData.depthAll]
  | n :: r => by
    have := depth_rows r
    simp only [List.map_cons, PyData.depthAll, PyData.depth, depth_ints]
    omega
@[simp] theorem okEq_rows (ns : List (List Int)) : okEq (.lst (ns.map rowD)) = true := by
  have := depth_rows ns
  simp only [okEq, plain, plains_rows, SeqAt.shaped, pyOf, pyOfs_rows, PyData.canLay0, canLay_rows, PyData.depth, Bool.true_and]
  simp
  omega
theorem eqv_rowsA : ∀ ns ms : List (List Int), PyData.eqvAll (ns.map fun r => PyData.tuple (r.map PyData.int)) (ms.map fun r => PyData.tuple (r.map PyData.int)) = decide (ns = ms)
  | [], [] => rfl
  | [], _ :: _ => rfl
  | _ :: _, [] => rfl
  | n :: r, m :: t => by
    simp only [List.map_cons, PyData.eqvAll, PyData.eqv, eqv_rowsA r t, eqv_ints]
    by_cases h : n = m <;> by_cases h2 : r = t <;> simp [h, h2]
@[simp] theorem eqv_rows (ns ms : List (List Int)) : PyData.eqv (pyOf (.lst (ns.map rowD))) (pyOf (.lst (ms.map rowD))) = decide (ns = ms) := by
  simp only [pyOf, PyData.eqv, pyOfs_rows, eqv_rowsA]
@[simp] theorem d_eqI (i j : Int) : dEq (.int i) (.int j) = pure (.bl (i == j)) := Eq.trans rfl rfl
@[simp] theorem d_neI (i j : Int) : dNe (.int i) (.int j) = pure (.bl (!(i == j))) := Eq.trans rfl rfl
@[simp] theorem d_eqT (a b : List Int) : dEq (.tup (a.map D.int)) (.tup (b.map D.int)) = pure (.bl (decide (a = b))) := by
  unfold dEq
  simp only [okEq_tupI, Bool.and_self, if_true, eqv_tupI]
@[simp] theorem d_neT (a b : List Int) : dNe (.tup (a.map D.int)) (.tup (b.map D.int)) = pure (.bl (!decide (a = b))) := by
  unfold dNe
  simp only [okEq_tupI, Bool.and_self, if_true, eqv_tupI]
@[simp] theorem d_eqL (a b : List Int) : dEq (.lst (a.map D.int)) (.lst (b.map D.int)) = pure (.bl (decide (a = b))) := by
  unfold dEq
  simp only [okEq_lstI, Bool.and_self, if_true, eqv_lstI]
@[simp] theorem d_neL (a b : List Int) : dNe (.lst (a.map D.int)) (.lst (b.map D.int)) = pure (.bl (!decide (a = b))) := by
  unfold dNe
  simp only [okEq_lstI, Bool.and_self, if_true, eqv_lstI]
@[simp] theorem d_neR (a b : List (List Int)) : dNe (.lst (a.map rowD)) (.lst (b.map rowD)) = pure (.bl (!decide (a = b))) := by
  unfold dNe
  simp only [okEq_rows, Bool.and_self, if_true, eqv_rows]
@[simp] theorem view_nil' (vis : List Nat) (k : Nat) : view vis k [] = [] := Eq.trans rfl rfl
@[simp] theorem view_cons' (vis : List Nat) (k : Nat) (x : Option SV) (r : VEnv) : view vis k (x :: r) = seen1 vis k x :: view vis (k + 1) r := Eq.trans rfl rfl
@[simp] theorem seen_v (vis : List Nat) (k : Nat) (d : D) : seen1 vis k (some (.val d)) = some d := Eq.trans rfl rfl
@[simp] theorem seen_n (vis : List Nat) (k : Nat) : seen1 vis k none = none := Eq.trans rfl rfl
@[simp] theorem seen_o (vis : List Nat) (k : Nat) (ds : List D) : seen1 vis k (some (.own ds)) = if vis.contains k = true then some (.lst ds) else none := Eq.trans rfl rfl
@[simp] theorem seen_s (vis : List Nat) (k : Nat) (c : Str) (fs : List (Str × D)) : seen1 vis k (some (.slf c fs)) = if vis.contains k = true then some (.ins c fs) else none := Eq.trans rfl rfl
@[simp] theorem wipe_nil : wipeE env [] = env := Eq.trans rfl rfl
@[simp] theorem wipe_cons (v : Nat) (vs : List Nat) : wipeE env (v :: vs) = (wipeE env vs).set v none := Eq.trans rfl rfl
@[simp] theorem setE_nil : setE env [] = env := Eq.trans rfl rfl
@[simp] theorem setE_cons (p : Nat × D) (r : List (Nat × D)) : setE env (p :: r) = setE (env.set p.1 (some p.2)) r := Eq.trans rfl rfl
@[simp] theorem setS_nil (env : VEnv) : Bd.setS env [] = env := Eq.trans rfl rfl
@[simp] theorem setS_cons (env : VEnv) (p : Nat × D) (r : List (Nat × D)) : Bd.setS env (p :: r) = Bd.setS (env.set p.1 (some (.val p.2))) r := Eq.trans rfl rfl
@[simp] theorem bind_nm (j : Nat) (d : D) : Tg.bind (.nm j) d = some [(j, d)] := Eq.trans rfl rfl
@[simp] theorem bind_tp (js : List Nat) (ds : List D) : Tg.bind (.tp js) (.tup ds) = if ds.length = js.length then some (js.zip ds) else none := Eq.trans rfl rfl
@[simp] theorem bind_ls (js : List Nat) (ds : List D) : Tg.bind (.ls js) (.lst ds) = if ds.length = js.length then some (js.zip ds) else none := Eq.trans rfl rfl
variable {ve : VEnv}
theorem ev_nil (m : EM) : Bd.ev [] m ve s = m (view [] 0 ve) s := by
  unfold Bd.ev
  cases m (view [] 0 ve) s <;> rfl
theorem evT_nil (m : ET) : Bd.evT [] m ve s = m (view [] 0 ve) s := by
  unfold Bd.evT
  cases m (view [] 0 ve) s <;> rfl
@[simp] theorem ev_ok {vis : List Nat} {m : EM} {d : D} {s' : DS} (h : m (view vis 0 ve) s = .ok d s') : Bd.ev vis m ve s = if Bd.okV vis ve d = true then .ok d s' else .stuck := by
  unfold Bd.ev
  rw [h]
theorem seq_nx {a b : BM} {ve ve2 : VEnv} {s s2 : DS} (h : a ve s = .ok .nx ve2 s2) : Bd.seq a b ve s = b ve2 s2 := by
  unfold Bd.seq
  rw [h]
theorem seq_rt {a b : BM} {ve ve2 : VEnv} {s s2 : DS} {d : D} (h : a ve s = .ok (.rt d) ve2 s2) : Bd.seq a b ve s = .ok (.rt d) ve2 s2 := by
  unfold Bd.seq
  rw [h]
theorem seq_rtD {a b : BM} {ve ve2 : VEnv} {s s2 : DS} {g : List Int} {m : Int} (h : a ve s = .ok (.rtD g m) ve2 s2) : Bd.seq a b ve s = .ok (.rtD g m) ve2 s2 := by
  unfold Bd.seq
  rw [h]
theorem seq_ex {a b : BM} {ve ve2 : VEnv} {s s2 : DS} {c : Str} {fs : List (Str × D)} (h : a ve s = .exc c fs ve2 s2) : Bd.seq a b ve s = .exc c fs ve2 s2 := by
  unfold Bd.seq
  rw [h]
theorem asg_nx {t : Tg} {m : EM} {d : D} {s s2 : DS} {l : List (Nat × D)} (h : m (view [] 0 ve) s = .ok d s2) (hb : t.bind d = some l) : Bd.asg t [] m ve s = .ok .nx (Bd.setS ve l) s2 := by
  unfold Bd.asg
  rw [ev_nil, h]
  show (match t.bind d with
    | some l => _
    | none => _) = _
  rw [hb]
theorem asgN_nx {i : Nat} {m : EM} {d : D} {s s2 : DS} (h : m (view [] 0 ve) s = .ok d s2) : Bd.asg (.nm i) [] m ve s = .ok .nx (ve.set i (some (.val d))) s2 := asg_nx (l := [(i, d)]) h rfl
theorem ret_rt {m : EM} {d : D} {s s2 : DS} {vis : List Nat} (h : m (view vis 0 ve) s = .ok d s2) : Bd.ret vis m ve s = .ok (.rt d) ve s2 := by
  unfold Bd.ret
  rw [h]
theorem exp_nx {m : EM} {d : D} {s s2 : DS} (h : m (view [] 0 ve) s = .ok d s2) : Bd.exp [] m ve s = .ok .nx ve s2 := by
  unfold Bd.exp
  rw [ev_nil, h]
  rfl
theorem exp_ex {m : EM} {s s2 : DS} {c : Str} {fs : List (Str × D)} (h : m (view [] 0 ve) s = .exc c fs s2) : Bd.exp [] m ve s = .exc c fs ve s2 := by
  unfold Bd.exp
  rw [ev_nil, h]
  rfl
theorem ite_b {c : ET} {a b : BM} {s s2 : DS} {k : Bool} (h : c (view [] 0 ve) s = .ok k s2) : Bd.ite [] c a b ve s = if k = true then a ve s2 else b ve s2 := by
  unfold Bd.ite
  rw [evT_nil, h]
  rfl
theorem ite_v {vis : List Nat} {c : ET} {a b : BM} {s s2 : DS} {k : Bool} (h : c (view vis 0 ve) s = .ok k s2) : Bd.ite vis c a b ve s = if k = true then a ve s2 else b ve s2 := by
  unfold Bd.ite Bd.evT
  rw [h]
  rfl
theorem asgL_nx {i : Nat} {m : EM} {ds : List D} {s s2 : DS} (h : m (view [] 0 ve) s = .ok (.lst ds) s2) : Bd.asgL i [] m ve s = .ok .nx (ve.set i (some (.val (.lst ds)))) s2 := by
  unfold Bd.asgL Bd.evF
  rw [h]
  rfl
theorem asgO_nx {i : Nat} {m : EM} {ds : List D} {s s2 : DS} (h : m (view [] 0 ve) s = .ok (.lst ds) s2) : Bd.asgO i [] m ve s = .ok .nx (ve.set i (some (.own ds))) s2 := by
  unfold Bd.asgO Bd.evF
  rw [h]
  rfl
theorem run_rt {n np : Nat} {mb : BM} {ds : List D} {s s2 : DS} {d : D} {ve2 : VEnv} (h : mb (ds.map (fun d => some (SV.val d)) ++ List.replicate (n - ds.length) none) s = .ok (.rt d) ve2 s2) (hl : ds.length = np := by rfl) : Bd.run n np mb ds s = .ok d s2 := by
  unfold Bd.run Bd.start
  rw [if_pos hl, h]
  rfl
theorem run_ex {n np : Nat} {mb : BM} {ds : List D} {s s2 : DS} {c : Str} {fs : List (Str × D)} {ve2 : VEnv} (h : mb (ds.map (fun d => some (SV.val d)) ++ List.replicate (n - ds.length) none) s = .exc c fs ve2 s2) (hl : ds.length = np := by rfl) : Bd.run n np mb ds s = .exc c fs s2 := by
  unfold Bd.run Bd.start
  rw [if_pos hl, h]
  rfl
theorem ownAt_of {ve : VEnv} {j : Nat} {ds : List D} (h : ve[j]? = some (some (.own ds))) : Bd.ownAt ve j = some ds := by
  unfold Bd.ownAt
  rw [h]
theorem app_nx {ve : VEnv} {s s2 : DS} {j : Nat} {m : EM} {d : D} {ds : List D} (hm : m (view [] 0 ve) s = .ok d s2) (hv : ve[j]? = some (some (.own ds))) (hl : ds.length < sizeLine) : Bd.app j (Bd.sx [] m) ve s = .ok .nx (ve.set j (some (.own (ds ++ [d])))) s2 := by
  unfold Bd.app
  rw [ownAt_of hv]
  show Bd.sx [] m _ ve s = _
  unfold Bd.sx
  rw [ev_nil, hm]
  show (match Bd.ownAt ve j with
    | some ds => _
    | none => _) = _
  rw [ownAt_of hv]
  show (if ds.length < sizeLine then _ else _) = _
  rw [if_pos hl]
theorem app_popAt {ve : VEnv} {s s2 : DS} {j1 j2 : Nat} {m : EM} {i : Int} {d : D} {ds1 ds2 : List D} (hm : m (view [] 0 ve) s = .ok (.int i) s2) (h1 : ve[j1]? = some (some (.own ds1))) (h2 : ve[j2]? = some (some (.own ds2))) (hne : j1 ≠ j2) (hl : ds2.length < sizeLine)
    (i0 : 0 ≤ i) (i1 : i < 2 ^ 63) (hd : ds1[i.toNat]? = some d) : Bd.app j2 (Bd.popAt j1 (Bd.sx [] m)) ve s = .ok .nx ((ve.set j1 (some (.own (ds1.eraseIdx i.toNat)))).set j2 (some (.own (ds2 ++ [d])))) s2 := by
  have hlt : i.toNat < ds1.length := by
    rcases List.getElem?_eq_some_iff.mp hd with ⟨h, _⟩
    exact h
  have hs : seqIndex? i ds1.length = some i.toNat := by
    unfold seqIndex?
    simp only [show ¬ i < 0 by omega, if_false]
    rw [if_pos]
    simp
    omega
  have h2' : (ve.set j1 (some (.own (ds1.eraseIdx i.toNat))))[j2]? = some (some (.own ds2)) := by rw [List.getElem?_set_ne hne]; exact h2
  unfold Bd.app
  rw [ownAt_of h2]
  show Bd.popAt j1 (Bd.sx [] m) _ ve s = _
  unfold Bd.popAt
  rw [ownAt_of h1]
  show Bd.sx [] m _ ve s = _
  unfold Bd.sx
  rw [ev_nil, hm]
  show (match Bd.ownAt ve j1, D.int i with
    | some ds, .int i => _
    | _, _ => _) = _
  rw [ownAt_of h1]
  show (if -(2 ^ 63) ≤ i ∧ i < 2 ^ 63 then _ else _) = _
  rw [if_pos ⟨by omega, i1⟩, hs]
  show (match ds1[i.toNat]? with
    | some d => _
    | none => _) = _
  rw [hd]
  show (match Bd.ownAt (ve.set j1 (some (.own (ds1.eraseIdx i.toNat)))) j2 with
    | some ds => _
    | none => _) = _
  rw [ownAt_of h2']
  show (if ds2.length < sizeLine then _ else _) = _
  rw [if_pos hl]
theorem put_nx {ve : VEnv} {s s2 s3 : DS} {j : Nat} {m mi : EM} {d : D} {k : Int} {ds : List D} (hm : m (view [] 0 ve) s = .ok d s2) (hi : mi (view [] 0 ve) s2 = .ok (.int k) s3) (hv : ve[j]? = some (some (.own ds))) (k0 : 0 ≤ k) (k1 : k < ds.length) :
    Bd.put j (Bd.sx [] mi) (Bd.sx [] m) ve s = .ok .nx (ve.set j (some (.own (ds.set k.toNat d)))) s3 := by
  have hx : ixN ds.length k = some k.toNat := by
    unfold ixN
    rw [if_pos k0, if_pos k1]
  unfold Bd.put
  show Bd.sx [] m _ ve s = _
  unfold Bd.sx
  rw [ev_nil, hm]
  show (match Bd.ownAt ve j with
    | none => _
    | some _ => _) = _
  rw [ownAt_of hv]
  show Bd.withE (Bd.ev [] mi ve s2) ve _ = _
  rw [ev_nil, hi]
  show (match Bd.ownAt ve j, D.int k with
    | some ds, .int k => _
    | _, _ => _) = _
  rw [ownAt_of hv]
  show (match ixN ds.length k with
    | some n => _
    | none => _) = _
  rw [hx]
theorem noLsts_ints (b : Bool) : ∀ ns : List Int, noLsts b (ns.map D.int) = true
  | [] => rfl
  | n :: r => by
    show (true && noLsts b (r.map D.int)) = true
    rw [noLsts_ints b r]
    rfl
theorem noLst_row (b : Bool) (ns : List Int) : noLst b (.tup (ns.map D.int)) = true := noLsts_ints b ns
theorem fld_nx {tb : Tab} {j : Nat} {f c : Str} {vis : List Nat} {m : EM} {ve : VEnv} {s s2 : DS} {d : D} {fs : List (Str × D)} (hm : m (view vis 0 ve) s = .ok d s2) (hv : ve[j]? = some (some (.slf c fs))) (hk : Bd.okV vis ve d = true) (hf : tb.fld c f = true) (hl : fs.length < 1000) :
    Bd.fld tb j f vis m ve s = .ok .nx (ve.set j (some (.slf c (putD f d fs)))) s2 := by
  unfold Bd.fld
  rw [ev_ok hm, if_pos hk]
  show (match ve[j]? with
    | some (some (.slf c fs)) => _
    | _ => _) = _
  rw [hv]
  show (if tb.fld c f = true ∧ fs.length < 1000 then _ else _) = _
  rw [if_pos ⟨hf, hl⟩]
theorem rais_ex {c f : Str} {m : EM} {ve : VEnv} {s s2 : DS} {d : D} (hm : m (view [] 0 ve) s = .ok d s2) : Bd.rais c f [] m ve s = .exc c [(f, d)] ve s2 := by
  unfold Bd.rais
  rw [ev_nil, hm]
  rfl
theorem runI_ok {c : Str} {n np : Nat} {mb : BM} {ds : List D} {s s2 : DS} {fs : List (Str × D)} {ve : VEnv} (h : mb (some (.slf c []) :: (ds.map (fun d => some (.val d)) ++ List.replicate (n - (ds.length + 1)) none)) s = .ok .nx (some (.slf c fs) :: ve) s2) (hl : ds.length = np := by rfl) : Bd.runI c n np mb ds s = .ok fs s2 := by
  unfold Bd.runI Bd.startI
  rw [if_pos hl, h]
  show (match Bd.slf0 c (some (.slf c fs) :: ve) with
    | some fs => _
    | none => _) = _
  unfold Bd.slf0
  simp
theorem meth_of {tb : Tab} {nm c : Str} {fs : List (Str × D)} {g : List D → M D} (h1 : fs.lookup nm = none) (h2 : tb.meth c nm = some g) (r : List D) : dMeth tb nm (.ins c fs) r = g (.ins c fs :: r) := by
  unfold dMeth dGet
  simp only [h1, h2]
  rfl
theorem own_of {tb : Tab} {nm c : Str} {fs gs : List (Str × D)} {g : List D → M D} (hc : tb.cls c = true) (h1 : fs.lookup nm = none) (h2 : tb.meth c nm = some g) : dOwn tb nm (.ins c fs) (.ins c gs) = g [.ins c fs, .ins c gs] := by
  show (if c = c ∧ tb.cls c = true then dMeth tb nm (.ins c fs) [.ins c gs] else stuck) = _
  rw [if_pos ⟨rfl, hc⟩, meth_of h1 h2]
theorem ownI_of {tb : Tab} {nm c : Str} {fs : List (Str × D)} {i : Int} {g : List D → M D} (hc : tb.cls c = true) (h1 : fs.lookup nm = none) (h2 : tb.meth c nm = some g) : dOwnInt tb nm (.ins c fs) (.int i) = g [.ins c fs, .int i] := by
  show (if tb.cls c = true then dMeth tb nm (.ins c fs) [.int i] else stuck) = _
  rw [if_pos hc, meth_of h1 h2]
theorem cut_drop {α : Type} (xs : List α) (i : Nat) (h : i ≤ xs.length) : cutD xs (some (i : Int)) none = xs.drop i := by
  unfold cutD
  rw [HT.sIx_nat, HT.sIx_none, Nat.min_eq_left h, List.take_of_length_le]
  simp
theorem loop_of {t : Tg} {src : EL} {body : BM} {ve : VEnv} {s s2 : DS} {ds : List D} (h : src (view [] 0 ve) s = .ok ds s2) : Bd.loop t src body ve s = Bd.forL t body ds ve s2 := by
  unfold Bd.loop
  rw [h]
theorem loopR_of {t : Tg} {m : EM} {body : BM} {ve : VEnv} {s s2 : DS} {j : Int} (h : m (view [] 0 ve) s = .ok (.int j) s2) (h0 : Rg62 j) : Bd.loopR t [] m body ve s = Bd.forL t body (rangeD 0 j.toNat) ve s2 := by
  unfold Bd.loopR
  rw [ev_nil, h]
  show (if Rg62 j then _ else _) = _
  rw [if_pos h0]
theorem rangeD_get (lo : Int) (n i : Nat) (h : i < n) : (rangeD lo n)[i]? = some (.int (lo + i)) := by
  simp [rangeD, h]
theorem rangeD_plain (n : Nat) : rangeD 1 n = (PM.plainR n).map D.int := by
  unfold rangeD PM.plainR
  rw [List.map_map]
  refine List.map_congr_left fun i _ => ?_
  show D.int (1 + (i : Int)) = D.int ((i : Int) + 1)
  rw [Int.add_comm]
theorem enumD_at {ds : List D} {i : Nat} {d : D} (h : ds[i]? = some d) : (enumD ds)[i]? = some (.tup [.int (i : Nat), d]) := by
  simp [enumD, h]
theorem mem_rangeD {lo : Int} {n : Nat} {d : D} (h : d ∈ rangeD lo n) : ∃ i : Nat, i < n ∧ d = .int (lo + i) := by
  unfold rangeD at h
  obtain ⟨i, hi, rfl⟩ := List.mem_map.mp h
  exact ⟨i, List.mem_range.mp hi, rfl⟩
theorem lc_map {env0 : Env} {t : Tg} {elt : EM} {g : D → D} : ∀ (ds acc : List D) (s : DS), (∀ d ∈ ds, ∃ l, t.bind d = some l ∧ elt (setE env0 l) s = .ok (g d) s) → acc.length + ds.length ≤ sizeLine →
    lcM env0 t E.yes elt ds acc s = .ok (acc ++ ds.map g) s
  | [], acc, s, _, _ => by simp [lcM]
  | d :: r, acc, s, h, hl => by
    obtain ⟨l, h1, h2⟩ := h d (by simp)
    simp only [List.length_cons] at hl
    have ih := lc_map (env0 := env0) (t := t) (elt := elt) (g := g) r (acc ++ [g d]) s (fun d hd => h d (by simp [hd])) (by simp; omega)
    simp only [lcM, h1, r_bind, bnd_ok, noExc, r_yes, r_pure, h2, if_true, if_pos (show acc.length < sizeLine by omega), ih]
    simp
theorem lc_filter {env0 : Env} {t : Tg} {tst : ET} {elt : EM} {p : D → Bool} {g : D → D} : ∀ (ds acc : List D) (s : DS), (∀ d ∈ ds, ∃ l, t.bind d = some l ∧ tst (setE env0 l) s = .ok (p d) s ∧ (p d = true → elt (setE env0 l) s = .ok (g d) s)) → acc.length + ds.length ≤ sizeLine →
    lcM env0 t tst elt ds acc s = .ok (acc ++ (ds.filter p).map g) s
  | [], acc, s, _, _ => by simp [lcM]
  | d :: r, acc, s, h, hl => by
    obtain ⟨l, h1, h2, h3⟩ := h d (by simp)
    simp only [List.length_cons] at hl
    cases hp : p d with
    | true =>
      have ih := lc_filter (env0 := env0) (t := t) (tst := tst) (elt := elt) (p := p) (g := g) r (acc ++ [g d]) s (fun d hd => h d (by simp [hd])) (by simp; omega)
      simp only [lcM, h1, r_bind, bnd_ok, noExc, h2, h3 hp, hp, if_true, if_pos (show acc.length < sizeLine by omega), r_ite, ih]
      simp [hp]
    | false =>
      have ih := lc_filter (env0 := env0) (t := t) (tst := tst) (elt := elt) (p := p) (g := g) r acc s (fun d hd => h d (by simp [hd])) (by omega)
      simp only [lcM, h1, r_bind, bnd_ok, noExc, h2, hp, r_ite, ih]
      simp [hp]
theorem lcI {env0 : T.Env} {j : Nat} {elt : EM} {g : Int → Int} {ns : List Int} {s : DS} (h : ∀ x ∈ ns, elt (env0.set j (some (.int x))) s = .ok (.int (g x)) s) (hl : ns.length ≤ sizeLine) : lcM env0 (.nm j) E.yes elt (ns.map D.int) [] s = .ok ((ns.map g).map D.int) s := by
  rw [lc_map (g := fun d => match d with
    | .int x => .int (g x)
    | d => d) _ _ _ (fun d hd => by
      obtain ⟨x, hx, rfl⟩ := List.mem_map.mp hd
      exact ⟨_, rfl, h x hx⟩) (by simpa using hl)]
  rw [List.nil_append, List.map_map, List.map_map]
  rfl
theorem lcFI {env0 : T.Env} {j : Nat} {tst : ET} {elt : EM} {P : Int → Bool} {g : Int → Int} {ns : List Int} {s : DS} (h : ∀ x ∈ ns, tst (env0.set j (some (.int x))) s = .ok (P x) s) (h2 : ∀ x ∈ ns, elt (env0.set j (some (.int x))) s = .ok (.int (g x)) s) (hl : ns.length ≤ sizeLine) :
    lcM env0 (.nm j) tst elt (ns.map D.int) [] s = .ok (((ns.filter P).map g).map D.int) s := by
  rw [lc_filter (p := fun d => match d with
    | .int x => P x
    | _ => false) (g := fun d => match d with
    | .int x => .int (g x)
    | d => d) _ _ _ (fun d hd => by
      obtain ⟨x, hx, rfl⟩ := List.mem_map.mp hd
      exact ⟨_, rfl, h x hx, fun _ => h2 x hx⟩) (by simpa using hl)]
  rw [List.nil_append, List.filter_map, List.map_map, List.map_map]
  rfl
theorem lc_st {env0 : Env} {t : Tg} {elt : EM} {I : DS → Prop} {R : D → D → Prop} : ∀ (ds acc : List D) (s : DS), I s → (∀ d ∈ ds, ∀ s, I s → ∃ l y s', t.bind d = some l ∧ elt (setE env0 l) s = .ok y s' ∧ I s' ∧ R d y) → acc.length + ds.length ≤ sizeLine →
    ∃ ys s', lcM env0 t E.yes elt ds acc s = .ok (acc ++ ys) s' ∧ I s' ∧ ys.length = ds.length ∧ ∀ (i : Nat) (d y : D), ds[i]? = some d → ys[i]? = some y → R d y
  | [], acc, s, hI, _, _ => ⟨[], s, by simp [lcM], hI, rfl, fun i d y h => by simp at h⟩
  | d :: r, acc, s, hI, h, hl => by
    obtain ⟨l, y, s1, h1, h2, h3, h4⟩ := h d (by simp) s hI
    simp only [List.length_cons] at hl
    obtain ⟨ys, s', e1, e2, e3, e4⟩ := lc_st (env0 := env0) (t := t) (elt := elt) (I := I) (R := R) r (acc ++ [y]) s1 h3 (fun d hd => h d (by simp [hd])) (by simp; omega)
    refine ⟨y :: ys, s', ?_, e2, by simp [e3], fun i a b ha hb => ?_⟩
    · simp only [lcM, h1, r_bind, bnd_ok, noExc, r_yes, r_pure, h2, if_true, if_pos (show acc.length < sizeLine by omega), e1]
      simp
    · cases i with
      | zero => simp at ha hb; subst ha hb; exact h4
      | succ i => exact e4 i a b (by simpa using ha) (by simpa using hb)
theorem for_inv {t : Tg} {body : BM} (I : Nat → VEnv → DS → Prop) : ∀ (ds : List D) (k : Nat) (env : VEnv) (s : DS), I k env s → (∀ (i : Nat) (env : VEnv) (s : DS) (d : D), ds[i]? = some d → I (k + i) env s → ∃ l env' s', t.bind d = some l ∧ body (Bd.setS env l) s = .ok .nx env' s' ∧ I (k + i + 1) env' s') →
    ∃ env' s', Bd.forL t body ds env s = .ok .nx env' s' ∧ I (k + ds.length) env' s'
  | [], k, env, s, h, _ => ⟨env, s, rfl, h⟩
  | d :: r, k, env, s, h, hs => by
    obtain ⟨l, env1, s1, h1, h2, h3⟩ := hs 0 env s d rfl h
    obtain ⟨env', s', e1, e2⟩ := for_inv I r (k + 1) env1 s1 h3 (fun i env s d hd hI => by
      have := hs (i + 1) env s d (by simpa using hd) (by simpa [Nat.add_assoc, Nat.add_comm 1] using hI)
      simpa [Nat.add_assoc, Nat.add_comm 1] using this)
    refine ⟨env', s', ?_, by simpa [Nat.add_assoc, Nat.add_comm 1] using e2⟩
    show (match t.bind d with
      | none => _
      | some l => _) = _
    rw [h1]
    show (match body (Bd.setS env l) s with
      | .ok .nx env' s' => Bd.forL t body r env' s'
      | .ok .ct env' s' => Bd.forL t body r env' s'
      | .ok .bk env' s' => .ok .nx env' s'
      | x => x) = _
    rw [h2]
    exact e1
end
theorem atI_nat {α : Type} {xs : List α} {i : Int} {x : α} (h0 : 0 ≤ i) (h : xs[i.toNat]? = some x) : atI xs i = some x := by
  unfold atI ixN
  have hl : i.toNat < xs.length := by
    rcases List.getElem?_eq_some_iff.mp h with ⟨hl, _⟩
    exact hl
  rw [if_pos h0, if_pos (by omega)]
  exact h
end T
end
section
set_option Elab.async false
set_option linter.all false
set_option maxRecDepth 100000
set_option maxHeartbeats 4000000
namespace T
open PySem PySem.Spec PyProof.Rows L2
structure DI (p q : Addr) (s : DS) : Prop where
  at_ : s.at_ = some (p, q)
  ne : p ≠ q
  len : s.great.length ≤ 64
section
variable {p q : Addr} {s : DS}
theorem DI.with (h : DI p q s) {g : List Int} (hg : g.length ≤ 64) (m : Int) : DI p q ⟨g, m, s.at_⟩ := ⟨h.at_, h.ne, hg⟩
theorem dix0 (h : DI p q s) : dDix (.ref p) (.int 0) s = .ok (.ref q) s := by
  unfold dDix
  simp [h.at_]
theorem dix1 (h : DI p q s) : dDix (.ref p) (.int 1) s = .ok (.int s.mixed) s := by
  unfold dDix
  simp [h.at_]
theorem dixq (h : DI p q s) (i : Int) : dDix (.ref q) (.int i) s = (match atI s.great i with
    | some n => .ok (.int n) s
    | none => .stuck) := by
  unfold dDix
  simp only [h.at_, h.ne.symm, if_false, if_true] <;> rfl
theorem shaped_lstI (ns : List Int) : SeqAt.shaped (pyOf (.lst (ns.map D.int))) = true := by
  have := okEq_lstI ns
  unfold okEq at this
  simp at this
  exact this.2
theorem ddne (h : DI p q s) : dDne (.ref q) (.lst []) s = .ok (.bl (decide (s.great ≠ []))) s := by
  unfold dDne
  simp only [h.at_, if_true, shaped_lstI]
  have e : PyData.eqv (pyOf (.lst (s.great.map D.int))) (PyData.list []) = decide (s.great = []) := eqv_lstI s.great []
  rw [e]
  by_cases z : s.great = [] <;> simp [z]
theorem ddpop (h : DI p q s) (hg : s.great ≠ []) : ∃ n, s.great[s.great.length - 1]? = some n ∧ dDpop (.ref q) s = .ok (.int n) { s with great := s.great.dropLast } := by
  have hl : s.great.length - 1 < s.great.length := by
    have := List.length_pos_iff.mpr hg
    omega
  refine ⟨s.great[s.great.length - 1], List.getElem?_eq_getElem hl, ?_⟩
  unfold dDpop
  simp [h.at_, List.getElem?_eq_getElem hl]
theorem ddis (h : DI p q s) : dDis (.ref q) s = .ok () s := by
  unfold dDis
  simp [h.at_]
theorem ddapp (h : DI p q s) (hl : s.great.length < 64) (n : Int) : dDapp (.ref q) (.int n) s = .ok .non { s with great := s.great ++ [n] } := by
  unfold dDapp
  have : s.great.length < sizeLine := by
    have : (64 : Nat) < sizeLine := by decide
    omega
  simp [h.at_, this]
theorem at_last (g : List Int) (hg : g ≠ []) : atI g (-1) = g[g.length - 1]? := by
  have := List.length_pos_iff.mpr hg
  unfold atI ixN
  rw [if_neg (by omega), if_pos (by omega)]
  show g[(-1 + (g.length : Int)).toNat]? = _
  congr 1
  omega
end
theorem dput_nx {p q : Addr} {s s2 : DS} {j : Nat} {m : EM} {n : Int} {ve : VEnv} (h : DI p q s2) (hm : m (view [] 0 ve) s = .ok (.int n) s2) (hv : ve[j]? = some (some (.val (.ref p)))) : Bd.dput j m ve s = .ok .nx ve { s2 with mixed := n } := by
  unfold Bd.dput
  rw [hm, hv]
  simp [Bd.withE, h.at_]
abbrev tDraw : ET := (E.tand (E.tru (E.op2 dDne (E.op2 dDix (E.v 0) (E.c (.int 0))) (E.lst E.nil))) (E.tru (E.op2 dEq (E.op2 dDix (E.op2 dDix (E.v 0) (E.c (.int 0))) (E.op1 dNeg (E.c (.int 1)))) (E.c (.int 0)))))
abbrev wDraw : BM := (Bd.seq (Bd.exp [] (E.op1 dDpop (E.op2 dDix (E.v 0) (E.c (.int 0))))) Bd.nx)
def bDraw : BM :=
  (Bd.seq (Bd.whl (fun _ s => s.great.length + 1) [] (E.tand (E.tru (E.op2 dDne (E.op2 dDix (E.v 0) (E.c (.int 0))) (E.lst E.nil))) (E.tru (E.op2 dEq (E.op2 dDix (E.op2 dDix (E.v 0) (E.c (.int 0))) (E.op1 dNeg (E.c (.int 1)))) (E.c (.int 0))))) (Bd.seq (Bd.exp [] (E.op1 dDpop (E.op2 dDix (E.v 0) (E.c (.int 0)))))
  Bd.nx))
  (Bd.seq (Bd.ite [] (E.tru (E.op2 dDne (E.op2 dDix (E.v 0) (E.c (.int 0))) (E.lst E.nil))) (Bd.seq (Bd.asg (.nm 2) [] (E.op1 dDpop (E.op2 dDix (E.v 0) (E.c (.int 0)))))
  (Bd.seq (Bd.exp [] (E.dapp (E.op2 dDix (E.v 0) (E.c (.int 0))) (E.op2 dFdiv (E.v 2) (E.v 1))))
  (Bd.seq (Bd.ret [] (E.op2 dMod (E.opL dInt (E.cons (E.v 2) E.nil)) (E.v 1)))
  Bd.nx))) Bd.nx)
  (Bd.seq (Bd.dput 0 (E.op2 dMod (E.opL dInt (E.cons (E.op2 dMul (E.op2 dDix (E.v 0) (E.c (.int 1))) (E.c (.int 48271))) E.nil)) (E.c (.int 2147483647))))
  (Bd.seq (Bd.ret [] (E.op2 dMod (E.opL dInt (E.cons (E.op2 dFdiv (E.op2 dDix (E.v 0) (E.c (.int 1))) (E.c (.int 8))) E.nil)) (E.v 1)))
  Bd.nx))))
section
variable {p q : Addr} {s : DS}
theorem draw_loop {x y : Option SV} : ∀ (n : Nat) (s : DS), DI p q s → s.great.length < n → ∃ g : List Int, g.length ≤ s.great.length ∧
    Bd.loopW [] tDraw wDraw n [some (.val (.ref p)), x, y] s = .ok .nx [some (.val (.ref p)), x, y] { s with great := g }
  | 0, s, _, hn => absurd hn (by omega)
  | n + 1, s, h, hn => by
    unfold Bd.loopW
    rw [evT_nil]
    by_cases hg : s.great = []
    · refine ⟨s.great, Nat.le_refl _, ?_⟩
      simp [dix0 h, ddne h, hg, Bd.withT]
      rw [← hg]
    · obtain ⟨m, hm, hp⟩ := ddpop h hg
      have ht : tDraw (view [] 0 [some (.val (.ref p)), x, y]) s = .ok (m == 0) s := by
        simp [dix0 h, ddne h, hg, dixq h, at_last _ hg, hm]
      rw [ht]
      by_cases hz : m = 0
      · subst hz
        obtain ⟨g, h1, h2⟩ := draw_loop (x := x) (y := y) n { s with great := s.great.dropLast } (h.with (by have := h.len; simp; omega) s.mixed) (by
          have := List.length_pos_iff.mpr hg
          simp
          omega)
        refine ⟨g, by simp at h1; omega, ?_⟩
        show (match wDraw [some (.val (.ref p)), x, y] s with
          | .ok .nx env' s' => Bd.loopW [] tDraw wDraw n env' s'
          | .ok .ct env' s' => Bd.loopW [] tDraw wDraw n env' s'
          | .ok .bk env' s' => .ok .nx env' s'
          | x => x) = _
        have hb : wDraw [some (.val (.ref p)), x, y] s = .ok .nx [some (.val (.ref p)), x, y] { s with great := s.great.dropLast } := by
          show Bd.seq _ _ _ _ = _
          rw [seq_nx (exp_nx (d := .int 0) (s2 := { s with great := s.great.dropLast }) (by simp [dix0 h, hp]))]
          rfl
        rw [hb]
        exact h2
      · refine ⟨s.great, Nat.le_refl _, ?_⟩
        simp [Bd.withT, hz]
theorem draw_ok (h : DI p q s) {n : Int} (hn : 0 < n) (hn2 : n < 1073741824) : ∃ (r : Int) (s' : DS), Bd.run 3 2 bDraw [.ref p, .int n] s = .ok (.int r) s' ∧ 0 ≤ r ∧ r < n ∧ DI p q s' := by
  obtain ⟨g, hg, hl⟩ := draw_loop (p := p) (q := q) (x := some (.val (.int n))) (y := none) (s.great.length + 1) s h (by omega)
  have h1 : DI p q { s with great := g } := h.with (by have := h.len; omega) s.mixed
  suffices hs : ∃ (r : Int) (s' : DS) (ve : VEnv), bDraw [some (.val (.ref p)), some (.val (.int n)), none] s = .ok (.rt (.int r)) ve s' ∧ 0 ≤ r ∧ r < n ∧ DI p q s' by
    obtain ⟨r, s', ve, e, r0, r1, h'⟩ := hs
    exact ⟨r, s', run_rt e, r0, r1, h'⟩
  unfold bDraw
  rw [seq_nx (s2 := { s with great := g }) (ve2 := [some (.val (.ref p)), some (.val (.int n)), none]) (by unfold Bd.whl; exact hl)]
  by_cases hz : g = []
  · subst hz
    rw [seq_nx (s2 := { s with great := [] }) (ve2 := [some (.val (.ref p)), some (.val (.int n)), none]) (by
      rw [ite_b (k := false) (s2 := { s with great := [] }) (by simp [dix0 h1, ddne h1])]
      rfl)]
    have h2 : DI p q ⟨[], s.mixed * 48271 % 2147483647, s.at_⟩ := h1.with h1.len _
    rw [seq_nx (dput_nx (n := s.mixed * 48271 % 2147483647) h1 (by simp [dix1 h1, CMul]) rfl)]
    refine ⟨s.mixed * 48271 % 2147483647 / 8 % n, ⟨[], s.mixed * 48271 % 2147483647, s.at_⟩, [some (.val (.ref p)), some (.val (.int n)), none], ?_, Int.emod_nonneg _ (by omega), Int.emod_lt_of_pos _ hn, h2⟩
    exact seq_rt (ret_rt (d := .int (s.mixed * 48271 % 2147483647 / 8 % n)) (s2 := ⟨[], s.mixed * 48271 % 2147483647, s.at_⟩) (by simp [dix1 h2, CDiv, hn]))
  · obtain ⟨m, hm, hp⟩ := ddpop h1 hz
    have hp' : dDpop (.ref q) { s with great := g } = .ok (.int m) { s with great := g.dropLast } := hp
    have hgl := List.length_pos_iff.mpr hz
    have h2 : DI p q { s with great := g.dropLast } := h.with (by have := h.len; simp; omega) s.mixed
    have h3 : DI p q { s with great := g.dropLast ++ [m / n] } := h.with (by have := h.len; simp; omega) s.mixed
    refine ⟨m % n, { s with great := g.dropLast ++ [m / n] }, [some (.val (.ref p)), some (.val (.int n)), some (.val (.int m))], ?_, Int.emod_nonneg _ (by omega), Int.emod_lt_of_pos _ hn, h3⟩
    refine seq_rt (d := .int (m % n)) (s2 := { s with great := g.dropLast ++ [m / n] }) ?_
    rw [ite_b (k := true) (s2 := { s with great := g }) (by simp [dix0 h1, ddne h1, hz])]
    simp only [if_true]
    rw [seq_nx (asgN_nx (d := .int m) (s2 := { s with great := g.dropLast }) (by simp [dix0 h1, hp']))]
    rw [seq_nx (exp_nx (d := .non) (s2 := { s with great := g.dropLast ++ [m / n] }) (by
      have := ddapp h2 (by have := h.len; simp; omega) (m / n)
      simp [E.dapp, dix0 h2, ddis h2, CDiv, hn, hn2, this]))]
    exact seq_rt (ret_rt (d := .int (m % n)) (s2 := { s with great := g.dropLast ++ [m / n] }) (by simp [hn]))
def bPick (m : List D → M D) : BM :=
  (Bd.seq (Bd.ret [] (E.op2 dIx (E.v 1) (E.fn 2 m [] (E.cons (E.v 0) (E.cons (E.opL dLen (E.cons (E.v 1) E.nil)) E.nil)))))
  Bd.nx)
theorem pick_ok (h : DI p q s) {xs : List D} (h0 : 0 < xs.length) (h1 : xs.length < 1000000) : ∃ (x : D) (s' : DS), Bd.run 2 2 (bPick (Bd.run 3 2 bDraw)) [.ref p, .lst xs] s = .ok x s' ∧ x ∈ xs ∧ DI p q s' := by
  obtain ⟨r, s', e, r0, r1, h'⟩ := draw_ok (s := s) h (n := (xs.length : Int)) (by omega) (by omega)
  have hr : r.toNat < xs.length := by omega
  have hx : xs[r.toNat]? = some (xs[r.toNat]) := List.getElem?_eq_getElem hr
  refine ⟨xs[r.toNat], s', ?_, List.getElem_mem hr, h'⟩
  exact run_rt (seq_rt (ret_rt (d := xs[r.toNat]) (s2 := s') (by simp [e, atI_nat r0 hx])))
end
end T
end
section
set_option Elab.async false
set_option linter.all false
set_option maxRecDepth 100000
set_option maxHeartbeats 4000000
namespace T
open PySem PySem.Spec PyProof.Rows L2
section
variable {α β : Type} {s : DS} {env : Env}
theorem seen_o0 (k : Nat) (ds : List D) : seen1 [] k (some (.own ds)) = none := Eq.trans rfl rfl
theorem seen_s0 (k : Nat) (c : Str) (fs : List (Str × D)) : seen1 [] k (some (.slf c fs)) = none := Eq.trans rfl rfl
@[simp] theorem r_star (a : EM) (r : EA) : E.star a r env = (a env >>= fun x => items x >>= fun ds => r env >>= fun xs => pure (ds ++ xs)) := Eq.trans rfl rfl
@[simp] theorem r_rng3 (a : EA) : E.rng3 a env = (a env >>= rngDn) := Eq.trans rfl rfl
@[simp] theorem rngDn_i (i j c : Int) : rngDn [.int i, .int j, .int c] = if RgDn i j ∧ c = -1 then pure (downD i (i - j).toNat) else stuck := Eq.trans rfl rfl
theorem rgDn_of {i j : Int} (h0 : 0 ≤ i) (h1 : i < 1000000000) (h2 : 0 ≤ j) (h3 : j < 1000000000) : RgDn i j := by unfold RgDn; omega
@[simp] theorem r_zip (a : EA) : E.zip a env = (a env >>= zipI) := Eq.trans rfl rfl
@[simp] theorem zipI_l (a b : List D) : zipI [.lst a, .lst b] = pure (zipD a b) := Eq.trans rfl rfl
@[simp] theorem r_cnt (a b : EM) : E.cnt a b env = (a env >>= fun x => isLst x >>= fun _ => b env >>= fun y => dCnt x y) := Eq.trans rfl rfl
@[simp] theorem isLst_l (ds : List D) : isLst (.lst ds) = pure () := Eq.trans rfl rfl
@[simp] theorem cnt3 (x y z : Bool) : dCnt (.lst [.bl x, .bl y, .bl z]) (.bl true) = pure (.int (([x, y, z].countP id : Nat))) := by
  cases x <;> cases y <;> cases z <;> rfl
@[simp] theorem r_meth (tb : Tab) (nm : Str) (o : EM) (a : EA) : E.meth tb nm o a env = (o env >>= fun x => dGet tb nm x >>= fun g => a env >>= fun xs => g (x :: xs)) := Eq.trans rfl rfl
theorem get_of {tb : Tab} {nm c : Str} {fs : List (Str × D)} {g : List D → M D} (h1 : fs.lookup nm = none) (h2 : tb.meth c nm = some g) : dGet tb nm (.ins c fs) = pure g := by
  unfold dGet
  simp only [h1, h2] <;> rfl
@[simp] theorem r_fnF (n : Nat) (m : List D → M D) (a : EA) : E.fnF n m a env = (a env >>= fun xs => if xs.length = n then m xs else stuck) := Eq.trans rfl rfl
@[simp] theorem d_revT (xs : List D) : dRevT (.tup xs) = pure (.tup xs.reverse) := Eq.trans rfl rfl
@[simp] theorem r_lc2 (vs : List Nat) (src : EL) (t : Tg) (tst : ET) (src1 : EL) (vs1 : List Nat) (t1 : Tg) (tst1 : ET) (elt : EM) : E.lc2 vs src t tst src1 vs1 t1 tst1 elt env = (src env >>= fun ds => lcM2 (wipeE env vs) t tst src1 vs1 t1 tst1 elt ds [] >>= fun out => pure (.lst out)) := Eq.trans rfl rfl
theorem lc2_map {env0 : Env} {t t1 : Tg} {src1 : EL} {vs1 : List Nat} {elt : EM} {f : D → List D} {g : D → D → D} : ∀ (ds acc : List D) (s : DS),
    (∀ d ∈ ds, ∃ l, t.bind d = some l ∧ src1 (setE env0 l) s = .ok (f d) s ∧ ∀ e ∈ f d, ∃ l1, t1.bind e = some l1 ∧ elt (setE (wipeE (setE env0 l) vs1) l1) s = .ok (g d e) s) →
    acc.length + (ds.flatMap fun d => (f d).map (g d)).length ≤ sizeLine → lcM2 env0 t E.yes src1 vs1 t1 E.yes elt ds acc s = .ok (acc ++ ds.flatMap fun d => (f d).map (g d)) s
  | [], acc, s, _, _ => by simp [lcM2]
  | d :: r, acc, s, h, hl => by
    obtain ⟨l, h1, h2, h3⟩ := h d (by simp)
    simp only [List.flatMap_cons, List.length_append, List.length_map] at hl
    have e1 := lc_map (env0 := wipeE (setE env0 l) vs1) (t := t1) (elt := elt) (g := g d) (f d) acc s h3 (by omega)
    have ih := lc2_map (env0 := env0) (t := t) (t1 := t1) (src1 := src1) (vs1 := vs1) (elt := elt) (f := f) (g := g) r (acc ++ (f d).map (g d)) s (fun d hd => h d (by simp [hd])) (by rw [List.length_append, List.length_map]; omega)
    simp only [lcM2, h1, r_bind, bnd_ok, noExc, r_yes, r_pure, h2, if_true, e1, ih]
    simp
end
section
variable {ve : VEnv}
theorem seq_rtL {a b : BM} {ve ve2 : VEnv} {s s2 : DS} {ds : List D} (h : a ve s = .ok (.rtL ds) ve2 s2) : Bd.seq a b ve s = .ok (.rtL ds) ve2 s2 := by
  unfold Bd.seq
  rw [h]
theorem retF_rt {m : EM} {ds : List D} {s s2 : DS} (h : m (view [] 0 ve) s = .ok (.lst ds) s2) : Bd.retF m ve s = .ok (.rtL ds) ve s2 := by
  unfold Bd.retF
  rw [h]
theorem runF_ok {n np : Nat} {mb : BM} {xs ds : List D} {s s2 : DS} {ve2 : VEnv} (h : mb (xs.map (fun d => some (SV.val d)) ++ List.replicate (n - xs.length) none) s = .ok (.rtL ds) ve2 s2) (hl : xs.length = np := by rfl) : Bd.runF n np mb xs s = .ok (.lst ds) s2 := by
  unfold Bd.runF Bd.start
  rw [if_pos hl, h]
  rfl
theorem ext_nx {s s2 : DS} {j : Nat} {m : EM} {es ds : List D} (hm : m (view [] 0 ve) s = .ok (.lst es) s2) (hv : ve[j]? = some (some (.own ds))) (hl : ds.length + es.length ≤ sizeLine) : Bd.ext j (Bd.sx [] m) ve s = .ok .nx (ve.set j (some (.own (ds ++ es)))) s2 := by
  unfold Bd.ext
  rw [ownAt_of hv]
  show Bd.sx [] m _ ve s = _
  unfold Bd.sx
  rw [ev_nil, hm]
  show (match Bd.ownAt ve j, D.lst es with
    | some ds, .lst es => _
    | _, _ => _) = _
  rw [ownAt_of hv]
  show (if _ then _ else _) = _
  rw [if_pos hl]
theorem frz_nx {s : DS} {j : Nat} {ds : List D} (hv : ve[j]? = some (some (.own ds))) : Bd.frz j ve s = .ok .nx (ve.set j (some (.val (.lst ds)))) s := by
  unfold Bd.frz
  rw [hv]
theorem expP_nx {s : DS} {j : Nat} {ds : List D} {d : D} (hv : ve[j]? = some (some (.own ds))) (hd : ds[ds.length - 1]? = some d) : Bd.expX (Bd.pop j) ve s = .ok .nx (ve.set j (some (.own ds.dropLast))) s := by
  unfold Bd.expX Bd.pop
  rw [ownAt_of hv]
  show (match ds[ds.length - 1]? with
    | some d => _
    | none => _) = _
  rw [hd]
end
def ltL : List Int → List Int → Bool
  | [], [] => false
  | [], _ :: _ => true
  | _ :: _, [] => false
  | x :: r, y :: t => if x = y then ltL r t else decide (x < y)
def ltQ (a b : List Int) : Bool := if a.length = b.length then ltL a b else decide (a.length < b.length)
theorem alikeA_ints : ∀ a b : List Int, PySem.W.alikeAll (a.map PyData.int) (b.map PyData.int) = true
  | [], [] => rfl
  | [], _ :: _ => rfl
  | _ :: _, [] => rfl
  | _ :: r, _ :: t => by
    simp only [List.map_cons, PySem.W.alikeAll, PySem.W.alike, alikeA_ints r t, Bool.and_self]
theorem lexL : ∀ a b : List Int, PyProof.Rows.lexLt itemOrd (PySem.W.keyToksAll (a.map PyData.int)) (PySem.W.keyToksAll (b.map PyData.int)) = ltL a b
  | [], [] => by
    simp only [List.map_nil, ltL]
    exact PyProof.Rows.lex_irrefl _
  | [], y :: t => by
    simp only [List.map_nil, List.map_cons, PySem.W.keyToksAll, ltL]
    rw [PyProof.Rows.lex_diff (O := itemOrd) (by simp)]
    rfl
  | x :: r, [] => by
    simp only [List.map_nil, List.map_cons, PySem.W.keyToksAll, ltL]
    rw [PyProof.Rows.lex_diff (O := itemOrd) (by simp)]
    rfl
  | x :: r, y :: t => by
    simp only [List.map_cons, ltL]
    rw [PySem.W.dataLt_cons (x := .int x) (y := .int y) (by simp [PySem.W.alike]), PySem.W.dataLt_int, lexL r t]
    by_cases h : x = y <;> simp [h, PyData.eqv]
theorem okEq_pair (n : Int) (a : List Int) : okEq (.tup [.int n, rowD a]) = true := by
  simp [okEq, plain, plains, plains_ints, SeqAt.shaped, pyOf, pyOfs, pyOfs_ints, PyData.canLay0, PyData.canLayAll0, canLay_ints, PyData.depth, PyData.depthAll, depth_ints]
theorem ltD_pair (n m : Int) (a b : List Int) : dLtD (.tup [.int n, .tup (a.map D.int)]) (.tup [.int m, .tup (b.map D.int)]) = pure (.bl (if n = m then ltL a b else decide (n < m))) := by
  have h1 := okEq_pair n a
  have h2 := okEq_pair m b
  have h3 : PySem.W.alike (pyOf (.tup [.int n, rowD a])) (pyOf (.tup [.int m, rowD b])) = true := by
    simp [pyOf, pyOfs, pyOfs_ints, PySem.W.alike, PySem.W.alikeAll, alikeA_ints]
  have h4 : PySem.W.dataLt (pyOf (.tup [.int n, rowD a])) (pyOf (.tup [.int m, rowD b])) = (if n = m then ltL a b else decide (n < m)) := by
    simp only [pyOf, pyOfs, pyOfs_ints, PySem.W.dataLt_tuple]
    rw [PySem.W.dataLt_cons (x := .int n) (y := .int m) (by simp [PySem.W.alike]), PySem.W.dataLt_int]
    by_cases h : n = m
    · rw [if_pos (by simp [PyData.eqv, h]), if_pos h, PySem.W.dataLt_cons (by simp [PySem.W.alike, alikeA_ints])]
      by_cases he : a = b
      · subst he
        rw [if_pos (by simp [PyData.eqv, eqv_ints]), PyProof.Rows.lex_irrefl, ← lexL, PyProof.Rows.lex_irrefl]
      · rw [if_neg (by simp [PyData.eqv, eqv_ints, he]), PySem.W.dataLt_tuple, lexL]
    · rw [if_neg (by simp [PyData.eqv, h]), if_neg h]
  have h5 : okLt (.tup [.int n, rowD a]) (.tup [.int m, rowD b]) = true := by
    unfold okLt
    rw [h1, h2, h3]
    rfl
  unfold dLtD
  rw [if_pos h5, h4]
theorem ltL_irrefl : ∀ a : List Int, ltL a a = false
  | [] => rfl
  | x :: r => by simp [ltL, ltL_irrefl r]
theorem ltL_tri : ∀ a b : List Int, a ≠ b → ltL b a = !ltL a b
  | [], [], h => absurd rfl h
  | [], _ :: _, _ => rfl
  | _ :: _, [], _ => rfl
  | x :: r, y :: t, h => by
    simp only [ltL]
    by_cases e : x = y
    · subst e
      rw [if_pos rfl, if_pos rfl, ltL_tri r t (fun z => h (by rw [z]))]
    · rw [if_neg e, if_neg (fun z => e z.symm)]
      by_cases h2 : x < y
      · have h3 : ¬ y < x := by omega
        simp [h2, h3]
      · have h3 : y < x := by omega
        simp [h2, h3]
theorem ltQ_tri (a b : List Int) : [ltQ a b, decide (a = b), ltQ b a].countP id = 1 := by
  by_cases e : a = b
  · subst e
    simp [ltQ, ltL_irrefl]
  · by_cases hl : a.length = b.length
    · have := ltL_tri a b e
      simp only [ltQ, if_pos hl, if_pos hl.symm, this, e, decide_false]
      cases ltL a b <;> rfl
    · have h1 : ltQ a b = decide (a.length < b.length) := if_neg hl
      have h2 : ltQ b a = decide (b.length < a.length) := if_neg (fun z => hl z.symm)
      rw [h1, h2]
      by_cases h3 : a.length < b.length
      · have h4 : ¬ b.length < a.length := by omega
        simp [h3, h4, e]
      · have h4 : b.length < a.length := by omega
        simp [h3, h4, e]
end T
end
section
set_option Elab.async false
set_option linter.all false
set_option maxRecDepth 100000
set_option maxHeartbeats 4000000
namespace G
open PySem PySem.Spec PyProof.Rows L2 T
abbrev PP : Program := PySem.Challenge.pw_letouts_k08_orders_ascending
def top (i : Nat) : Stmt := PySem.Challenge.pw_letouts_k08_orders_ascending.main.body.getD i (.Pass ⟨0, 0, 0, 0⟩)
def frees : List Str := ["abs", "int", "range", "min", "tuple", "len", "isinstance", "bool", "list", "all", "enumerate", "sorted", "max", "zip"]
def classes : List Str := ["Order", "InvalidOrder"]
def isL : List (CN × CN × Bool) := [(.b "int", .b "int", true), (.b "bool", .b "int", true), (.b "int", .b "bool", false), (.b "bool", .b "bool", true), (.b "list", .b "list", true), (.b "tuple", .b "list", false), (.b "tuple", .b "tuple", true)]
def isT : CN → CN → Option Bool := isLk isL
def tb0 : Tab := ⟨fun c => c == "Order", fun c f => c == "Order" && (f == "row" || f == "ranks" || f == "width"), fun _ _ => none⟩
variable {P : Program} {w : World} {K : Fg} {mg : Str → Option Value} {base : Heap}
def N_law_deal : List Str := ["_law_script", "_law_base", "_law_cell", "_law_cells", "_law_mixed"]
def P_law_deal : List Str := ["_law_script", "_law_base"]
abbrev st_law_deal : Stmt := (top 16)
abbrev sc_law_deal : Scope := defScope st_law_deal
theorem S_law_deal : FnScope N_law_deal P_law_deal sc_law_deal := fnB_ok (by decide +kernel)
theorem C_law_deal : chk N_law_deal sc_law_deal [0, 1, 2, 3, 4] [0, 1, 2, 3, 4] [] ["int"] = true := by decide +kernel
def sc_law_deal_0 : Scope := { kind := .function, names := [(".0", .local), ("_law_cell", .local), ("abs", .globalImplicit)], isGenerator := false, isCoroutine := false, more := [] }
theorem C_law_deal_0 : chk N_law_deal (relS sc_law_deal_0 sc_law_deal) [2] [2] [] ["abs"] = true := by decide +kernel
theorem B_law_deal_0 : blkB N_law_deal sc_law_deal sc_law_deal_0 [("_law_cell", 2)] = true := by decide +kernel
def sc_law_deal_1 : Scope := { kind := .function, names := [(".0", .local), ("_law_cell", .local)], isGenerator := false, isCoroutine := false, more := [] }
theorem C_law_deal_1 : chk N_law_deal (relS sc_law_deal_1 sc_law_deal) [2] [2] [] [] = true := by decide +kernel
theorem B_law_deal_1 : blkB N_law_deal sc_law_deal sc_law_deal_1 [("_law_cell", 2)] = true := by decide +kernel
def b_law_deal : BM :=
  (Bd.seq (Bd.asgL 3 [] (E.lc [2] (E.it (E.sl (E.v 0) (E.p1 (E.v 1)) (E.p1 (E.c (.int 63))))) (.nm 2) E.yes (E.opL dAbs (E.cons (E.v 2) E.nil))))
  (Bd.seq (Bd.asg (.nm 4) [] (E.op2 dAdd (E.c (.int 15485863)) (E.op2 dMul (E.c (.int 11)) (E.v 1))))
  (Bd.seq (Bd.loop (.nm 2) (E.it (E.v 3)) (Bd.seq (Bd.asg (.nm 4) [] (E.op2 dMod (E.opL dInt (E.cons (E.op2 dAdd (E.op2 dMul (E.v 4) (E.c (.int 16807))) (E.op2 dMod (E.opL dInt (E.cons (E.v 2) E.nil)) (E.c (.int 2147483629)))) E.nil)) (E.c (.int 2147483647))))
  Bd.nx))
  (Bd.seq (Bd.retD (E.op1 dRev (E.lc [2] (E.it (E.v 3)) (.nm 2) (E.tru (E.op2 dGe (E.v 2) (E.op2 dPow (E.c (.int 10)) (E.c (.int 18))))) (E.v 2))) (E.op2 dAdd (E.op2 dMod (E.opL dInt (E.cons (E.v 4) E.nil)) (E.c (.int 2147483646))) (E.c (.int 1))))
  Bd.nx))))
theorem bo_law_deal (hfree : ∀ (i : Nat) (x : Str), frees[i]? = some x → mg x = none) (hcls : ∀ (i : Nat) (x : Str), classes[i]? = some x → mg x = some (.ref (He.ga K x))) : BodyOk P w K mg base N_law_deal "_law_deal" sc_law_deal 0 (defBody st_law_deal) b_law_deal := by
  intro f cdv A outer s H E hr
  have hc : (cxOf (L2N.CX P w) P w K mg base N_law_deal "_law_deal" sc_law_deal f cdv A outer s H E).calm = true := rfl
  have hun : (A.deeper (envOfC "_law_deal" sc_law_deal s.heap.objs.size f cdv)).units + 64 < cLine := hr.units
  have hN := S_law_deal.nd
  have tk : L2N.Takes (cxOf (L2N.CX P w) P w K mg base N_law_deal "_law_deal" sc_law_deal f cdv A outer s H E) (fun c d _ H => E c d H) := L2N.takes_of rfl rfl rfl rfl
  have hp : PassesOwn (model P w) (A.deeper (envOfC "_law_deal" sc_law_deal s.heap.objs.size f cdv)) (envOfC "_law_deal" sc_law_deal s.heap.objs.size f cdv) (cxOf (L2N.CX P w) P w K mg base N_law_deal "_law_deal" sc_law_deal f cdv A outer s H E).xe := passes_of (X := (cxOf (L2N.CX P w) P w K mg base N_law_deal "_law_deal" sc_law_deal f cdv A outer s H E)) rfl
  exact (st_cons (st_lcL0 (t := (.nm 2)) (lo C_law_deal 3) rfl rfl hc hN (i_it (e_sl (e_vv (vi C_law_deal 0)) (p_some (e_vv (vi C_law_deal 1))) (p_some e_int))) (blkB_ok B_law_deal_0) (by decide) (fun _ => (pg_v hN ⟨rfl, .inl (lo C_law_deal_0 2), .inr (lo C_law_deal_0 2)⟩)) (fun _ => (e_blt c_abs (gl C_law_deal_0 0) (hfree 0 _ rfl) boot_abs (ea_cons (e_vv (vi C_law_deal_0 2)) ea_nil))))
  (st_cons (st_setV (e_bin o_add e_int (e_bin o_mul e_int (e_vv (vi C_law_deal 1)))) hN ⟨rfl, .inl (lo C_law_deal 4), .inr (lo C_law_deal 4)⟩)
  (st_cons (st_for (t := (.nm 2)) hp hc (i_it (e_vv (vi C_law_deal 3))) (pg_v hN ⟨rfl, .inl (lo C_law_deal 2), .inr (lo C_law_deal 2)⟩) (st_cons (st_setV (e_bin o_mod (e_ty c_int (gl C_law_deal 0) (hfree 1 _ rfl) boot_int (ea_cons (e_bin o_add (e_bin o_mul (e_vv (vi C_law_deal 4)) e_int) (e_bin o_mod (e_ty c_int (gl C_law_deal 0) (hfree 1 _ rfl) boot_int (ea_cons (e_vv (vi C_law_deal 2)) ea_nil)) e_int)) ea_nil)) e_int) hN ⟨rfl, .inl (lo C_law_deal 4), .inr (lo C_law_deal 4)⟩)
  st_nil))
  (st_cons (st_retD (rev_fr (e_lc (lc_fr1 (t := (.nm 2)) hc hN (i_it (e_vv (vi C_law_deal 3))) (blkB_ok B_law_deal_1) (by decide) (fun _ => (pg_v hN ⟨rfl, .inl (lo C_law_deal_1 2), .inr (lo C_law_deal_1 2)⟩)) (fun _ => (t_cmp o_ge (e_vv (vi C_law_deal_1 2)) (e_bin o_pow e_int e_int))) (fun _ => (e_vv (vi C_law_deal_1 2)))))) (e_bin o_add (e_bin o_mod (e_ty c_int (gl C_law_deal 0) (hfree 1 _ rfl) boot_int (ea_cons (e_vv (vi C_law_deal 4)) ea_nil)) e_int) e_int))
  st_nil))))
def m_law_deal : List D → M D := Bd.run 5 2 b_law_deal
def N_law_draw : List Str := ["_law_deal_here", "_law_many", "_law_left"]
def P_law_draw : List Str := ["_law_deal_here", "_law_many"]
abbrev st_law_draw : Stmt := (top 17)
abbrev sc_law_draw : Scope := defScope st_law_draw
theorem S_law_draw : FnScope N_law_draw P_law_draw sc_law_draw := fnB_ok (by decide +kernel)
theorem C_law_draw : chk N_law_draw sc_law_draw [0, 1, 2] [0, 1, 2] [] ["int"] = true := by decide +kernel
def b_law_draw : BM :=
  (Bd.seq (Bd.whl (fun _ s => s.great.length + 1) [] (E.tand (E.tru (E.op2 dDne (E.op2 dDix (E.v 0) (E.c (.int 0))) (E.lst E.nil))) (E.tru (E.op2 dEq (E.op2 dDix (E.op2 dDix (E.v 0) (E.c (.int 0))) (E.op1 dNeg (E.c (.int 1)))) (E.c (.int 0))))) (Bd.seq (Bd.exp [] (E.op1 dDpop (E.op2 dDix (E.v 0) (E.c (.int 0)))))
  Bd.nx))
  (Bd.seq (Bd.ite [] (E.tru (E.op2 dDne (E.op2 dDix (E.v 0) (E.c (.int 0))) (E.lst E.nil))) (Bd.seq (Bd.asg (.nm 2) [] (E.op1 dDpop (E.op2 dDix (E.v 0) (E.c (.int 0)))))
  (Bd.seq (Bd.exp [] (E.dapp (E.op2 dDix (E.v 0) (E.c (.int 0))) (E.op2 dFdiv (E.v 2) (E.v 1))))
  (Bd.seq (Bd.ret [] (E.op2 dMod (E.opL dInt (E.cons (E.v 2) E.nil)) (E.v 1)))
  Bd.nx))) Bd.nx)
  (Bd.seq (Bd.dput 0 (E.op2 dMod (E.opL dInt (E.cons (E.op2 dMul (E.op2 dDix (E.v 0) (E.c (.int 1))) (E.c (.int 48271))) E.nil)) (E.c (.int 2147483647))))
  (Bd.seq (Bd.ret [] (E.op2 dMod (E.opL dInt (E.cons (E.op2 dFdiv (E.op2 dDix (E.v 0) (E.c (.int 1))) (E.c (.int 8))) E.nil)) (E.v 1)))
  Bd.nx))))
theorem bo_law_draw (hfree : ∀ (i : Nat) (x : Str), frees[i]? = some x → mg x = none) (hcls : ∀ (i : Nat) (x : Str), classes[i]? = some x → mg x = some (.ref (He.ga K x))) : BodyOk P w K mg base N_law_draw "_law_draw" sc_law_draw 0 (defBody st_law_draw) b_law_draw := by
  intro f cdv A outer s H E hr
  have hc : (cxOf (L2N.CX P w) P w K mg base N_law_draw "_law_draw" sc_law_draw f cdv A outer s H E).calm = true := rfl
  have hun : (A.deeper (envOfC "_law_draw" sc_law_draw s.heap.objs.size f cdv)).units + 64 < cLine := hr.units
  have hN := S_law_draw.nd
  have tk : L2N.Takes (cxOf (L2N.CX P w) P w K mg base N_law_draw "_law_draw" sc_law_draw f cdv A outer s H E) (fun c d _ H => E c d H) := L2N.takes_of rfl rfl rfl rfl
  have hp : PassesOwn (model P w) (A.deeper (envOfC "_law_draw" sc_law_draw s.heap.objs.size f cdv)) (envOfC "_law_draw" sc_law_draw s.heap.objs.size f cdv) (cxOf (L2N.CX P w) P w K mg base N_law_draw "_law_draw" sc_law_draw f cdv A outer s H E).xe := passes_of (X := (cxOf (L2N.CX P w) P w K mg base N_law_draw "_law_draw" sc_law_draw f cdv A outer s H E)) rfl
  exact (st_cons (st_while (fun _ s => s.great.length + 1) hp (EvW.t (w_and (t_cmp (o_dne hun) (e_dix (e_vv (vi C_law_draw 0)) e_int) (e_lst ea_nil)) (w_and1 (t_cmp (o_eq hun) (e_dix (e_dix (e_vv (vi C_law_draw 0)) e_int) (e_una o_neg e_int)) e_int)))) (st_cons (st_exp (e_dpop (e_dix (e_vv (vi C_law_draw 0)) e_int) ⟨rfl, rfl⟩))
  st_nil))
  (st_cons (st_if (t_cmp (o_dne hun) (e_dix (e_vv (vi C_law_draw 0)) e_int) (e_lst ea_nil)) (st_cons (st_setV (e_dpop (e_dix (e_vv (vi C_law_draw 0)) e_int) ⟨rfl, rfl⟩) hN ⟨rfl, .inl (lo C_law_draw 2), .inr (lo C_law_draw 2)⟩)
  (st_cons (st_exp (e_dapp (e_dix (e_vv (vi C_law_draw 0)) e_int) (e_bin o_fdiv (e_vv (vi C_law_draw 2)) (e_vv (vi C_law_draw 1))) ⟨⟨rfl, rfl⟩, rfl, rfl, rfl⟩))
  (st_cons (st_ret (e_bin o_mod (e_ty c_int (gl C_law_draw 0) (hfree 1 _ rfl) boot_int (ea_cons (e_vv (vi C_law_draw 2)) ea_nil)) (e_vv (vi C_law_draw 1))))
  st_nil))) st_nil)
  (st_cons (st_dput 0 (vi C_law_draw 0).rcv (e_bin o_mod (e_ty c_int (gl C_law_draw 0) (hfree 1 _ rfl) boot_int (ea_cons (e_bin o_mul (e_dix (e_vv (vi C_law_draw 0)) e_int) e_int) ea_nil)) e_int))
  (st_cons (st_ret (e_bin o_mod (e_ty c_int (gl C_law_draw 0) (hfree 1 _ rfl) boot_int (ea_cons (e_bin o_fdiv (e_dix (e_vv (vi C_law_draw 0)) e_int) e_int) ea_nil)) (e_vv (vi C_law_draw 1))))
  st_nil))))
def m_law_draw : List D → M D := Bd.run 3 2 b_law_draw
def N_law_ranks : List Str := ["_law_deal_here", "_law_count", "_law_width", "_law_place"]
def P_law_ranks : List Str := ["_law_deal_here", "_law_count", "_law_width"]
abbrev st_law_ranks : Stmt := (top 18)
abbrev sc_law_ranks : Scope := defScope st_law_ranks
theorem S_law_ranks : FnScope N_law_ranks P_law_ranks sc_law_ranks := fnB_ok (by decide +kernel)
theorem C_law_ranks : chk N_law_ranks sc_law_ranks [0, 1, 2] [] [0, 1, 2] ["tuple", "range"] = true := by decide +kernel
def sc_law_ranks_0 : Scope := { kind := .function, names := [(".0", .local), ("_law_place", .local), ("_law_draw", .globalImplicit), ("min", .globalImplicit), ("_law_count", .free), ("_law_deal_here", .free), ("_law_width", .free)], isGenerator := false, isCoroutine := false, more := [] }
theorem C_law_ranks_0 : chk N_law_ranks (relS sc_law_ranks_0 sc_law_ranks) [3, 1, 0, 2] [3] [1, 0, 2] ["_law_draw", "min"] = true := by decide +kernel
theorem B_law_ranks_0 : blkB N_law_ranks sc_law_ranks sc_law_ranks_0 [("_law_place", 3)] = true := by decide +kernel
def b_law_ranks : BM :=
  (Bd.seq (Bd.ret [] (E.opL dTuple (E.cons (E.lc [3] (E.rng1 (E.cons (E.v 1) E.nil)) (.nm 3) E.yes (E.op2 dAdd (E.c (.int 1)) (E.fn 2 m_law_draw [] (E.cons (E.v 0) (E.cons (E.opL dMin2 (E.cons (E.v 2) (E.cons (E.op2 dSub (E.v 1) (E.v 3)) E.nil))) E.nil))))) E.nil)))
  Bd.nx)
theorem bo_law_ranks (hfree : ∀ (i : Nat) (x : Str), frees[i]? = some x → mg x = none) (hcls : ∀ (i : Nat) (x : Str), classes[i]? = some x → mg x = some (.ref (He.ga K x))) (F_law_draw : FnI P w K mg base 1 "_law_draw" 2 m_law_draw []) : BodyOk P w K mg base N_law_ranks "_law_ranks" sc_law_ranks 1 (defBody st_law_ranks) b_law_ranks := by
  intro f cdv A outer s H E hr
  have hc : (cxOf (L2N.CX P w) P w K mg base N_law_ranks "_law_ranks" sc_law_ranks f cdv A outer s H E).calm = true := rfl
  have hun : (A.deeper (envOfC "_law_ranks" sc_law_ranks s.heap.objs.size f cdv)).units + 64 < cLine := hr.units
  have hN := S_law_ranks.nd
  have tk : L2N.Takes (cxOf (L2N.CX P w) P w K mg base N_law_ranks "_law_ranks" sc_law_ranks f cdv A outer s H E) (fun c d _ H => E c d H) := L2N.takes_of rfl rfl rfl rfl
  have hp : PassesOwn (model P w) (A.deeper (envOfC "_law_ranks" sc_law_ranks s.heap.objs.size f cdv)) (envOfC "_law_ranks" sc_law_ranks s.heap.objs.size f cdv) (cxOf (L2N.CX P w) P w K mg base N_law_ranks "_law_ranks" sc_law_ranks f cdv A outer s H E).xe := passes_of (X := (cxOf (L2N.CX P w) P w K mg base N_law_ranks "_law_ranks" sc_law_ranks f cdv A outer s H E)) rfl
  exact (st_cons (st_ret (e_ty c_tuple (gl C_law_ranks 0) (hfree 4 _ rfl) boot_tuple (ea_cons (e_lc (lc_fr0 (t := (.nm 3)) hc hN (i_rng1 (gl C_law_ranks 1) (hfree 2 _ rfl) (ea_cons (e_vv (vi C_law_ranks 1)) ea_nil)) (blkB_ok B_law_ranks_0) (by decide) (fun _ => (pg_v hN ⟨rfl, .inl (lo C_law_ranks_0 3), .inr (lo C_law_ranks_0 3)⟩)) (fun _ => (e_bin o_add e_int (e_fn F_law_draw (hr.mono (by decide : 1 ≤ 1)) takesN0 (gl C_law_ranks_0 0) (ea_cons (e_vv (vi C_law_ranks_0 0)) (ea_cons (e_blt (c_min2 hc) (gl C_law_ranks_0 1) (hfree 3 _ rfl) boot_min (ea_cons (e_vv (vi C_law_ranks_0 2)) (ea_cons (e_bin o_sub (e_vv (vi C_law_ranks_0 1)) (e_vv (vi C_law_ranks_0 3))) ea_nil))) ea_nil))))))) ea_nil)))
  st_nil)
def m_law_ranks : List D → M D := Bd.run 4 3 b_law_ranks
def N_law_row : List Str := ["_law_ranks_here", "_law_left", "_law_found", "_law_rank", "_law_k"]
def P_law_row : List Str := ["_law_ranks_here"]
abbrev st_law_row : Stmt := (top 19)
abbrev sc_law_row : Scope := defScope st_law_row
theorem S_law_row : FnScope N_law_row P_law_row sc_law_row := fnB_ok (by decide +kernel)
theorem C_law_row : chk N_law_row sc_law_row [0, 1, 2, 3] [0, 1, 2, 3] [] ["range", "len", "tuple"] = true := by decide +kernel
def sc_law_row_0 : Scope := { kind := .function, names := [(".0", .local), ("_law_k", .local)], isGenerator := false, isCoroutine := false, more := [] }
theorem C_law_row_0 : chk N_law_row (relS sc_law_row_0 sc_law_row) [4] [4] [] [] = true := by decide +kernel
theorem B_law_row_0 : blkB N_law_row sc_law_row sc_law_row_0 [("_law_k", 4)] = true := by decide +kernel
def b_law_row : BM :=
  (Bd.seq (Bd.parOO 1 2 (E.lc [4] (E.rng1 (E.cons (E.opL dLen (E.cons (E.v 0) E.nil)) E.nil)) (.nm 4) E.yes (E.op2 dAdd (E.v 4) (E.c (.int 1)))) (E.lst E.nil))
  (Bd.seq (Bd.loop (.nm 3) (E.it (E.v 0)) (Bd.seq (Bd.app 2 (Bd.popAt 1 (Bd.sx [] (E.op2 dSub (E.v 3) (E.c (.int 1))))))
  Bd.nx))
  (Bd.seq (Bd.ret [2] (E.opL dTuple (E.cons (E.v 2) E.nil)))
  Bd.nx)))
theorem bo_law_row (hfree : ∀ (i : Nat) (x : Str), frees[i]? = some x → mg x = none) (hcls : ∀ (i : Nat) (x : Str), classes[i]? = some x → mg x = some (.ref (He.ga K x))) : BodyOk P w K mg base N_law_row "_law_row" sc_law_row 0 (defBody st_law_row) b_law_row := by
  intro f cdv A outer s H E hr
  have hc : (cxOf (L2N.CX P w) P w K mg base N_law_row "_law_row" sc_law_row f cdv A outer s H E).calm = true := rfl
  have hun : (A.deeper (envOfC "_law_row" sc_law_row s.heap.objs.size f cdv)).units + 64 < cLine := hr.units
  have hN := S_law_row.nd
  have tk : L2N.Takes (cxOf (L2N.CX P w) P w K mg base N_law_row "_law_row" sc_law_row f cdv A outer s H E) (fun c d _ H => E c d H) := L2N.takes_of rfl rfl rfl rfl
  have hp : PassesOwn (model P w) (A.deeper (envOfC "_law_row" sc_law_row s.heap.objs.size f cdv)) (envOfC "_law_row" sc_law_row s.heap.objs.size f cdv) (cxOf (L2N.CX P w) P w K mg base N_law_row "_law_row" sc_law_row f cdv A outer s H E).xe := passes_of (X := (cxOf (L2N.CX P w) P w K mg base N_law_row "_law_row" sc_law_row f cdv A outer s H E)) rfl
  exact (st_cons (st_parOO hc hN rfl rfl (by decide) (lo C_law_row 1) (lo C_law_row 2) (lc_fr0 (t := (.nm 4)) hc hN (i_rng1 (gl C_law_row 0) (hfree 2 _ rfl) (ea_cons (e_blt c_len (gl C_law_row 1) (hfree 5 _ rfl) boot_len (ea_cons (e_vv (vi C_law_row 0)) ea_nil)) ea_nil)) (blkB_ok B_law_row_0) (by decide) (fun _ => (pg_v hN ⟨rfl, .inl (lo C_law_row_0 4), .inr (lo C_law_row_0 4)⟩)) (fun _ => (e_bin o_add (e_vv (vi C_law_row_0 4)) e_int))) (lst_fr ea_nil) rfl)
  (st_cons (st_for (t := (.nm 3)) hp hc (i_it (e_vv (vi C_law_row 0))) (pg_v hN ⟨rfl, .inl (lo C_law_row 3), .inr (lo C_law_row 3)⟩) (st_cons (st_app 2 (vi C_law_row 2).rcv ⟨⟨rfl, rfl⟩, rfl, rfl, rfl⟩ (sx_popAt 1 (vi C_law_row 1).rcv ⟨⟨rfl, rfl⟩, rfl, rfl, rfl⟩ (sx_e [] (e_bin o_sub (e_vv (vi C_law_row 3)) e_int))))
  st_nil))
  (st_cons (st_ret (e_ty c_tuple (gl C_law_row 2) (hfree 4 _ rfl) boot_tuple (ea_cons (e_vv (vi C_law_row 2)) ea_nil)))
  st_nil)))
def m_law_row : List D → M D := Bd.run 5 1 b_law_row
def N_law_all : List Str := ["_law_count", "_law_found", "_law_size", "_law_wider", "_law_ranks_here", "_law_rank"]
def P_law_all : List Str := ["_law_count"]
abbrev st_law_all : Stmt := (top 20)
abbrev sc_law_all : Scope := defScope st_law_all
theorem S_law_all : FnScope N_law_all P_law_all sc_law_all := fnB_ok (by decide +kernel)
theorem C_law_all : chk N_law_all sc_law_all [0, 1, 2, 3, 4] [0, 1, 2, 3] [4] ["range"] = true := by decide +kernel
def sc_law_all_0 : Scope := { kind := .function, names := [(".0", .local), ("_law_rank", .local), ("_law_ranks_here", .free)], isGenerator := false, isCoroutine := false, more := [] }
theorem C_law_all_0 : chk N_law_all (relS sc_law_all_0 sc_law_all) [5, 4] [5] [4] [] = true := by decide +kernel
theorem B_law_all_0 : blkB N_law_all sc_law_all sc_law_all_0 [("_law_rank", 5)] = true := by decide +kernel
def b_law_all : BM :=
  (Bd.seq (Bd.asg (.nm 1) [] (E.lst (E.cons (E.tup E.nil) E.nil)))
  (Bd.seq (Bd.loop (.nm 2) (E.rng3 (E.cons (E.v 0) (E.cons (E.c (.int 0)) (E.cons (E.op1 dNeg (E.c (.int 1))) E.nil)))) (Bd.seq (Bd.asgO 3 [] (E.lst E.nil))
  (Bd.seq (Bd.loop (.nm 4) (E.it (E.v 1)) (Bd.seq (Bd.ext 3 (Bd.sx [] (E.lc [5] (E.rng2 (E.cons (E.c (.int 1)) (E.cons (E.op2 dAdd (E.v 2) (E.c (.int 1))) E.nil))) (.nm 5) E.yes (E.op2 dAdd (E.v 4) (E.tup (E.cons (E.v 5) E.nil))))))
  Bd.nx))
  (Bd.seq (Bd.seq (Bd.frz 3) (Bd.asg (.nm 1) [] (E.v 3)))
  Bd.nx))))
  (Bd.seq (Bd.ret [] (E.v 1))
  Bd.nx)))
theorem bo_law_all (hfree : ∀ (i : Nat) (x : Str), frees[i]? = some x → mg x = none) (hcls : ∀ (i : Nat) (x : Str), classes[i]? = some x → mg x = some (.ref (He.ga K x))) : BodyOk P w K mg base N_law_all "_law_all" sc_law_all 0 (defBody st_law_all) b_law_all := by
  intro f cdv A outer s H E hr
  have hc : (cxOf (L2N.CX P w) P w K mg base N_law_all "_law_all" sc_law_all f cdv A outer s H E).calm = true := rfl
  have hun : (A.deeper (envOfC "_law_all" sc_law_all s.heap.objs.size f cdv)).units + 64 < cLine := hr.units
  have hN := S_law_all.nd
  have tk : L2N.Takes (cxOf (L2N.CX P w) P w K mg base N_law_all "_law_all" sc_law_all f cdv A outer s H E) (fun c d _ H => E c d H) := L2N.takes_of rfl rfl rfl rfl
  have hp : PassesOwn (model P w) (A.deeper (envOfC "_law_all" sc_law_all s.heap.objs.size f cdv)) (envOfC "_law_all" sc_law_all s.heap.objs.size f cdv) (cxOf (L2N.CX P w) P w K mg base N_law_all "_law_all" sc_law_all f cdv A outer s H E).xe := passes_of (X := (cxOf (L2N.CX P w) P w K mg base N_law_all "_law_all" sc_law_all f cdv A outer s H E)) rfl
  exact (st_cons (st_setV (e_lst (ea_cons (e_tup ea_nil) ea_nil)) hN ⟨rfl, .inl (lo C_law_all 1), .inr (lo C_law_all 1)⟩)
  (st_cons (st_for (t := (.nm 2)) hp hc (i_rng3 (gl C_law_all 0) (hfree 2 _ rfl) (ea_cons (e_vv (vi C_law_all 0)) (ea_cons e_int (ea_cons (e_una o_neg e_int) ea_nil)))) (pg_v hN ⟨rfl, .inl (lo C_law_all 2), .inr (lo C_law_all 2)⟩) (st_cons (st_setOV (lst_fr ea_nil) hN ⟨rfl, .inl (lo C_law_all 3), .inr (lo C_law_all 3)⟩)
  (st_cons (st_for (t := (.nm 4)) hp hc (i_it (e_vv (vi C_law_all 1))) (pg_v hN ⟨rfl, .inr (ce C_law_all 4), .inl rfl⟩) (st_cons (st_ext 3 (vi C_law_all 3).rcv ⟨⟨rfl, rfl⟩, rfl, rfl, rfl⟩ (sx_e [] (e_lc (lc_fr0 (t := (.nm 5)) hc hN (i_rng2 (gl C_law_all 0) (hfree 2 _ rfl) (ea_cons e_int (ea_cons (e_bin o_add (e_vv (vi C_law_all 2)) e_int) ea_nil))) (blkB_ok B_law_all_0) (by decide) (fun _ => (pg_v hN ⟨rfl, .inl (lo C_law_all_0 5), .inr (lo C_law_all_0 5)⟩)) (fun _ => (e_bin o_add (e_vv (vi C_law_all_0 4)) (e_tup (ea_cons (e_vv (vi C_law_all_0 5)) ea_nil))))))))
  st_nil))
  (st_cons (st_frz 3 (st_setV (e_vv (vi C_law_all 3)) hN ⟨rfl, .inl (lo C_law_all 1), .inr (lo C_law_all 1)⟩))
  st_nil))))
  (st_cons (st_ret (e_vv (vi C_law_all 1)))
  st_nil)))
def m_law_all : List D → M D := Bd.run 6 1 b_law_all
def N_law_any_row : List Str := ["_law_deal_here", "_law_most", "_law_count", "_law_row_here"]
def P_law_any_row : List Str := ["_law_deal_here", "_law_most"]
abbrev st_law_any_row : Stmt := (top 21)
abbrev sc_law_any_row : Scope := defScope st_law_any_row
theorem S_law_any_row : FnScope N_law_any_row P_law_any_row sc_law_any_row := fnB_ok (by decide +kernel)
theorem C_law_any_row : chk N_law_any_row sc_law_any_row [0, 1, 2, 3] [0, 1, 2, 3] [] ["_law_draw", "_law_row", "_law_ranks"] = true := by decide +kernel
def b_law_any_row : BM :=
  (Bd.seq (Bd.asg (.nm 2) [] (E.fn 2 m_law_draw [] (E.cons (E.v 0) (E.cons (E.op2 dAdd (E.v 1) (E.c (.int 1))) E.nil))))
  (Bd.seq (Bd.asg (.nm 3) [] (E.fn 1 m_law_row [] (E.cons (E.fn 3 m_law_ranks [] (E.cons (E.v 0) (E.cons (E.v 2) (E.cons (E.op2 dIx (E.lst (E.cons (E.c (.int 1)) (E.cons (E.c (.int 2)) (E.cons (E.c (.int 3)) (E.cons (E.c (.int 6)) (E.cons (E.c (.int 40)) (E.cons (E.c (.int 40)) E.nil))))))) (E.fn 2 m_law_draw [] (E.cons (E.v 0) (E.cons (E.c (.int 6)) E.nil)))) E.nil)))) E.nil)))
  (Bd.seq (Bd.ret [] (E.ite (E.tru (E.op2 dEq (E.fn 2 m_law_draw [] (E.cons (E.v 0) (E.cons (E.c (.int 5)) E.nil))) (E.c (.int 0)))) (E.op1 dRevT (E.v 3)) (E.v 3)))
  Bd.nx)))
theorem bo_law_any_row (hfree : ∀ (i : Nat) (x : Str), frees[i]? = some x → mg x = none) (hcls : ∀ (i : Nat) (x : Str), classes[i]? = some x → mg x = some (.ref (He.ga K x))) (F_law_draw : FnI P w K mg base 1 "_law_draw" 2 m_law_draw []) (F_law_ranks : FnI P w K mg base 2 "_law_ranks" 3 m_law_ranks []) (F_law_row : FnI P w K mg base 1 "_law_row" 1 m_law_row []) : BodyOk P w K mg base N_law_any_row "_law_any_row" sc_law_any_row 2 (defBody st_law_any_row) b_law_any_row := by
  intro f cdv A outer s H E hr
  have hc : (cxOf (L2N.CX P w) P w K mg base N_law_any_row "_law_any_row" sc_law_any_row f cdv A outer s H E).calm = true := rfl
  have hun : (A.deeper (envOfC "_law_any_row" sc_law_any_row s.heap.objs.size f cdv)).units + 64 < cLine := hr.units
  have hN := S_law_any_row.nd
  have tk : L2N.Takes (cxOf (L2N.CX P w) P w K mg base N_law_any_row "_law_any_row" sc_law_any_row f cdv A outer s H E) (fun c d _ H => E c d H) := L2N.takes_of rfl rfl rfl rfl
  have hp : PassesOwn (model P w) (A.deeper (envOfC "_law_any_row" sc_law_any_row s.heap.objs.size f cdv)) (envOfC "_law_any_row" sc_law_any_row s.heap.objs.size f cdv) (cxOf (L2N.CX P w) P w K mg base N_law_any_row "_law_any_row" sc_law_any_row f cdv A outer s H E).xe := passes_of (X := (cxOf (L2N.CX P w) P w K mg base N_law_any_row "_law_any_row" sc_law_any_row f cdv A outer s H E)) rfl
  exact (st_cons (st_setV (e_fn F_law_draw (hr.mono (by decide : 1 ≤ 2)) tk (gl C_law_any_row 0) (ea_cons (e_vv (vi C_law_any_row 0)) (ea_cons (e_bin o_add (e_vv (vi C_law_any_row 1)) e_int) ea_nil))) hN ⟨rfl, .inl (lo C_law_any_row 2), .inr (lo C_law_any_row 2)⟩)
  (st_cons (st_setV (e_fn F_law_row (hr.mono (by decide : 1 ≤ 2)) tk (gl C_law_any_row 1) (ea_cons (e_fn F_law_ranks (hr.mono (by decide : 2 ≤ 2)) tk (gl C_law_any_row 2) (ea_cons (e_vv (vi C_law_any_row 0)) (ea_cons (e_vv (vi C_law_any_row 2)) (ea_cons (e_ix (e_lst (ea_cons e_int (ea_cons e_int (ea_cons e_int (ea_cons e_int (ea_cons e_int (ea_cons e_int ea_nil))))))) (e_fn F_law_draw (hr.mono (by decide : 1 ≤ 2)) tk (gl C_law_any_row 0) (ea_cons (e_vv (vi C_law_any_row 0)) (ea_cons e_int ea_nil)))) ea_nil)))) ea_nil)) hN ⟨rfl, .inl (lo C_law_any_row 3), .inr (lo C_law_any_row 3)⟩)
  (st_cons (st_ret (e_ite (t_cmp (o_eq hun) (e_fn F_law_draw (hr.mono (by decide : 1 ≤ 2)) tk (gl C_law_any_row 0) (ea_cons (e_vv (vi C_law_any_row 0)) (ea_cons e_int ea_nil))) e_int) (e_revT (e_vv (vi C_law_any_row 3))) (e_vv (vi C_law_any_row 3))))
  st_nil)))
def m_law_any_row : List D → M D := Bd.run 4 2 b_law_any_row
def N_is_integer : List Str := ["value"]
def P_is_integer : List Str := ["value"]
abbrev st_is_integer : Stmt := (top 7)
abbrev sc_is_integer : Scope := defScope st_is_integer
theorem S_is_integer : FnScope N_is_integer P_is_integer sc_is_integer := fnB_ok (by decide +kernel)
theorem C_is_integer : chk N_is_integer sc_is_integer [0] [0] [] ["isinstance", "int", "bool"] = true := by decide +kernel
def b_is_integer : BM :=
  (Bd.seq (Bd.ret [] (E.vand (E.op1 (dIsi isT (.b "int")) (E.v 0)) (E.vnot (E.op1 (dIsi isT (.b "bool")) (E.v 0)))))
  Bd.nx)
theorem bo_is_integer (hfree : ∀ (i : Nat) (x : Str), frees[i]? = some x → mg x = none) (hcls : ∀ (i : Nat) (x : Str), classes[i]? = some x → mg x = some (.ref (He.ga K x))) (IO : IsOk K tb1 isT) : BodyOk P w K mg base N_is_integer "is_integer" sc_is_integer 0 (defBody st_is_integer) b_is_integer := by
  intro f cdv A outer s H E hr
  have hc : (cxOf (L2N.CX P w) P w K mg base N_is_integer "is_integer" sc_is_integer f cdv A outer s H E).calm = true := rfl
  have hun : (A.deeper (envOfC "is_integer" sc_is_integer s.heap.objs.size f cdv)).units + 64 < cLine := hr.units
  have hN := S_is_integer.nd
  have tk : L2N.Takes (cxOf (L2N.CX P w) P w K mg base N_is_integer "is_integer" sc_is_integer f cdv A outer s H E) (fun c d _ H => E c d H) := L2N.takes_of rfl rfl rfl rfl
  have hp : PassesOwn (model P w) (A.deeper (envOfC "is_integer" sc_is_integer s.heap.objs.size f cdv)) (envOfC "is_integer" sc_is_integer s.heap.objs.size f cdv) (cxOf (L2N.CX P w) P w K mg base N_is_integer "is_integer" sc_is_integer f cdv A outer s H E).xe := passes_of (X := (cxOf (L2N.CX P w) P w K mg base N_is_integer "is_integer" sc_is_integer f cdv A outer s H E)) rfl
  exact (st_cons (st_ret (e_and (e_isi IO (gl C_is_integer 0) (hfree 6 _ rfl) (e_vv (vi C_is_integer 0)) (pe_cb (gl C_is_integer 1) (hfree 1 _ rfl) boot_int)) (e_one (e_not (e_isi IO (gl C_is_integer 0) (hfree 6 _ rfl) (e_vv (vi C_is_integer 0)) (pe_cb (gl C_is_integer 2) (hfree 7 _ rfl) boot_bool))))))
  st_nil)
def m_is_integer : List D → M D := Bd.run 1 1 b_is_integer
def N_are_integers : List Str := ["value", "part"]
def P_are_integers : List Str := ["value"]
abbrev st_are_integers : Stmt := (top 8)
abbrev sc_are_integers : Scope := defScope st_are_integers
theorem S_are_integers : FnScope N_are_integers P_are_integers sc_are_integers := fnB_ok (by decide +kernel)
theorem C_are_integers : chk N_are_integers sc_are_integers [0] [0] [] ["isinstance", "list", "tuple", "all"] = true := by decide +kernel
def sc_are_integers_0 : Scope := { kind := .function, names := [(".0", .local), ("part", .local), ("is_integer", .globalImplicit)], isGenerator := false, isCoroutine := false, more := [] }
theorem C_are_integers_0 : chk N_are_integers (relS sc_are_integers_0 sc_are_integers) [1] [1] [] ["is_integer"] = true := by decide +kernel
theorem B_are_integers_0 : blkB N_are_integers sc_are_integers sc_are_integers_0 [("part", 1)] = true := by decide +kernel
def b_are_integers : BM :=
  (Bd.seq (Bd.ret [] (E.vand (E.op1 (dIsiT isT [(.b "list"), (.b "tuple")]) (E.v 0)) (E.opL dAll (E.cons (E.lc [1] (E.it (E.v 0)) (.nm 1) E.yes (E.fn 1 m_is_integer [] (E.cons (E.v 1) E.nil))) E.nil))))
  Bd.nx)
theorem bo_are_integers (hfree : ∀ (i : Nat) (x : Str), frees[i]? = some x → mg x = none) (hcls : ∀ (i : Nat) (x : Str), classes[i]? = some x → mg x = some (.ref (He.ga K x))) (IO : IsOk K tb1 isT) (F_is_integer : FnI P w K mg base 1 "is_integer" 1 m_is_integer []) : BodyOk P w K mg base N_are_integers "are_integers" sc_are_integers 1 (defBody st_are_integers) b_are_integers := by
  intro f cdv A outer s H E hr
  have hc : (cxOf (L2N.CX P w) P w K mg base N_are_integers "are_integers" sc_are_integers f cdv A outer s H E).calm = true := rfl
  have hun : (A.deeper (envOfC "are_integers" sc_are_integers s.heap.objs.size f cdv)).units + 64 < cLine := hr.units
  have hN := S_are_integers.nd
  have tk : L2N.Takes (cxOf (L2N.CX P w) P w K mg base N_are_integers "are_integers" sc_are_integers f cdv A outer s H E) (fun c d _ H => E c d H) := L2N.takes_of rfl rfl rfl rfl
  have hp : PassesOwn (model P w) (A.deeper (envOfC "are_integers" sc_are_integers s.heap.objs.size f cdv)) (envOfC "are_integers" sc_are_integers s.heap.objs.size f cdv) (cxOf (L2N.CX P w) P w K mg base N_are_integers "are_integers" sc_are_integers f cdv A outer s H E).xe := passes_of (X := (cxOf (L2N.CX P w) P w K mg base N_are_integers "are_integers" sc_are_integers f cdv A outer s H E)) rfl
  exact (st_cons (st_ret (e_and (e_isiT IO (gl C_are_integers 0) (hfree 6 _ rfl) (e_vv (vi C_are_integers 0)) (pac_cons (pe_cb (gl C_are_integers 1) (hfree 8 _ rfl) boot_list) (pac_cons (pe_cb (gl C_are_integers 2) (hfree 4 _ rfl) boot_tuple) pac_nil))) (e_one (e_blt (c_all hc) (gl C_are_integers 3) (hfree 9 _ rfl) boot_all (ea_cons (e_lc (lc_fr0 (t := (.nm 1)) hc hN (i_it (e_vv (vi C_are_integers 0))) (blkB_ok B_are_integers_0) (by decide) (fun _ => (pg_v hN ⟨rfl, .inl (lo C_are_integers_0 1), .inr (lo C_are_integers_0 1)⟩)) (fun _ => (e_fn F_is_integer (hr.mono (by decide : 1 ≤ 1)) takesN0 (gl C_are_integers_0 0) (ea_cons (e_vv (vi C_are_integers_0 1)) ea_nil))))) ea_nil)))))
  st_nil)
def m_are_integers : List D → M D := Bd.run 2 1 b_are_integers
def N_ranks_of : List Str := ["row", "found", "place", "parcel", "later"]
def P_ranks_of : List Str := ["row"]
abbrev st_ranks_of : Stmt := (top 9)
abbrev sc_ranks_of : Scope := defScope st_ranks_of
theorem S_ranks_of : FnScope N_ranks_of P_ranks_of sc_ranks_of := fnB_ok (by decide +kernel)
theorem C_ranks_of : chk N_ranks_of sc_ranks_of [0, 1, 2, 3] [0, 1, 2] [3] ["enumerate", "len", "tuple"] = true := by decide +kernel
def sc_ranks_of_0 : Scope := { kind := .function, names := [(".0", .local), ("later", .local), ("parcel", .free)], isGenerator := false, isCoroutine := false, more := [] }
theorem C_ranks_of_0 : chk N_ranks_of (relS sc_ranks_of_0 sc_ranks_of) [4, 3] [4] [3] [] = true := by decide +kernel
theorem B_ranks_of_0 : blkB N_ranks_of sc_ranks_of sc_ranks_of_0 [("later", 4)] = true := by decide +kernel
def b_ranks_of : BM :=
  (Bd.seq (Bd.asgO 1 [] (E.lst E.nil))
  (Bd.seq (Bd.loop (.tp [2, 3]) (E.en (E.v 0)) (Bd.seq (Bd.app 1 (Bd.sx [] (E.opL dLen (E.cons (E.lc [4] (E.it (E.sl (E.v 0) (E.p1 (E.v 2)) E.p0)) (.nm 4) (E.tru (E.op2 dLe (E.v 4) (E.v 3))) (E.v 4)) E.nil))))
  Bd.nx))
  (Bd.seq (Bd.ret [1] (E.opL dTuple (E.cons (E.v 1) E.nil)))
  Bd.nx)))
theorem bo_ranks_of (hfree : ∀ (i : Nat) (x : Str), frees[i]? = some x → mg x = none) (hcls : ∀ (i : Nat) (x : Str), classes[i]? = some x → mg x = some (.ref (He.ga K x))) : BodyOk P w K mg base N_ranks_of "ranks_of" sc_ranks_of 0 (defBody st_ranks_of) b_ranks_of := by
  intro f cdv A outer s H E hr
  have hc : (cxOf (L2N.CX P w) P w K mg base N_ranks_of "ranks_of" sc_ranks_of f cdv A outer s H E).calm = true := rfl
  have hun : (A.deeper (envOfC "ranks_of" sc_ranks_of s.heap.objs.size f cdv)).units + 64 < cLine := hr.units
  have hN := S_ranks_of.nd
  have tk : L2N.Takes (cxOf (L2N.CX P w) P w K mg base N_ranks_of "ranks_of" sc_ranks_of f cdv A outer s H E) (fun c d _ H => E c d H) := L2N.takes_of rfl rfl rfl rfl
  have hp : PassesOwn (model P w) (A.deeper (envOfC "ranks_of" sc_ranks_of s.heap.objs.size f cdv)) (envOfC "ranks_of" sc_ranks_of s.heap.objs.size f cdv) (cxOf (L2N.CX P w) P w K mg base N_ranks_of "ranks_of" sc_ranks_of f cdv A outer s H E).xe := passes_of (X := (cxOf (L2N.CX P w) P w K mg base N_ranks_of "ranks_of" sc_ranks_of f cdv A outer s H E)) rfl
  exact (st_cons (st_setOV (lst_fr ea_nil) hN ⟨rfl, .inl (lo C_ranks_of 1), .inr (lo C_ranks_of 1)⟩)
  (st_cons (st_for (t := (.tp [2, 3])) hp hc (i_en (gl C_ranks_of 0) (hfree 10 _ rfl) (e_vv (vi C_ranks_of 0))) (pg_tp hc (pgs1 (pg_v hN ⟨rfl, .inl (lo C_ranks_of 2), .inr (lo C_ranks_of 2)⟩) (pgs1 (pg_v hN ⟨rfl, .inr (ce C_ranks_of 3), .inl rfl⟩) pgs0))) (st_cons (st_app 1 (vi C_ranks_of 1).rcv ⟨⟨rfl, rfl⟩, rfl, rfl, rfl⟩ (sx_e [] (e_blt c_len (gl C_ranks_of 1) (hfree 5 _ rfl) boot_len (ea_cons (e_lc (lc_fr1 (t := (.nm 4)) hc hN (i_it (e_sl (e_vv (vi C_ranks_of 0)) (p_some (e_vv (vi C_ranks_of 2))) p_none)) (blkB_ok B_ranks_of_0) (by decide) (fun _ => (pg_v hN ⟨rfl, .inl (lo C_ranks_of_0 4), .inr (lo C_ranks_of_0 4)⟩)) (fun _ => (t_cmp o_le (e_vv (vi C_ranks_of_0 4)) (e_vv (vi C_ranks_of_0 3)))) (fun _ => (e_vv (vi C_ranks_of_0 4))))) ea_nil))))
  st_nil))
  (st_cons (st_ret (e_ty c_tuple (gl C_ranks_of 2) (hfree 4 _ rfl) boot_tuple (ea_cons (e_vv (vi C_ranks_of 1)) ea_nil)))
  st_nil)))
def m_ranks_of : List D → M D := Bd.run 5 1 b_ranks_of
def N_row_of : List Str := ["ranks", "left", "rank"]
def P_row_of : List Str := ["ranks"]
abbrev st_row_of : Stmt := (top 10)
abbrev sc_row_of : Scope := defScope st_row_of
theorem S_row_of : FnScope N_row_of P_row_of sc_row_of := fnB_ok (by decide +kernel)
theorem C_row_of : chk N_row_of sc_row_of [0, 1] [0] [1] ["list", "range", "len", "tuple"] = true := by decide +kernel
def sc_row_of_0 : Scope := { kind := .function, names := [(".0", .local), ("rank", .local), ("left", .free)], isGenerator := false, isCoroutine := false, more := [] }
theorem C_row_of_0 : chk N_row_of (relS sc_row_of_0 sc_row_of) [2, 1] [2] [1] [] = true := by decide +kernel
theorem B_row_of_0 : blkB N_row_of sc_row_of sc_row_of_0 [("rank", 2)] = true := by decide +kernel
def b_row_of : BM :=
  (Bd.seq (Bd.asgO 1 [] (E.rgL .lst (E.c (.int 1)) (E.op2 dAdd (E.opL dLen (E.cons (E.v 0) E.nil)) (E.c (.int 1)))))
  (Bd.seq (Bd.retX (Bd.sxO (fun d => dTuple [d]) (Bd.lcX [2] (E.it (E.v 0)) (.nm 2) (Bd.popAt 1 (Bd.sx [] (E.op2 dSub (E.v 2) (E.c (.int 1))))))))
  Bd.nx))
theorem bo_row_of (hfree : ∀ (i : Nat) (x : Str), frees[i]? = some x → mg x = none) (hcls : ∀ (i : Nat) (x : Str), classes[i]? = some x → mg x = some (.ref (He.ga K x))) : BodyOk P w K mg base N_row_of "row_of" sc_row_of 0 (defBody st_row_of) b_row_of := by
  intro f cdv A outer s H E hr
  have hc : (cxOf (L2N.CX P w) P w K mg base N_row_of "row_of" sc_row_of f cdv A outer s H E).calm = true := rfl
  have hun : (A.deeper (envOfC "row_of" sc_row_of s.heap.objs.size f cdv)).units + 64 < cLine := hr.units
  have hN := S_row_of.nd
  have tk : L2N.Takes (cxOf (L2N.CX P w) P w K mg base N_row_of "row_of" sc_row_of f cdv A outer s H E) (fun c d _ H => E c d H) := L2N.takes_of rfl rfl rfl rfl
  have hp : PassesOwn (model P w) (A.deeper (envOfC "row_of" sc_row_of s.heap.objs.size f cdv)) (envOfC "row_of" sc_row_of s.heap.objs.size f cdv) (cxOf (L2N.CX P w) P w K mg base N_row_of "row_of" sc_row_of f cdv A outer s H E).xe := passes_of (X := (cxOf (L2N.CX P w) P w K mg base N_row_of "row_of" sc_row_of f cdv A outer s H E)) rfl
  exact (st_cons (st_setOV (listRg_fr hc (gl C_row_of 0) (hfree 8 _ rfl) (rg_2 (gl C_row_of 1) (hfree 2 _ rfl) e_int (e_bin o_add (e_blt c_len (gl C_row_of 2) (hfree 5 _ rfl) boot_len (ea_cons (e_vv (vi C_row_of 0)) ea_nil)) e_int))) hN ⟨rfl, .inr (ce C_row_of 1), .inl rfl⟩)
  (st_cons (st_retX (sx_ty c_tuple (gl C_row_of 3) (hfree 4 _ rfl) boot_tuple (sx_lc (t := (.nm 2)) hc hN (i_it (e_vv (vi C_row_of 0))) (blkB_ok B_row_of_0) (by decide) (fun _ => (pg_v hN ⟨rfl, .inl (lo C_row_of_0 2), .inr (lo C_row_of_0 2)⟩)) (par_popAt par_sx) (fun _ => sx_popAt 1 (vi C_row_of_0 1).rcv ⟨⟨rfl, rfl⟩, rfl, rfl, rfl⟩ (sx_e [] (e_bin o_sub (e_vv (vi C_row_of_0 2)) e_int))))))
  st_nil))
def m_row_of : List D → M D := Bd.run 3 1 b_row_of
def N_Order_init : List Str := ["self", "row", "part"]
def P_Order_init : List Str := ["self", "row"]
abbrev st_Order_init : Stmt := (inClass (top 13) 0)
abbrev sc_Order_init : Scope := defScope st_Order_init
theorem S_Order_init : FnScope N_Order_init P_Order_init sc_Order_init := fnB_ok (by decide +kernel)
theorem C_Order_init : chk N_Order_init sc_Order_init [0, 1] [0, 1] [] ["are_integers", "sorted", "list", "range", "len", "InvalidOrder", "tuple", "ranks_of", "max"] = true := by decide +kernel
def sc_Order_init_0 : Scope := { kind := .function, names := [(".0", .local), ("part", .local), ("int", .globalImplicit)], isGenerator := false, isCoroutine := false, more := [] }
theorem C_Order_init_0 : chk N_Order_init (relS sc_Order_init_0 sc_Order_init) [2] [2] [] ["int"] = true := by decide +kernel
theorem B_Order_init_0 : blkB N_Order_init sc_Order_init sc_Order_init_0 [("part", 2)] = true := by decide +kernel
def b_Order_init : BM :=
  (Bd.seq (Bd.ite [] (E.tor (E.tnot (E.tru (E.fn 1 m_are_integers [] (E.cons (E.v 1) E.nil)))) (E.tru (E.op2 dNe (E.opL dSorted (E.cons (E.lc [2] (E.it (E.v 1)) (.nm 2) E.yes (E.opL dInt (E.cons (E.v 2) E.nil))) E.nil)) (E.rgL .lst (E.c (.int 1)) (E.op2 dAdd (E.opL dLen (E.cons (E.v 1) E.nil)) (E.c (.int 1))))))) (Bd.seq (Bd.rais "InvalidOrder" "value" [] (E.v 1))
  Bd.nx) Bd.nx)
  (Bd.seq (Bd.fld tb0 0 "row" [] (E.opL dTuple (E.cons (E.v 1) E.nil)))
  (Bd.seq (Bd.fld tb0 0 "ranks" [0] (E.fn 1 m_ranks_of [] (E.cons (E.op1 (dFld tb0 "row") (E.v 0)) E.nil)))
  (Bd.seq (Bd.fld tb0 0 "width" [0] (E.op2 dMaxDf (E.op1 (dFld tb0 "ranks") (E.v 0)) (E.c (.int 0))))
  Bd.nx))))
theorem bo_Order_init (hfree : ∀ (i : Nat) (x : Str), frees[i]? = some x → mg x = none) (hcls : ∀ (i : Nat) (x : Str), classes[i]? = some x → mg x = some (.ref (He.ga K x))) (TO : TabOk P w K mg base 0 tb0) (F_are_integers : FnI P w K mg base 2 "are_integers" 1 m_are_integers []) (X_InvalidOrder : ExI P w K mg base 1 "InvalidOrder" "value") (F_ranks_of : FnI P w K mg base 1 "ranks_of" 1 m_ranks_of []) : BodyOk P w K mg base N_Order_init "Order.__init__" sc_Order_init 2 (defBody st_Order_init) b_Order_init := by
  intro f cdv A outer s H E hr
  have hc : (cxOf (L2N.CX P w) P w K mg base N_Order_init "Order.__init__" sc_Order_init f cdv A outer s H E).calm = true := rfl
  have hun : (A.deeper (envOfC "Order.__init__" sc_Order_init s.heap.objs.size f cdv)).units + 64 < cLine := hr.units
  have hN := S_Order_init.nd
  have tk : L2N.Takes (cxOf (L2N.CX P w) P w K mg base N_Order_init "Order.__init__" sc_Order_init f cdv A outer s H E) (fun c d _ H => E c d H) := L2N.takes_of rfl rfl rfl rfl
  have hp : PassesOwn (model P w) (A.deeper (envOfC "Order.__init__" sc_Order_init s.heap.objs.size f cdv)) (envOfC "Order.__init__" sc_Order_init s.heap.objs.size f cdv) (cxOf (L2N.CX P w) P w K mg base N_Order_init "Order.__init__" sc_Order_init f cdv A outer s H E).xe := passes_of (X := (cxOf (L2N.CX P w) P w K mg base N_Order_init "Order.__init__" sc_Order_init f cdv A outer s H E)) rfl
  exact (st_cons (st_if (EvW.t (w_or (t_not (t_tru (e_fn F_are_integers (hr.mono (by decide : 2 ≤ 2)) tk (gl C_Order_init 0) (ea_cons (e_vv (vi C_Order_init 1)) ea_nil)))) (w_or1 (t_cmp (o_ne hun) (e_blt c_sorted (gl C_Order_init 1) (hfree 11 _ rfl) boot_sorted (ea_cons (e_lc (lc_fr0 (t := (.nm 2)) hc hN (i_it (e_vv (vi C_Order_init 1))) (blkB_ok B_Order_init_0) (by decide) (fun _ => (pg_v hN ⟨rfl, .inl (lo C_Order_init_0 2), .inr (lo C_Order_init_0 2)⟩)) (fun _ => (e_ty c_int (gl C_Order_init_0 0) (hfree 1 _ rfl) boot_int (ea_cons (e_vv (vi C_Order_init_0 2)) ea_nil))))) ea_nil)) (e_listRg hc (gl C_Order_init 2) (hfree 8 _ rfl) (rg_2 (gl C_Order_init 3) (hfree 2 _ rfl) e_int (e_bin o_add (e_blt c_len (gl C_Order_init 4) (hfree 5 _ rfl) boot_len (ea_cons (e_vv (vi C_Order_init 1)) ea_nil)) e_int))))))) (st_cons (st_rais X_InvalidOrder (hr.mono (by decide : 2 ≤ 2)) hc tk (gl C_Order_init 5) (e_vv (vi C_Order_init 1)))
  st_nil) st_nil)
  (st_cons (st_fld 0 TO (vi C_Order_init 0).rcv (e_ty c_tuple (gl C_Order_init 6) (hfree 4 _ rfl) boot_tuple (ea_cons (e_vv (vi C_Order_init 1)) ea_nil)))
  (st_cons (st_fld 0 TO (vi C_Order_init 0).rcv (e_fn F_ranks_of (hr.mono (by decide : 1 ≤ 2)) tk (gl C_Order_init 7) (ea_cons (e_fld TO (e_vv (vi C_Order_init 0))) ea_nil)))
  (st_cons (st_fld 0 TO (vi C_Order_init 0).rcv (e_maxD hc hun (gl C_Order_init 8) (hfree 12 _ rfl) (e_fld TO (e_vv (vi C_Order_init 0))) e_int))
  st_nil))))
def m_Order_init : List D → M (List (Str × D)) := Bd.runI "Order" 3 1 b_Order_init
def N_Order_is_before : List Str := ["self", "other"]
def P_Order_is_before : List Str := ["self", "other"]
abbrev st_Order_is_before : Stmt := (inClass (top 13) 15)
abbrev sc_Order_is_before : Scope := defScope st_Order_is_before
theorem S_Order_is_before : FnScope N_Order_is_before P_Order_is_before sc_Order_is_before := fnB_ok (by decide +kernel)
theorem C_Order_is_before : chk N_Order_is_before sc_Order_is_before [0, 1] [0, 1] [] ["len"] = true := by decide +kernel
def b_Order_is_before : BM :=
  (Bd.seq (Bd.ret [] (E.op2 dLtD (E.tup (E.cons (E.opL dLen (E.cons (E.op1 (dFld tb0 "row") (E.v 0)) E.nil)) (E.cons (E.op1 (dFld tb0 "row") (E.v 0)) E.nil))) (E.tup (E.cons (E.opL dLen (E.cons (E.op1 (dFld tb0 "row") (E.v 1)) E.nil)) (E.cons (E.op1 (dFld tb0 "row") (E.v 1)) E.nil)))))
  Bd.nx)
theorem bo_Order_is_before (hfree : ∀ (i : Nat) (x : Str), frees[i]? = some x → mg x = none) (hcls : ∀ (i : Nat) (x : Str), classes[i]? = some x → mg x = some (.ref (He.ga K x))) (TO : TabOk P w K mg base 0 tb0) : BodyOk P w K mg base N_Order_is_before "Order.is_before" sc_Order_is_before 0 (defBody st_Order_is_before) b_Order_is_before := by
  intro f cdv A outer s H E hr
  have hc : (cxOf (L2N.CX P w) P w K mg base N_Order_is_before "Order.is_before" sc_Order_is_before f cdv A outer s H E).calm = true := rfl
  have hun : (A.deeper (envOfC "Order.is_before" sc_Order_is_before s.heap.objs.size f cdv)).units + 64 < cLine := hr.units
  have hN := S_Order_is_before.nd
  have tk : L2N.Takes (cxOf (L2N.CX P w) P w K mg base N_Order_is_before "Order.is_before" sc_Order_is_before f cdv A outer s H E) (fun c d _ H => E c d H) := L2N.takes_of rfl rfl rfl rfl
  have hp : PassesOwn (model P w) (A.deeper (envOfC "Order.is_before" sc_Order_is_before s.heap.objs.size f cdv)) (envOfC "Order.is_before" sc_Order_is_before s.heap.objs.size f cdv) (cxOf (L2N.CX P w) P w K mg base N_Order_is_before "Order.is_before" sc_Order_is_before f cdv A outer s H E).xe := passes_of (X := (cxOf (L2N.CX P w) P w K mg base N_Order_is_before "Order.is_before" sc_Order_is_before f cdv A outer s H E)) rfl
  exact (st_cons (st_ret (e_cmp (o_ltD hun) (e_tup (ea_cons (e_blt c_len (gl C_Order_is_before 0) (hfree 5 _ rfl) boot_len (ea_cons (e_fld TO (e_vv (vi C_Order_is_before 0))) ea_nil)) (ea_cons (e_fld TO (e_vv (vi C_Order_is_before 0))) ea_nil))) (e_tup (ea_cons (e_blt c_len (gl C_Order_is_before 0) (hfree 5 _ rfl) boot_len (ea_cons (e_fld TO (e_vv (vi C_Order_is_before 1))) ea_nil)) (ea_cons (e_fld TO (e_vv (vi C_Order_is_before 1))) ea_nil)))))
  st_nil)
def m_Order_is_before : List D → M D := Bd.run 2 2 b_Order_is_before
def tb1 : Tab := ⟨tb0.cls, tb0.fld, fun c m => if c = "Order" then (if m = "is_before" then some m_Order_is_before else none) else none⟩
def N_orders : List Str := ["count", "rows", "size", "ranks", "rank"]
def P_orders : List Str := ["count"]
abbrev st_orders : Stmt := (top 14)
abbrev sc_orders : Scope := defScope st_orders
theorem S_orders : FnScope N_orders P_orders sc_orders := fnB_ok (by decide +kernel)
theorem C_orders : chk N_orders sc_orders [0, 1, 2] [0, 1] [2] ["range"] = true := by decide +kernel
def sc_orders_0 : Scope := { kind := .function, names := [(".0", .local), ("ranks", .local), ("rank", .local), ("range", .globalImplicit), ("size", .free)], isGenerator := false, isCoroutine := false, more := [] }
theorem C_orders_0 : chk N_orders (relS sc_orders_0 sc_orders) [3, 4, 2] [3, 4] [2] ["range"] = true := by decide +kernel
theorem B_orders_0 : blkB N_orders sc_orders sc_orders_0 [("ranks", 3), ("rank", 4)] = true := by decide +kernel
def sc_orders_1 : Scope := { kind := .function, names := [(".0", .local), ("ranks", .local), ("Order", .globalImplicit), ("row_of", .globalImplicit)], isGenerator := false, isCoroutine := false, more := [] }
theorem C_orders_1 : chk N_orders (relS sc_orders_1 sc_orders) [3] [3] [] ["Order", "row_of"] = true := by decide +kernel
theorem B_orders_1 : blkB N_orders sc_orders sc_orders_1 [("ranks", 3)] = true := by decide +kernel
def b_orders : BM :=
  (Bd.seq (Bd.asg (.nm 1) [] (E.lst (E.cons (E.tup E.nil) E.nil)))
  (Bd.seq (Bd.loop (.nm 2) (E.rng3 (E.cons (E.v 0) (E.cons (E.c (.int 0)) (E.cons (E.op1 dNeg (E.c (.int 1))) E.nil)))) (Bd.seq (Bd.asgL 1 [] (E.lc2 [3, 4] (E.it (E.v 1)) (.nm 3) E.yes (E.rng2 (E.cons (E.c (.int 1)) (E.cons (E.op2 dAdd (E.v 2) (E.c (.int 1))) E.nil))) [4] (.nm 4) E.yes (E.tup (E.star (E.v 3) (E.cons (E.v 4) E.nil)))))
  Bd.nx))
  (Bd.seq (Bd.retF (E.lc [3] (E.it (E.v 1)) (.nm 3) E.yes (E.mk "Order" 1 m_Order_init [] (E.cons (E.fn 1 m_row_of [] (E.cons (E.v 3) E.nil)) E.nil))))
  Bd.nx)))
theorem bo_orders (hfree : ∀ (i : Nat) (x : Str), frees[i]? = some x → mg x = none) (hcls : ∀ (i : Nat) (x : Str), classes[i]? = some x → mg x = some (.ref (He.ga K x))) (F_row_of : FnI P w K mg base 1 "row_of" 1 m_row_of []) (M_Order : MkI P w K mg base 3 "Order" 1 m_Order_init []) : BodyOk P w K mg base N_orders "orders" sc_orders 4 (defBody st_orders) b_orders := by
  intro f cdv A outer s H E hr
  have hc : (cxOf (L2N.CX P w) P w K mg base N_orders "orders" sc_orders f cdv A outer s H E).calm = true := rfl
  have hun : (A.deeper (envOfC "orders" sc_orders s.heap.objs.size f cdv)).units + 64 < cLine := hr.units
  have hN := S_orders.nd
  have tk : L2N.Takes (cxOf (L2N.CX P w) P w K mg base N_orders "orders" sc_orders f cdv A outer s H E) (fun c d _ H => E c d H) := L2N.takes_of rfl rfl rfl rfl
  have hp : PassesOwn (model P w) (A.deeper (envOfC "orders" sc_orders s.heap.objs.size f cdv)) (envOfC "orders" sc_orders s.heap.objs.size f cdv) (cxOf (L2N.CX P w) P w K mg base N_orders "orders" sc_orders f cdv A outer s H E).xe := passes_of (X := (cxOf (L2N.CX P w) P w K mg base N_orders "orders" sc_orders f cdv A outer s H E)) rfl
  exact (st_cons (st_setV (e_lst (ea_cons (e_tup ea_nil) ea_nil)) hN ⟨rfl, .inl (lo C_orders 1), .inr (lo C_orders 1)⟩)
  (st_cons (st_for (t := (.nm 2)) hp hc (i_rng3 (gl C_orders 0) (hfree 2 _ rfl) (ea_cons (e_vv (vi C_orders 0)) (ea_cons e_int (ea_cons (e_una o_neg e_int) ea_nil)))) (pg_v hN ⟨rfl, .inr (ce C_orders 2), .inl rfl⟩) (st_cons (st_lc2L (t := (.nm 3)) (t1 := (.nm 4)) (vs1 := [4]) (lo C_orders 1) rfl rfl hc hN (i_it (e_vv (vi C_orders 1))) (blkB_ok B_orders_0) (by decide) (by decide) (by decide) (fun _ => (pg_v hN ⟨rfl, .inl (lo C_orders_0 3), .inr (lo C_orders_0 3)⟩)) (fun _ => (i_rng2 (gl C_orders_0 0) (hfree 2 _ rfl) (ea_cons e_int (ea_cons (e_bin o_add (e_vv (vi C_orders_0 2)) e_int) ea_nil)))) (fun _ => (pg_v hN ⟨rfl, .inl (lo C_orders_0 4), .inr (lo C_orders_0 4)⟩)) (fun _ => (e_tup (ea_star (e_vv (vi C_orders_0 3)) (ea_cons (e_vv (vi C_orders_0 4)) ea_nil)))))
  st_nil))
  (st_cons (st_retF (lc_fr0 (t := (.nm 3)) hc hN (i_it (e_vv (vi C_orders 1))) (blkB_ok B_orders_1) (by decide) (fun _ => (pg_v hN ⟨rfl, .inl (lo C_orders_1 3), .inr (lo C_orders_1 3)⟩)) (fun _ => (e_mk M_Order (hr.mono (by decide : 4 ≤ 4)) takesN0 (gl C_orders_1 0) (ea_cons (e_fn F_row_of (hr.mono (by decide : 1 ≤ 4)) takesN0 (gl C_orders_1 1) (ea_cons (e_vv (vi C_orders_1 3)) ea_nil)) ea_nil)))))
  st_nil)))
def m_orders : List D → M D := Bd.runF 5 1 b_orders
end G
end
section
set_option Elab.async false
set_option linter.all false
set_option maxRecDepth 100000
set_option maxHeartbeats 4000000
namespace G
open PySem PySem.Spec PyProof.Rows L2 T
variable {P : Program} {w : World} {K : Fg} {mg : Str → Option Value} {base : Heap}
def N_law : List Str := ["_law_script", "_law_k", "_law_deal_here", "_law_rows", "_law_long", "_law_one", "_law_other", "_law_due", "_law_count", "_law_found", "_law_whole", "_law_turn", "_law_ranks_here", "_law_order"]
def P_law : List Str := ["_law_script"]
abbrev st_law : Stmt := (top 22)
abbrev sc_law : Scope := defScope st_law
theorem S_law : FnScope N_law P_law sc_law := fnB_ok (by decide +kernel)
def restL : List Stmt := match defBody st_law with
  | .For _ _ (_ :: r) _ _ :: _ => r
  | _ => []
def tailL : List Stmt := (defBody st_law).drop 1
theorem C_law : chk N_law sc_law [0, 1, 2, 3, 4, 5, 6, 7, 8, 9, 10] [0, 1, 3, 4, 5, 6, 7, 8, 9, 10] [2] ["range", "max", "min", "len", "_law_deal", "_law_row", "_law_ranks", "Order", "_law_draw", "_law_all", "orders", "isinstance", "list", "zip"] = true := by decide +kernel
def sc_law_0 : Scope := { kind := .function, names := [(".0", .local), ("_law_turn", .local), ("_law_any_row", .globalImplicit), ("_law_deal_here", .free)], isGenerator := false, isCoroutine := false, more := [] }
theorem C_law_0 : chk N_law (relS sc_law_0 sc_law) [11, 2] [11] [2] ["_law_any_row"] = true := by decide +kernel
theorem B_law_0 : blkB N_law sc_law sc_law_0 [("_law_turn", 11)] = true := by decide +kernel
def sc_law_1 : Scope := { kind := .function, names := [(".0", .local), ("_law_ranks_here", .local), ("_law_row", .globalImplicit)], isGenerator := false, isCoroutine := false, more := [] }
theorem C_law_1 : chk N_law (relS sc_law_1 sc_law) [12] [12] [] ["_law_row"] = true := by decide +kernel
theorem B_law_1 : blkB N_law sc_law sc_law_1 [("_law_ranks_here", 12)] = true := by decide +kernel
def sc_law_2 : Scope := { kind := .function, names := [(".0", .local), ("_law_order", .local)], isGenerator := false, isCoroutine := false, more := [] }
theorem C_law_2 : chk N_law (relS sc_law_2 sc_law) [13] [13] [] [] = true := by decide +kernel
theorem B_law_2 : blkB N_law sc_law sc_law_2 [("_law_order", 13)] = true := by decide +kernel
def sc_law_3 : Scope := { kind := .function, names := [(".0", .local), ("_law_one", .local), ("_law_other", .local)], isGenerator := false, isCoroutine := false, more := [] }
theorem C_law_3 : chk N_law (relS sc_law_3 sc_law) [5, 6] [5, 6] [] [] = true := by decide +kernel
theorem B_law_3 : blkB N_law sc_law sc_law_3 [("_law_one", 5), ("_law_other", 6)] = true := by decide +kernel
def r_law_0 : Stmt := (restL).getD 0 (.Pass ⟨0, 0, 0, 0⟩)
def b_law_0 : BM :=
  (Bd.asgL 3 [] (E.lc [11] (E.rng1 (E.cons (E.c (.int 6)) E.nil)) (.nm 11) E.yes (E.fn 2 m_law_any_row [] (E.cons (E.v 2) (E.cons (E.c (.int 7)) E.nil)))))
theorem so_law_0 (hfree : ∀ (i : Nat) (x : Str), frees[i]? = some x → mg x = none) (hcls : ∀ (i : Nat) (x : Str), classes[i]? = some x → mg x = some (.ref (He.ga K x))) (TO : TabOk P w K mg base 1 tb1) (IO : IsOk K tb1 isT) (F_law_any_row : FnI P w K mg base 3 "_law_any_row" 2 m_law_any_row []) (F_law_ranks : FnI P w K mg base 2 "_law_ranks" 3 m_law_ranks []) (F_law_row : FnI P w K mg base 1 "_law_row" 1 m_law_row []) (M_Order : MkI P w K mg base 3 "Order" 1 m_Order_init []) (F_law_draw : FnI P w K mg base 1 "_law_draw" 2 m_law_draw []) (F_law_all : FnI P w K mg base 1 "_law_all" 1 m_law_all []) (F_orders : FnF P w K mg base 5 "orders" 1 m_orders) (f : Addr) (cdv : Value) (A : Around) (outer : List PySem.Env) (s : Shared) (H : Hp) (E : XK) (hr : Room 5 (A.deeper (envOfC "law" sc_law s.heap.objs.size f cdv))) : StX (cxOf (L2N.CX P w) P w K mg base N_law "law" sc_law f cdv A outer s H E) (fun c d _ H => E c d H) r_law_0 b_law_0 := by
  have hc : (cxOf (L2N.CX P w) P w K mg base N_law "law" sc_law f cdv A outer s H E).calm = true := rfl
  have hun : (A.deeper (envOfC "law" sc_law s.heap.objs.size f cdv)).units + 64 < cLine := hr.units
  have hN := S_law.nd
  have tk : L2N.Takes (cxOf (L2N.CX P w) P w K mg base N_law "law" sc_law f cdv A outer s H E) (fun c d _ H => E c d H) := L2N.takes_of rfl rfl rfl rfl
  have hp : PassesOwn (model P w) (A.deeper (envOfC "law" sc_law s.heap.objs.size f cdv)) (envOfC "law" sc_law s.heap.objs.size f cdv) (cxOf (L2N.CX P w) P w K mg base N_law "law" sc_law f cdv A outer s H E).xe := passes_of (X := (cxOf (L2N.CX P w) P w K mg base N_law "law" sc_law f cdv A outer s H E)) rfl
  exact (by refine (st_lcL0 (t := (.nm 11)) (lo C_law 3) rfl ?_ hc hN ?_ (blkB_ok B_law_0) (by decide) ?_ ?_); exact rfl; exact (i_rng1 (gl C_law 0) (hfree 2 _ rfl) (ea_cons e_int ea_nil)); exact (fun _ => (pg_v hN ⟨rfl, .inl (lo C_law_0 11), .inr (lo C_law_0 11)⟩)); exact (fun _ => (e_fn F_law_any_row (hr.mono (by decide : 3 ≤ 5)) takesN0 (gl C_law_0 0) (ea_cons (e_vv (vi C_law_0 2)) (ea_cons e_int ea_nil)))))
def r_law_1 : Stmt := (restL).getD 1 (.Pass ⟨0, 0, 0, 0⟩)
def b_law_1 : BM :=
  (Bd.asg (.nm 4) [] (E.fn 1 m_law_row [] (E.cons (E.fn 3 m_law_ranks [] (E.cons (E.v 2) (E.cons (E.c (.int 7)) (E.cons (E.c (.int 7)) E.nil)))) E.nil)))
theorem so_law_1 (hfree : ∀ (i : Nat) (x : Str), frees[i]? = some x → mg x = none) (hcls : ∀ (i : Nat) (x : Str), classes[i]? = some x → mg x = some (.ref (He.ga K x))) (TO : TabOk P w K mg base 1 tb1) (IO : IsOk K tb1 isT) (F_law_any_row : FnI P w K mg base 3 "_law_any_row" 2 m_law_any_row []) (F_law_ranks : FnI P w K mg base 2 "_law_ranks" 3 m_law_ranks []) (F_law_row : FnI P w K mg base 1 "_law_row" 1 m_law_row []) (M_Order : MkI P w K mg base 3 "Order" 1 m_Order_init []) (F_law_draw : FnI P w K mg base 1 "_law_draw" 2 m_law_draw []) (F_law_all : FnI P w K mg base 1 "_law_all" 1 m_law_all []) (F_orders : FnF P w K mg base 5 "orders" 1 m_orders) (f : Addr) (cdv : Value) (A : Around) (outer : List PySem.Env) (s : Shared) (H : Hp) (E : XK) (hr : Room 5 (A.deeper (envOfC "law" sc_law s.heap.objs.size f cdv))) : StX (cxOf (L2N.CX P w) P w K mg base N_law "law" sc_law f cdv A outer s H E) (fun c d _ H => E c d H) r_law_1 b_law_1 := by
  have hc : (cxOf (L2N.CX P w) P w K mg base N_law "law" sc_law f cdv A outer s H E).calm = true := rfl
  have hun : (A.deeper (envOfC "law" sc_law s.heap.objs.size f cdv)).units + 64 < cLine := hr.units
  have hN := S_law.nd
  have tk : L2N.Takes (cxOf (L2N.CX P w) P w K mg base N_law "law" sc_law f cdv A outer s H E) (fun c d _ H => E c d H) := L2N.takes_of rfl rfl rfl rfl
  have hp : PassesOwn (model P w) (A.deeper (envOfC "law" sc_law s.heap.objs.size f cdv)) (envOfC "law" sc_law s.heap.objs.size f cdv) (cxOf (L2N.CX P w) P w K mg base N_law "law" sc_law f cdv A outer s H E).xe := passes_of (X := (cxOf (L2N.CX P w) P w K mg base N_law "law" sc_law f cdv A outer s H E)) rfl
  exact (st_setV (e_fn F_law_row (hr.mono (by decide : 1 ≤ 5)) tk (gl C_law 5) (ea_cons (e_fn F_law_ranks (hr.mono (by decide : 2 ≤ 5)) tk (gl C_law 6) (ea_cons (e_vv (vi C_law 2)) (ea_cons e_int (ea_cons e_int ea_nil)))) ea_nil)) hN ⟨rfl, .inl (lo C_law 4), .inr (lo C_law 4)⟩)
def r_law_2 : Stmt := (restL).getD 2 (.Pass ⟨0, 0, 0, 0⟩)
def b_law_2 : BM :=
  (Bd.asg (.nm 3) [] (E.op2 dAdd (E.v 3) (E.lst (E.cons (E.v 4) (E.cons (E.op2 dAdd (E.sl (E.v 4) E.p0 (E.p1 (E.c (.int 5)))) (E.tup (E.cons (E.op2 dIx (E.v 4) (E.c (.int 6))) (E.cons (E.op2 dIx (E.v 4) (E.c (.int 5))) E.nil)))) E.nil)))))
theorem so_law_2 (hfree : ∀ (i : Nat) (x : Str), frees[i]? = some x → mg x = none) (hcls : ∀ (i : Nat) (x : Str), classes[i]? = some x → mg x = some (.ref (He.ga K x))) (TO : TabOk P w K mg base 1 tb1) (IO : IsOk K tb1 isT) (F_law_any_row : FnI P w K mg base 3 "_law_any_row" 2 m_law_any_row []) (F_law_ranks : FnI P w K mg base 2 "_law_ranks" 3 m_law_ranks []) (F_law_row : FnI P w K mg base 1 "_law_row" 1 m_law_row []) (M_Order : MkI P w K mg base 3 "Order" 1 m_Order_init []) (F_law_draw : FnI P w K mg base 1 "_law_draw" 2 m_law_draw []) (F_law_all : FnI P w K mg base 1 "_law_all" 1 m_law_all []) (F_orders : FnF P w K mg base 5 "orders" 1 m_orders) (f : Addr) (cdv : Value) (A : Around) (outer : List PySem.Env) (s : Shared) (H : Hp) (E : XK) (hr : Room 5 (A.deeper (envOfC "law" sc_law s.heap.objs.size f cdv))) : StX (cxOf (L2N.CX P w) P w K mg base N_law "law" sc_law f cdv A outer s H E) (fun c d _ H => E c d H) r_law_2 b_law_2 := by
  have hc : (cxOf (L2N.CX P w) P w K mg base N_law "law" sc_law f cdv A outer s H E).calm = true := rfl
  have hun : (A.deeper (envOfC "law" sc_law s.heap.objs.size f cdv)).units + 64 < cLine := hr.units
  have hN := S_law.nd
  have tk : L2N.Takes (cxOf (L2N.CX P w) P w K mg base N_law "law" sc_law f cdv A outer s H E) (fun c d _ H => E c d H) := L2N.takes_of rfl rfl rfl rfl
  have hp : PassesOwn (model P w) (A.deeper (envOfC "law" sc_law s.heap.objs.size f cdv)) (envOfC "law" sc_law s.heap.objs.size f cdv) (cxOf (L2N.CX P w) P w K mg base N_law "law" sc_law f cdv A outer s H E).xe := passes_of (X := (cxOf (L2N.CX P w) P w K mg base N_law "law" sc_law f cdv A outer s H E)) rfl
  exact (st_setV (e_bin o_add (e_vv (vi C_law 3)) (e_lst (ea_cons (e_vv (vi C_law 4)) (ea_cons (e_bin o_add (e_sl (e_vv (vi C_law 4)) p_none (p_some e_int)) (e_tup (ea_cons (e_ix (e_vv (vi C_law 4)) e_int) (ea_cons (e_ix (e_vv (vi C_law 4)) e_int) ea_nil)))) ea_nil)))) hN ⟨rfl, .inl (lo C_law 3), .inr (lo C_law 3)⟩)
def r_law_3 : Stmt := (restL).getD 3 (.Pass ⟨0, 0, 0, 0⟩)
def b_law_3 : BM :=
  (Bd.loop (.nm 5) (E.it (E.v 3)) (Bd.seq (Bd.loop (.nm 6) (E.it (E.v 3)) (Bd.seq (Bd.asg (.nm 7) [] (E.op2 dLtD (E.tup (E.cons (E.opL dLen (E.cons (E.v 5) E.nil)) (E.cons (E.v 5) E.nil))) (E.tup (E.cons (E.opL dLen (E.cons (E.v 6) E.nil)) (E.cons (E.v 6) E.nil)))))
  (Bd.seq (Bd.ite [] (E.tru (E.op2 dNe (E.meth tb1 "is_before" (E.mk "Order" 1 m_Order_init [] (E.cons (E.v 5) E.nil)) (E.cons (E.mk "Order" 1 m_Order_init [] (E.cons (E.v 6) E.nil)) E.nil)) (E.v 7))) (Bd.seq (Bd.ret [] (E.c (.bl false)))
  Bd.nx) Bd.nx)
  (Bd.seq (Bd.ite [] (E.tru (E.op2 dNe (E.cnt (E.lst (E.cons (E.v 7) (E.cons (E.op2 dEq (E.v 5) (E.v 6)) (E.cons (E.meth tb1 "is_before" (E.mk "Order" 1 m_Order_init [] (E.cons (E.v 6) E.nil)) (E.cons (E.mk "Order" 1 m_Order_init [] (E.cons (E.v 5) E.nil)) E.nil)) E.nil)))) (E.c (.bl true))) (E.c (.int 1)))) (Bd.seq (Bd.ret [] (E.c (.bl false)))
  Bd.nx) Bd.nx)
  Bd.nx))))
  Bd.nx))
theorem so_law_3 (hfree : ∀ (i : Nat) (x : Str), frees[i]? = some x → mg x = none) (hcls : ∀ (i : Nat) (x : Str), classes[i]? = some x → mg x = some (.ref (He.ga K x))) (TO : TabOk P w K mg base 1 tb1) (IO : IsOk K tb1 isT) (F_law_any_row : FnI P w K mg base 3 "_law_any_row" 2 m_law_any_row []) (F_law_ranks : FnI P w K mg base 2 "_law_ranks" 3 m_law_ranks []) (F_law_row : FnI P w K mg base 1 "_law_row" 1 m_law_row []) (M_Order : MkI P w K mg base 3 "Order" 1 m_Order_init []) (F_law_draw : FnI P w K mg base 1 "_law_draw" 2 m_law_draw []) (F_law_all : FnI P w K mg base 1 "_law_all" 1 m_law_all []) (F_orders : FnF P w K mg base 5 "orders" 1 m_orders) (f : Addr) (cdv : Value) (A : Around) (outer : List PySem.Env) (s : Shared) (H : Hp) (E : XK) (hr : Room 5 (A.deeper (envOfC "law" sc_law s.heap.objs.size f cdv))) : StX (cxOf (L2N.CX P w) P w K mg base N_law "law" sc_law f cdv A outer s H E) (fun c d _ H => E c d H) r_law_3 b_law_3 := by
  have hc : (cxOf (L2N.CX P w) P w K mg base N_law "law" sc_law f cdv A outer s H E).calm = true := rfl
  have hun : (A.deeper (envOfC "law" sc_law s.heap.objs.size f cdv)).units + 64 < cLine := hr.units
  have hN := S_law.nd
  have tk : L2N.Takes (cxOf (L2N.CX P w) P w K mg base N_law "law" sc_law f cdv A outer s H E) (fun c d _ H => E c d H) := L2N.takes_of rfl rfl rfl rfl
  have hp : PassesOwn (model P w) (A.deeper (envOfC "law" sc_law s.heap.objs.size f cdv)) (envOfC "law" sc_law s.heap.objs.size f cdv) (cxOf (L2N.CX P w) P w K mg base N_law "law" sc_law f cdv A outer s H E).xe := passes_of (X := (cxOf (L2N.CX P w) P w K mg base N_law "law" sc_law f cdv A outer s H E)) rfl
  exact (st_for (t := (.nm 5)) hp hc (i_it (e_vv (vi C_law 3))) (pg_v hN ⟨rfl, .inl (lo C_law 5), .inr (lo C_law 5)⟩) (st_cons (st_for (t := (.nm 6)) hp hc (i_it (e_vv (vi C_law 3))) (pg_v hN ⟨rfl, .inl (lo C_law 6), .inr (lo C_law 6)⟩) (st_cons (st_setV (e_cmp (o_ltD hun) (e_tup (ea_cons (e_blt c_len (gl C_law 3) (hfree 5 _ rfl) boot_len (ea_cons (e_vv (vi C_law 5)) ea_nil)) (ea_cons (e_vv (vi C_law 5)) ea_nil))) (e_tup (ea_cons (e_blt c_len (gl C_law 3) (hfree 5 _ rfl) boot_len (ea_cons (e_vv (vi C_law 6)) ea_nil)) (ea_cons (e_vv (vi C_law 6)) ea_nil)))) hN ⟨rfl, .inl (lo C_law 7), .inr (lo C_law 7)⟩)
  (st_cons (st_if (t_cmp (o_ne hun) (e_meth TO (hr.mono (by decide : 1 ≤ 5)) tk (e_mk M_Order (hr.mono (by decide : 4 ≤ 5)) tk (gl C_law 7) (ea_cons (e_vv (vi C_law 5)) ea_nil)) (ea_cons (e_mk M_Order (hr.mono (by decide : 4 ≤ 5)) tk (gl C_law 7) (ea_cons (e_vv (vi C_law 6)) ea_nil)) ea_nil)) (e_vv (vi C_law 7))) (st_cons (st_ret e_bl)
  st_nil) st_nil)
  (st_cons (st_if (t_cmp (o_ne hun) (e_cnt hun (e_lst (ea_cons (e_vv (vi C_law 7)) (ea_cons (e_cmp (o_eq hun) (e_vv (vi C_law 5)) (e_vv (vi C_law 6))) (ea_cons (e_meth TO (hr.mono (by decide : 1 ≤ 5)) tk (e_mk M_Order (hr.mono (by decide : 4 ≤ 5)) tk (gl C_law 7) (ea_cons (e_vv (vi C_law 6)) ea_nil)) (ea_cons (e_mk M_Order (hr.mono (by decide : 4 ≤ 5)) tk (gl C_law 7) (ea_cons (e_vv (vi C_law 5)) ea_nil)) ea_nil)) ea_nil)))) e_bl ⟨⟨rfl, rfl⟩, rfl, rfl, rfl⟩) e_int) (st_cons (st_ret e_bl)
  st_nil) st_nil)
  st_nil))))
  st_nil))
def r_law_4 : Stmt := (restL).getD 4 (.Pass ⟨0, 0, 0, 0⟩)
def b_law_4 : BM :=
  (Bd.asg (.nm 8) [] (E.fn 2 m_law_draw [] (E.cons (E.v 2) (E.cons (E.c (.int 6)) E.nil))))
theorem so_law_4 (hfree : ∀ (i : Nat) (x : Str), frees[i]? = some x → mg x = none) (hcls : ∀ (i : Nat) (x : Str), classes[i]? = some x → mg x = some (.ref (He.ga K x))) (TO : TabOk P w K mg base 1 tb1) (IO : IsOk K tb1 isT) (F_law_any_row : FnI P w K mg base 3 "_law_any_row" 2 m_law_any_row []) (F_law_ranks : FnI P w K mg base 2 "_law_ranks" 3 m_law_ranks []) (F_law_row : FnI P w K mg base 1 "_law_row" 1 m_law_row []) (M_Order : MkI P w K mg base 3 "Order" 1 m_Order_init []) (F_law_draw : FnI P w K mg base 1 "_law_draw" 2 m_law_draw []) (F_law_all : FnI P w K mg base 1 "_law_all" 1 m_law_all []) (F_orders : FnF P w K mg base 5 "orders" 1 m_orders) (f : Addr) (cdv : Value) (A : Around) (outer : List PySem.Env) (s : Shared) (H : Hp) (E : XK) (hr : Room 5 (A.deeper (envOfC "law" sc_law s.heap.objs.size f cdv))) : StX (cxOf (L2N.CX P w) P w K mg base N_law "law" sc_law f cdv A outer s H E) (fun c d _ H => E c d H) r_law_4 b_law_4 := by
  have hc : (cxOf (L2N.CX P w) P w K mg base N_law "law" sc_law f cdv A outer s H E).calm = true := rfl
  have hun : (A.deeper (envOfC "law" sc_law s.heap.objs.size f cdv)).units + 64 < cLine := hr.units
  have hN := S_law.nd
  have tk : L2N.Takes (cxOf (L2N.CX P w) P w K mg base N_law "law" sc_law f cdv A outer s H E) (fun c d _ H => E c d H) := L2N.takes_of rfl rfl rfl rfl
  have hp : PassesOwn (model P w) (A.deeper (envOfC "law" sc_law s.heap.objs.size f cdv)) (envOfC "law" sc_law s.heap.objs.size f cdv) (cxOf (L2N.CX P w) P w K mg base N_law "law" sc_law f cdv A outer s H E).xe := passes_of (X := (cxOf (L2N.CX P w) P w K mg base N_law "law" sc_law f cdv A outer s H E)) rfl
  exact (st_setV (e_fn F_law_draw (hr.mono (by decide : 1 ≤ 5)) tk (gl C_law 8) (ea_cons (e_vv (vi C_law 2)) (ea_cons e_int ea_nil))) hN ⟨rfl, .inl (lo C_law 8), .inr (lo C_law 8)⟩)
def r_law_5 : Stmt := (restL).getD 5 (.Pass ⟨0, 0, 0, 0⟩)
def b_law_5 : BM :=
  (Bd.asgL 7 [] (E.lc [12] (E.it (E.fn 1 m_law_all [] (E.cons (E.v 8) E.nil))) (.nm 12) E.yes (E.fn 1 m_law_row [] (E.cons (E.v 12) E.nil))))
theorem so_law_5 (hfree : ∀ (i : Nat) (x : Str), frees[i]? = some x → mg x = none) (hcls : ∀ (i : Nat) (x : Str), classes[i]? = some x → mg x = some (.ref (He.ga K x))) (TO : TabOk P w K mg base 1 tb1) (IO : IsOk K tb1 isT) (F_law_any_row : FnI P w K mg base 3 "_law_any_row" 2 m_law_any_row []) (F_law_ranks : FnI P w K mg base 2 "_law_ranks" 3 m_law_ranks []) (F_law_row : FnI P w K mg base 1 "_law_row" 1 m_law_row []) (M_Order : MkI P w K mg base 3 "Order" 1 m_Order_init []) (F_law_draw : FnI P w K mg base 1 "_law_draw" 2 m_law_draw []) (F_law_all : FnI P w K mg base 1 "_law_all" 1 m_law_all []) (F_orders : FnF P w K mg base 5 "orders" 1 m_orders) (f : Addr) (cdv : Value) (A : Around) (outer : List PySem.Env) (s : Shared) (H : Hp) (E : XK) (hr : Room 5 (A.deeper (envOfC "law" sc_law s.heap.objs.size f cdv))) : StX (cxOf (L2N.CX P w) P w K mg base N_law "law" sc_law f cdv A outer s H E) (fun c d _ H => E c d H) r_law_5 b_law_5 := by
  have hc : (cxOf (L2N.CX P w) P w K mg base N_law "law" sc_law f cdv A outer s H E).calm = true := rfl
  have hun : (A.deeper (envOfC "law" sc_law s.heap.objs.size f cdv)).units + 64 < cLine := hr.units
  have hN := S_law.nd
  have tk : L2N.Takes (cxOf (L2N.CX P w) P w K mg base N_law "law" sc_law f cdv A outer s H E) (fun c d _ H => E c d H) := L2N.takes_of rfl rfl rfl rfl
  have hp : PassesOwn (model P w) (A.deeper (envOfC "law" sc_law s.heap.objs.size f cdv)) (envOfC "law" sc_law s.heap.objs.size f cdv) (cxOf (L2N.CX P w) P w K mg base N_law "law" sc_law f cdv A outer s H E).xe := passes_of (X := (cxOf (L2N.CX P w) P w K mg base N_law "law" sc_law f cdv A outer s H E)) rfl
  exact (by refine (st_lcL0 (t := (.nm 12)) (lo C_law 7) rfl ?_ hc hN ?_ (blkB_ok B_law_1) (by decide) ?_ ?_); exact rfl; exact (i_it (e_fn F_law_all (hr.mono (by decide : 1 ≤ 5)) tk (gl C_law 9) (ea_cons (e_vv (vi C_law 8)) ea_nil))); exact (fun _ => (pg_v hN ⟨rfl, .inl (lo C_law_1 12), .inr (lo C_law_1 12)⟩)); exact (fun _ => (e_fn F_law_row (hr.mono (by decide : 1 ≤ 5)) takesN0 (gl C_law_1 0) (ea_cons (e_vv (vi C_law_1 12)) ea_nil))))
def r_law_6 : Stmt := (restL).getD 6 (.Pass ⟨0, 0, 0, 0⟩)
def b_law_6 : BM :=
  (Bd.asgO 9 [] (E.fnF 1 m_orders (E.cons (E.v 8) E.nil)))
theorem so_law_6 (hfree : ∀ (i : Nat) (x : Str), frees[i]? = some x → mg x = none) (hcls : ∀ (i : Nat) (x : Str), classes[i]? = some x → mg x = some (.ref (He.ga K x))) (TO : TabOk P w K mg base 1 tb1) (IO : IsOk K tb1 isT) (F_law_any_row : FnI P w K mg base 3 "_law_any_row" 2 m_law_any_row []) (F_law_ranks : FnI P w K mg base 2 "_law_ranks" 3 m_law_ranks []) (F_law_row : FnI P w K mg base 1 "_law_row" 1 m_law_row []) (M_Order : MkI P w K mg base 3 "Order" 1 m_Order_init []) (F_law_draw : FnI P w K mg base 1 "_law_draw" 2 m_law_draw []) (F_law_all : FnI P w K mg base 1 "_law_all" 1 m_law_all []) (F_orders : FnF P w K mg base 5 "orders" 1 m_orders) (f : Addr) (cdv : Value) (A : Around) (outer : List PySem.Env) (s : Shared) (H : Hp) (E : XK) (hr : Room 5 (A.deeper (envOfC "law" sc_law s.heap.objs.size f cdv))) : StX (cxOf (L2N.CX P w) P w K mg base N_law "law" sc_law f cdv A outer s H E) (fun c d _ H => E c d H) r_law_6 b_law_6 := by
  have hc : (cxOf (L2N.CX P w) P w K mg base N_law "law" sc_law f cdv A outer s H E).calm = true := rfl
  have hun : (A.deeper (envOfC "law" sc_law s.heap.objs.size f cdv)).units + 64 < cLine := hr.units
  have hN := S_law.nd
  have tk : L2N.Takes (cxOf (L2N.CX P w) P w K mg base N_law "law" sc_law f cdv A outer s H E) (fun c d _ H => E c d H) := L2N.takes_of rfl rfl rfl rfl
  have hp : PassesOwn (model P w) (A.deeper (envOfC "law" sc_law s.heap.objs.size f cdv)) (envOfC "law" sc_law s.heap.objs.size f cdv) (cxOf (L2N.CX P w) P w K mg base N_law "law" sc_law f cdv A outer s H E).xe := passes_of (X := (cxOf (L2N.CX P w) P w K mg base N_law "law" sc_law f cdv A outer s H E)) rfl
  exact (st_setOV (fnF_fr F_orders (hr.mono (by decide : 5 ≤ 5)) tk (gl C_law 10) (ea_cons (e_vv (vi C_law 8)) ea_nil)) hN ⟨rfl, .inl (lo C_law 9), .inr (lo C_law 9)⟩)
def r_law_7 : Stmt := (restL).getD 7 (.Pass ⟨0, 0, 0, 0⟩)
def b_law_7 : BM :=
  (Bd.ite [9] (E.tor (E.tnot (E.tru (E.op1 (dIsi isT (.b "list")) (E.v 9)))) (E.tru (E.op2 dNe (E.lc [13] (E.it (E.v 9)) (.nm 13) E.yes (E.op1 (dFld tb1 "row") (E.v 13))) (E.v 7)))) (Bd.seq (Bd.ret [] (E.c (.bl false)))
  Bd.nx) Bd.nx)
theorem so_law_7 (hfree : ∀ (i : Nat) (x : Str), frees[i]? = some x → mg x = none) (hcls : ∀ (i : Nat) (x : Str), classes[i]? = some x → mg x = some (.ref (He.ga K x))) (TO : TabOk P w K mg base 1 tb1) (IO : IsOk K tb1 isT) (F_law_any_row : FnI P w K mg base 3 "_law_any_row" 2 m_law_any_row []) (F_law_ranks : FnI P w K mg base 2 "_law_ranks" 3 m_law_ranks []) (F_law_row : FnI P w K mg base 1 "_law_row" 1 m_law_row []) (M_Order : MkI P w K mg base 3 "Order" 1 m_Order_init []) (F_law_draw : FnI P w K mg base 1 "_law_draw" 2 m_law_draw []) (F_law_all : FnI P w K mg base 1 "_law_all" 1 m_law_all []) (F_orders : FnF P w K mg base 5 "orders" 1 m_orders) (f : Addr) (cdv : Value) (A : Around) (outer : List PySem.Env) (s : Shared) (H : Hp) (E : XK) (hr : Room 5 (A.deeper (envOfC "law" sc_law s.heap.objs.size f cdv))) : StX (cxOf (L2N.CX P w) P w K mg base N_law "law" sc_law f cdv A outer s H E) (fun c d _ H => E c d H) r_law_7 b_law_7 := by
  have hc : (cxOf (L2N.CX P w) P w K mg base N_law "law" sc_law f cdv A outer s H E).calm = true := rfl
  have hun : (A.deeper (envOfC "law" sc_law s.heap.objs.size f cdv)).units + 64 < cLine := hr.units
  have hN := S_law.nd
  have tk : L2N.Takes (cxOf (L2N.CX P w) P w K mg base N_law "law" sc_law f cdv A outer s H E) (fun c d _ H => E c d H) := L2N.takes_of rfl rfl rfl rfl
  have hp : PassesOwn (model P w) (A.deeper (envOfC "law" sc_law s.heap.objs.size f cdv)) (envOfC "law" sc_law s.heap.objs.size f cdv) (cxOf (L2N.CX P w) P w K mg base N_law "law" sc_law f cdv A outer s H E).xe := passes_of (X := (cxOf (L2N.CX P w) P w K mg base N_law "law" sc_law f cdv A outer s H E)) rfl
  exact (st_if (EvW.t (w_or (t_not (t_tru (e_isi IO (gl C_law 11) (hfree 6 _ rfl) (e_vv (vi C_law 9)) (pe_cb (gl C_law 12) (hfree 8 _ rfl) boot_list)))) (w_or1 (t_cmp (o_ne hun) (e_lc (lc_fr0 (t := (.nm 13)) hc hN (i_it (e_vv (vi C_law 9))) (blkB_ok B_law_2) (by decide) (fun _ => (pg_v hN ⟨rfl, .inl (lo C_law_2 13), .inr (lo C_law_2 13)⟩)) (fun _ => (e_fld TO (e_vv (vi C_law_2 13)))))) (e_vv (vi C_law 7)))))) (st_cons (st_ret e_bl)
  st_nil) st_nil)
def r_law_8 : Stmt := (restL).getD 8 (.Pass ⟨0, 0, 0, 0⟩)
def b_law_8 : BM :=
  (Bd.ite [9] (E.tru (E.op2 dNe (E.lc [5, 6] (E.zip (E.cons (E.v 9) (E.cons (E.sl (E.v 9) (E.p1 (E.c (.int 1))) E.p0) E.nil))) (.tp [5, 6]) (E.tnot (E.tru (E.meth tb1 "is_before" (E.v 5) (E.cons (E.v 6) E.nil)))) (E.c (.int 1))) (E.lst E.nil))) (Bd.seq (Bd.ret [] (E.c (.bl false)))
  Bd.nx) Bd.nx)
theorem so_law_8 (hfree : ∀ (i : Nat) (x : Str), frees[i]? = some x → mg x = none) (hcls : ∀ (i : Nat) (x : Str), classes[i]? = some x → mg x = some (.ref (He.ga K x))) (TO : TabOk P w K mg base 1 tb1) (IO : IsOk K tb1 isT) (F_law_any_row : FnI P w K mg base 3 "_law_any_row" 2 m_law_any_row []) (F_law_ranks : FnI P w K mg base 2 "_law_ranks" 3 m_law_ranks []) (F_law_row : FnI P w K mg base 1 "_law_row" 1 m_law_row []) (M_Order : MkI P w K mg base 3 "Order" 1 m_Order_init []) (F_law_draw : FnI P w K mg base 1 "_law_draw" 2 m_law_draw []) (F_law_all : FnI P w K mg base 1 "_law_all" 1 m_law_all []) (F_orders : FnF P w K mg base 5 "orders" 1 m_orders) (f : Addr) (cdv : Value) (A : Around) (outer : List PySem.Env) (s : Shared) (H : Hp) (E : XK) (hr : Room 5 (A.deeper (envOfC "law" sc_law s.heap.objs.size f cdv))) : StX (cxOf (L2N.CX P w) P w K mg base N_law "law" sc_law f cdv A outer s H E) (fun c d _ H => E c d H) r_law_8 b_law_8 := by
  have hc : (cxOf (L2N.CX P w) P w K mg base N_law "law" sc_law f cdv A outer s H E).calm = true := rfl
  have hun : (A.deeper (envOfC "law" sc_law s.heap.objs.size f cdv)).units + 64 < cLine := hr.units
  have hN := S_law.nd
  have tk : L2N.Takes (cxOf (L2N.CX P w) P w K mg base N_law "law" sc_law f cdv A outer s H E) (fun c d _ H => E c d H) := L2N.takes_of rfl rfl rfl rfl
  have hp : PassesOwn (model P w) (A.deeper (envOfC "law" sc_law s.heap.objs.size f cdv)) (envOfC "law" sc_law s.heap.objs.size f cdv) (cxOf (L2N.CX P w) P w K mg base N_law "law" sc_law f cdv A outer s H E).xe := passes_of (X := (cxOf (L2N.CX P w) P w K mg base N_law "law" sc_law f cdv A outer s H E)) rfl
  exact (st_if (t_cmp (o_ne hun) (e_lc (lc_fr1 (t := (.tp [5, 6])) hc hN (i_zip (gl C_law 13) (hfree 13 _ rfl) (ea_cons (e_vv (vi C_law 9)) (ea_cons (e_sl (e_vv (vi C_law 9)) (p_some e_int) p_none) ea_nil))) (blkB_ok B_law_3) (by decide) (fun _ => (pg_tp hc (pgs1 (pg_v hN ⟨rfl, .inl (lo C_law_3 5), .inr (lo C_law_3 5)⟩) (pgs1 (pg_v hN ⟨rfl, .inl (lo C_law_3 6), .inr (lo C_law_3 6)⟩) pgs0)))) (fun _ => (t_not (t_tru (e_meth TO (hr.mono (by decide : 1 ≤ 5)) takesN0 (e_vv (vi C_law_3 5)) (ea_cons (e_vv (vi C_law_3 6)) ea_nil))))) (fun _ => e_int))) (e_lst ea_nil)) (st_cons (st_ret e_bl)
  st_nil) st_nil)
def r_law_9 : Stmt := (restL).getD 9 (.Pass ⟨0, 0, 0, 0⟩)
def b_law_9 : BM :=
  (Bd.expX (Bd.pop 9))
theorem so_law_9 (hfree : ∀ (i : Nat) (x : Str), frees[i]? = some x → mg x = none) (hcls : ∀ (i : Nat) (x : Str), classes[i]? = some x → mg x = some (.ref (He.ga K x))) (TO : TabOk P w K mg base 1 tb1) (IO : IsOk K tb1 isT) (F_law_any_row : FnI P w K mg base 3 "_law_any_row" 2 m_law_any_row []) (F_law_ranks : FnI P w K mg base 2 "_law_ranks" 3 m_law_ranks []) (F_law_row : FnI P w K mg base 1 "_law_row" 1 m_law_row []) (M_Order : MkI P w K mg base 3 "Order" 1 m_Order_init []) (F_law_draw : FnI P w K mg base 1 "_law_draw" 2 m_law_draw []) (F_law_all : FnI P w K mg base 1 "_law_all" 1 m_law_all []) (F_orders : FnF P w K mg base 5 "orders" 1 m_orders) (f : Addr) (cdv : Value) (A : Around) (outer : List PySem.Env) (s : Shared) (H : Hp) (E : XK) (hr : Room 5 (A.deeper (envOfC "law" sc_law s.heap.objs.size f cdv))) : StX (cxOf (L2N.CX P w) P w K mg base N_law "law" sc_law f cdv A outer s H E) (fun c d _ H => E c d H) r_law_9 b_law_9 := by
  have hc : (cxOf (L2N.CX P w) P w K mg base N_law "law" sc_law f cdv A outer s H E).calm = true := rfl
  have hun : (A.deeper (envOfC "law" sc_law s.heap.objs.size f cdv)).units + 64 < cLine := hr.units
  have hN := S_law.nd
  have tk : L2N.Takes (cxOf (L2N.CX P w) P w K mg base N_law "law" sc_law f cdv A outer s H E) (fun c d _ H => E c d H) := L2N.takes_of rfl rfl rfl rfl
  have hp : PassesOwn (model P w) (A.deeper (envOfC "law" sc_law s.heap.objs.size f cdv)) (envOfC "law" sc_law s.heap.objs.size f cdv) (cxOf (L2N.CX P w) P w K mg base N_law "law" sc_law f cdv A outer s H E).xe := passes_of (X := (cxOf (L2N.CX P w) P w K mg base N_law "law" sc_law f cdv A outer s H E)) rfl
  exact (st_expX (sx_pop 9 (vi C_law 9).rcv ⟨rfl, rfl⟩))
def r_law_10 : Stmt := (restL).getD 10 (.Pass ⟨0, 0, 0, 0⟩)
def b_law_10 : BM :=
  (Bd.ite [] (E.tru (E.op2 dNe (E.opL dLen (E.cons (E.fnF 1 m_orders (E.cons (E.v 8) E.nil)) E.nil)) (E.opL dLen (E.cons (E.v 7) E.nil)))) (Bd.seq (Bd.ret [] (E.c (.bl false)))
  Bd.nx) Bd.nx)
theorem so_law_10 (hfree : ∀ (i : Nat) (x : Str), frees[i]? = some x → mg x = none) (hcls : ∀ (i : Nat) (x : Str), classes[i]? = some x → mg x = some (.ref (He.ga K x))) (TO : TabOk P w K mg base 1 tb1) (IO : IsOk K tb1 isT) (F_law_any_row : FnI P w K mg base 3 "_law_any_row" 2 m_law_any_row []) (F_law_ranks : FnI P w K mg base 2 "_law_ranks" 3 m_law_ranks []) (F_law_row : FnI P w K mg base 1 "_law_row" 1 m_law_row []) (M_Order : MkI P w K mg base 3 "Order" 1 m_Order_init []) (F_law_draw : FnI P w K mg base 1 "_law_draw" 2 m_law_draw []) (F_law_all : FnI P w K mg base 1 "_law_all" 1 m_law_all []) (F_orders : FnF P w K mg base 5 "orders" 1 m_orders) (f : Addr) (cdv : Value) (A : Around) (outer : List PySem.Env) (s : Shared) (H : Hp) (E : XK) (hr : Room 5 (A.deeper (envOfC "law" sc_law s.heap.objs.size f cdv))) : StX (cxOf (L2N.CX P w) P w K mg base N_law "law" sc_law f cdv A outer s H E) (fun c d _ H => E c d H) r_law_10 b_law_10 := by
  have hc : (cxOf (L2N.CX P w) P w K mg base N_law "law" sc_law f cdv A outer s H E).calm = true := rfl
  have hun : (A.deeper (envOfC "law" sc_law s.heap.objs.size f cdv)).units + 64 < cLine := hr.units
  have hN := S_law.nd
  have tk : L2N.Takes (cxOf (L2N.CX P w) P w K mg base N_law "law" sc_law f cdv A outer s H E) (fun c d _ H => E c d H) := L2N.takes_of rfl rfl rfl rfl
  have hp : PassesOwn (model P w) (A.deeper (envOfC "law" sc_law s.heap.objs.size f cdv)) (envOfC "law" sc_law s.heap.objs.size f cdv) (cxOf (L2N.CX P w) P w K mg base N_law "law" sc_law f cdv A outer s H E).xe := passes_of (X := (cxOf (L2N.CX P w) P w K mg base N_law "law" sc_law f cdv A outer s H E)) rfl
  exact (st_if (t_cmp (o_ne hun) (e_blt c_len (gl C_law 3) (hfree 5 _ rfl) boot_len (ea_cons (e_fnF (fnF_fr F_orders (hr.mono (by decide : 5 ≤ 5)) tk (gl C_law 10) (ea_cons (e_vv (vi C_law 8)) ea_nil))) ea_nil)) (e_blt c_len (gl C_law 3) (hfree 5 _ rfl) boot_len (ea_cons (e_vv (vi C_law 7)) ea_nil))) (st_cons (st_ret e_bl)
  st_nil) st_nil)
def b_law : BM :=
  (Bd.seq b_law_0
  (Bd.seq b_law_1
  (Bd.seq b_law_2
  (Bd.seq b_law_3
  (Bd.seq b_law_4
  (Bd.seq b_law_5
  (Bd.seq b_law_6
  (Bd.seq b_law_7
  (Bd.seq b_law_8
  (Bd.seq b_law_9
  (Bd.seq b_law_10
  Bd.nx)))))))))))
theorem rows_law : restL = [r_law_0, r_law_1, r_law_2, r_law_3, r_law_4, r_law_5, r_law_6, r_law_7, r_law_8, r_law_9, r_law_10] := rfl
theorem bo_law (hfree : ∀ (i : Nat) (x : Str), frees[i]? = some x → mg x = none) (hcls : ∀ (i : Nat) (x : Str), classes[i]? = some x → mg x = some (.ref (He.ga K x))) (TO : TabOk P w K mg base 1 tb1) (IO : IsOk K tb1 isT) (F_law_any_row : FnI P w K mg base 3 "_law_any_row" 2 m_law_any_row []) (F_law_ranks : FnI P w K mg base 2 "_law_ranks" 3 m_law_ranks []) (F_law_row : FnI P w K mg base 1 "_law_row" 1 m_law_row []) (M_Order : MkI P w K mg base 3 "Order" 1 m_Order_init []) (F_law_draw : FnI P w K mg base 1 "_law_draw" 2 m_law_draw []) (F_law_all : FnI P w K mg base 1 "_law_all" 1 m_law_all []) (F_orders : FnF P w K mg base 5 "orders" 1 m_orders) : BodyOk P w K mg base N_law "law" sc_law 5 restL b_law := by
  intro f cdv A outer s H E hr
  rw [rows_law]
  exact (st_cons (so_law_0 hfree hcls TO IO F_law_any_row F_law_ranks F_law_row M_Order F_law_draw F_law_all F_orders f cdv A outer s H E hr)
  (st_cons (so_law_1 hfree hcls TO IO F_law_any_row F_law_ranks F_law_row M_Order F_law_draw F_law_all F_orders f cdv A outer s H E hr)
  (st_cons (so_law_2 hfree hcls TO IO F_law_any_row F_law_ranks F_law_row M_Order F_law_draw F_law_all F_orders f cdv A outer s H E hr)
  (st_cons (so_law_3 hfree hcls TO IO F_law_any_row F_law_ranks F_law_row M_Order F_law_draw F_law_all F_orders f cdv A outer s H E hr)
  (st_cons (so_law_4 hfree hcls TO IO F_law_any_row F_law_ranks F_law_row M_Order F_law_draw F_law_all F_orders f cdv A outer s H E hr)
  (st_cons (so_law_5 hfree hcls TO IO F_law_any_row F_law_ranks F_law_row M_Order F_law_draw F_law_all F_orders f cdv A outer s H E hr)
  (st_cons (so_law_6 hfree hcls TO IO F_law_any_row F_law_ranks F_law_row M_Order F_law_draw F_law_all F_orders f cdv A outer s H E hr)
  (st_cons (so_law_7 hfree hcls TO IO F_law_any_row F_law_ranks F_law_row M_Order F_law_draw F_law_all F_orders f cdv A outer s H E hr)
  (st_cons (so_law_8 hfree hcls TO IO F_law_any_row F_law_ranks F_law_row M_Order F_law_draw F_law_all F_orders f cdv A outer s H E hr)
  (st_cons (so_law_9 hfree hcls TO IO F_law_any_row F_law_ranks F_law_row M_Order F_law_draw F_law_all F_orders f cdv A outer s H E hr)
  (st_cons (so_law_10 hfree hcls TO IO F_law_any_row F_law_ranks F_law_row M_Order F_law_draw F_law_all F_orders f cdv A outer s H E hr)
  st_nil)))))))))))
def tb_law : BM :=
  (Bd.seq (Bd.asg (.nm 10) [] (E.fnF 1 m_orders (E.cons (E.c (.int 6)) E.nil)))
  (Bd.seq (Bd.ret [] (E.vand (E.op2 dEq (E.opL dLen (E.cons (E.v 10) E.nil)) (E.c (.int 720))) (E.vand (E.op2 dEq (E.op1 (dFld tb1 "row") (E.op2 dIx (E.v 10) (E.c (.int 0)))) (E.tup (E.cons (E.c (.int 1)) (E.cons (E.c (.int 2)) (E.cons (E.c (.int 3)) (E.cons (E.c (.int 4)) (E.cons (E.c (.int 5)) (E.cons (E.c (.int 6)) E.nil)))))))) (E.op2 dEq (E.op1 (dFld tb1 "row") (E.op2 dIx (E.v 10) (E.c (.int 719)))) (E.tup (E.cons (E.c (.int 6)) (E.cons (E.c (.int 5)) (E.cons (E.c (.int 4)) (E.cons (E.c (.int 3)) (E.cons (E.c (.int 2)) (E.cons (E.c (.int 1)) E.nil)))))))))))
  Bd.nx))
theorem tl_law (hfree : ∀ (i : Nat) (x : Str), frees[i]? = some x → mg x = none) (hcls : ∀ (i : Nat) (x : Str), classes[i]? = some x → mg x = some (.ref (He.ga K x))) (TO : TabOk P w K mg base 1 tb1) (IO : IsOk K tb1 isT) (F_law_any_row : FnI P w K mg base 3 "_law_any_row" 2 m_law_any_row []) (F_law_ranks : FnI P w K mg base 2 "_law_ranks" 3 m_law_ranks []) (F_law_row : FnI P w K mg base 1 "_law_row" 1 m_law_row []) (M_Order : MkI P w K mg base 3 "Order" 1 m_Order_init []) (F_law_draw : FnI P w K mg base 1 "_law_draw" 2 m_law_draw []) (F_law_all : FnI P w K mg base 1 "_law_all" 1 m_law_all []) (F_orders : FnF P w K mg base 5 "orders" 1 m_orders) (f : Addr) (cdv : Value) (A : Around) (outer : List PySem.Env) (s : Shared) (H : Hp) (E : XK) (hr : Room 5 (A.deeper (envOfC "law" sc_law s.heap.objs.size f cdv))) : StB (cxOf (L2N.CX P w) P w K mg base N_law "law" sc_law f cdv A outer s H E) (fun c d _ H => E c d H) tailL tb_law := by
  have hc : (cxOf (L2N.CX P w) P w K mg base N_law "law" sc_law f cdv A outer s H E).calm = true := rfl
  have hun : (A.deeper (envOfC "law" sc_law s.heap.objs.size f cdv)).units + 64 < cLine := hr.units
  have hN := S_law.nd
  have tk : L2N.Takes (cxOf (L2N.CX P w) P w K mg base N_law "law" sc_law f cdv A outer s H E) (fun c d _ H => E c d H) := L2N.takes_of rfl rfl rfl rfl
  have hp : PassesOwn (model P w) (A.deeper (envOfC "law" sc_law s.heap.objs.size f cdv)) (envOfC "law" sc_law s.heap.objs.size f cdv) (cxOf (L2N.CX P w) P w K mg base N_law "law" sc_law f cdv A outer s H E).xe := passes_of (X := (cxOf (L2N.CX P w) P w K mg base N_law "law" sc_law f cdv A outer s H E)) rfl
  exact (st_cons (st_setV (e_fnF (fnF_fr F_orders (hr.mono (by decide : 5 ≤ 5)) tk (gl C_law 10) (ea_cons e_int ea_nil))) hN ⟨rfl, .inl (lo C_law 10), .inr (lo C_law 10)⟩)
  (st_cons (st_ret (e_and (e_cmp (o_eq hun) (e_blt c_len (gl C_law 3) (hfree 5 _ rfl) boot_len (ea_cons (e_vv (vi C_law 10)) ea_nil)) e_int) (e_and (e_cmp (o_eq hun) (e_fld TO (e_ix (e_vv (vi C_law 10)) e_int)) (e_tup (ea_cons e_int (ea_cons e_int (ea_cons e_int (ea_cons e_int (ea_cons e_int (ea_cons e_int ea_nil)))))))) (e_one (e_cmp (o_eq hun) (e_fld TO (e_ix (e_vv (vi C_law 10)) e_int)) (e_tup (ea_cons e_int (ea_cons e_int (ea_cons e_int (ea_cons e_int (ea_cons e_int (ea_cons e_int ea_nil))))))))))))
  st_nil))
def m_law : List D → M D := Bd.run 14 1 b_law
end G
end
section
set_option Elab.async false
set_option linter.all false
set_option maxRecDepth 100000
set_option maxHeartbeats 4000000
namespace G
open PySem PySem.Spec PyProof.Rows L2 T PM
theorem sizeL : sizeLine = 16777216 := by decide
section
variable {p q : Addr} {s : DS}
theorem ranks_ok (h : DI p q s) {n w : Int} (hn : 0 ≤ n) (hn2 : n < 1000) (hw : 0 < w) (hw2 : w < 1000) : ∃ (ks : List Int) (s' : DS), m_law_ranks [.ref p, .int n, .int w] s = .ok (rowD ks) s' ∧ ks.length = n.toNat ∧ RanksOk n.toNat ks ∧ DI p q s' := by
  obtain ⟨ys, s', e1, h', e3, e4⟩ := lc_st (env0 := [some (.ref p), some (.int n), some (.int w), none]) (t := .nm 3) (elt := (E.op2 dAdd (E.c (.int 1)) (E.fn 2 m_law_draw [] (E.cons (E.v 0) (E.cons (E.opL dMin2 (E.cons (E.v 2) (E.cons (E.op2 dSub (E.v 1) (E.v 3)) E.nil))) E.nil)))))
    (I := DI p q) (R := fun d y => ∃ i r : Int, d = .int i ∧ y = .int r ∧ 1 ≤ r ∧ r ≤ n - i) (rangeD 0 n.toNat) [] s h (fun d hd s hs => by
      obtain ⟨i, hi, rfl⟩ := mem_rangeD hd
      have hm : 0 < (if n - (0 + (i : Int)) < w then n - (0 + (i : Int)) else w) := by split <;> omega
      obtain ⟨r, s2, er, r0, r1, h2⟩ := draw_ok hs hm (by split <;> omega)
      refine ⟨_, .int (1 + r), s2, rfl, ?_, h2, 0 + (i : Int), 1 + r, rfl, rfl, by omega, ?_⟩
      · have er' : m_law_draw [.ref p, .int (if n - (0 + (i : Int)) < w then n - (0 + (i : Int)) else w)] s = .ok (.int r) s2 := er
        simp only [setE_cons, setE_nil, List.set_cons_succ, List.set_cons_zero, r_op2, r_bind, bnd_ok, r_c, r_pure, r_fn, r_cons, r_v, getV_s, List.getElem?_cons_zero, List.getElem?_cons_succ, r_opL, d_I0, r_nil, d_min2, List.append_nil, List.length_cons, List.length_nil, if_true]
        rw [er']
        rfl
      · split at r1 <;> omega) (by rw [rangeD_len]; have := sizeL; simp; omega)
  rw [rangeD_len] at e3
  have hk : ∃ ks : List Int, ys = ks.map D.int ∧ ∀ (i : Nat) (r : Int), ks[i]? = some r → 1 ≤ r ∧ r ≤ n - i := by
    have key : ∀ (m : Nat) (ys : List D) (b : Nat), ys.length = m → (∀ (i : Nat) (y : D), ys[i]? = some y → ∃ r : Int, y = .int r ∧ 1 ≤ r ∧ r ≤ n - (b + i : Nat)) → ∃ ks : List Int, ys = ks.map D.int ∧ ∀ (i : Nat) (r : Int), ks[i]? = some r → 1 ≤ r ∧ r ≤ n - (b + i : Nat) := by
      intro m
      induction m with
      | zero =>
        intro ys b hl _
        refine ⟨[], List.length_eq_zero_iff.mp hl, fun i r h => by simp at h⟩
      | succ m ih =>
        intro ys b hl hy
        cases ys with
        | nil => simp at hl
        | cons y t =>
          obtain ⟨r, rfl, r0, r1⟩ := hy 0 y rfl
          obtain ⟨ks, rfl, hks⟩ := ih t (b + 1) (by simpa using hl) (fun i y h => by
            have := hy (i + 1) y (by simpa using h)
            simpa [Nat.add_assoc, Nat.add_comm 1] using this)
          refine ⟨r :: ks, rfl, fun i r' h => ?_⟩
          cases i with
          | zero => simp at h; subst h; exact ⟨r0, r1⟩
          | succ i =>
            have := hks i r' (by simpa using h)
            simpa [Nat.add_assoc, Nat.add_comm 1] using this
    obtain ⟨ks, e, hks⟩ := key n.toNat ys 0 e3 (fun i y hy => by
      have hi : i < n.toNat := by
        rcases List.getElem?_eq_some_iff.mp hy with ⟨hl, _⟩
        omega
      obtain ⟨j, r, ej, er, r0, r1⟩ := e4 i _ y (rangeD_get 0 n.toNat i hi) hy
      injection ej with ej
      exact ⟨r, er, r0, by simp; omega⟩)
    exact ⟨ks, e, fun i r h => by simpa using hks i r h⟩
  obtain ⟨ks, rfl, hks⟩ := hk
  have hlen : ks.length = n.toNat := by simpa using e3
  refine ⟨ks, s', ?_, hlen, ?_, h'⟩
  · refine run_rt (seq_rt (ret_rt (d := rowD ks) (s2 := s') ?_))
    rw [List.nil_append] at e1
    simp [rg62 hn (show n < 1000000000 by omega), e1]
  · have key : ∀ (m : Nat) (ks : List Int), ks.length ≤ m → (∀ (i : Nat) (r : Int), ks[i]? = some r → 1 ≤ r ∧ r ≤ (m : Int) - i) → RanksOk m ks := by
      intro m ks
      induction ks generalizing m with
      | nil => exact fun _ _ => trivial
      | cons k t ih =>
        intro hl hk
        have h0 := hk 0 k rfl
        refine ⟨h0.1, by simpa using h0.2, ih (m - 1) (by simp at hl; omega) fun i r hr => ?_⟩
        have := hk (i + 1) r (by simpa using hr)
        simp at hl
        omega
    exact key _ _ (by omega) fun i r hr => by
      have := hks i r hr
      omega
theorem mem_get {α : Type} {xs : List α} {i : Nat} {x : α} (h : xs[i]? = some x) : i < xs.length := (List.getElem?_eq_some_iff.mp h).1
theorem map_erase {α β : Type} (f : α → β) : ∀ (l : List α) (i : Nat), (l.map f).eraseIdx i = (l.eraseIdx i).map f
  | [], _ => rfl
  | _ :: _, 0 => rfl
  | x :: l, i + 1 => congrArg (f x :: ·) (map_erase f l i)
theorem row_e0 {ks : List Int} (hl : ks.length < 1000) : Bd.parOO 1 2 (E.lc [4] (E.rng1 (E.cons (E.opL dLen (E.cons (E.v 0) E.nil)) E.nil)) (.nm 4) E.yes (E.op2 dAdd (E.v 4) (E.c (.int 1)))) (E.lst E.nil) [some (.val (rowD ks)), none, none, none, none] s
      = .ok .nx [some (.val (rowD ks)), some (.own ((plainR ks.length).map D.int)), some (.own []), none, none] s := by
  have hp : rangeD 0 ks.length = ((List.range ks.length).map fun (i : Nat) => (i : Int)).map D.int := by
    unfold rangeD
    rw [List.map_map]
    exact List.map_congr_left fun i _ => by simp
  have e1 := lcI (env0 := [some (rowD ks), none, none, none, none]) (j := 4) (elt := E.op2 dAdd (E.v 4) (E.c (.int 1))) (g := fun x => x + 1) (ns := (List.range ks.length).map fun (i : Nat) => (i : Int)) (s := s) (fun x _ => by simp) (by have := sizeL; simp; omega)
  rw [← hp, List.map_map] at e1
  unfold Bd.parOO
  have e2 : E.lc [4] (E.rng1 (E.cons (E.opL dLen (E.cons (E.v 0) E.nil)) E.nil)) (.nm 4) E.yes (E.op2 dAdd (E.v 4) (E.c (.int 1))) (view [] 0 [some (.val (rowD ks)), none, none, none, none]) s = .ok (.lst ((plainR ks.length).map D.int)) s := by
    simp [rg62 (show 0 ≤ (ks.length : Int) by omega) (by omega), e1]
    simp [plainR, Function.comp_def]
  rw [e2]
  simp [Bd.withE]
theorem row_loop {ks : List Int} (hk : RanksOk ks.length ks) (hl : ks.length < 1000) : ∃ (x : Option SV) (left found : List Int), Bd.forL (.nm 3) (Bd.seq (Bd.app 2 (Bd.popAt 1 (Bd.sx [] (E.op2 dSub (E.v 3) (E.c (.int 1)))))) Bd.nx) (ks.map D.int) [some (.val (rowD ks)), some (.own ((plainR ks.length).map D.int)), some (.own []), none, none] s
    = .ok .nx [some (.val (rowD ks)), some (.own (left.map D.int)), some (.own ((rowL (plainR ks.length) ks).map D.int)), x, none] s := by
  obtain ⟨ve, s2, hf, x, left, found, rfl, rfl, hfe, _, _⟩ := for_inv (t := .nm 3) (body := Bd.seq (Bd.app 2 (Bd.popAt 1 (Bd.sx [] (E.op2 dSub (E.v 3) (E.c (.int 1)))))) Bd.nx)
    (fun k ve s' => ∃ (x : Option SV) (left found : List Int), s' = s ∧ ve = [some (.val (rowD ks)), some (.own (left.map D.int)), some (.own (found.map D.int)), x, none] ∧ found ++ rowL left (ks.drop k) = rowL (plainR ks.length) ks ∧ RanksOk left.length (ks.drop k) ∧ (found.length = k ∧ left.length + k = ks.length))
    (ks.map D.int) 0 [some (.val (rowD ks)), some (.own ((plainR ks.length).map D.int)), some (.own []), none, none] s ⟨none, plainR ks.length, [], rfl, rfl, by simp, by simpa [plainR_len] using hk, rfl, by simp [plainR_len]⟩
    (fun i ve s1 d hd ⟨x, left, found, e1, e2, e3, e4, e5, e6⟩ => by
      subst e1 e2
      rw [Nat.zero_add] at *
      rw [List.getElem?_map] at hd
      cases hr : ks[i]? with
      | none => rw [hr] at hd; cases hd
      | some r =>
        rw [hr] at hd
        cases hd
        have hi := mem_get hr
        have hdr : ks.drop i = r :: ks.drop (i + 1) := by
          rw [List.drop_eq_getElem_cons hi]
          rw [List.getElem?_eq_getElem hi] at hr
          rw [Option.some.inj hr]
        rw [hdr] at e3 e4
        obtain ⟨r0, r1, e4⟩ := e4
        have hg := at1_get (r := left) r0 (by omega)
        have hk : (r - 1).toNat < left.length := by omega
        refine ⟨_, [some (.val (rowD ks)), some (.own ((left.eraseIdx (r - 1).toNat).map D.int)), some (.own ((found ++ [at1 left r]).map D.int)), some (.val (.int r)), none], s1, rfl, ?_, some (.val (.int r)), left.eraseIdx (r - 1).toNat, found ++ [at1 left r], rfl, rfl, ?_, ?_, by simp [e5], by rw [List.length_eraseIdx, if_pos hk]; omega⟩
        · rw [seq_nx (app_popAt (i := r - 1) (d := .int (at1 left r)) (ds1 := left.map D.int) (ds2 := found.map D.int) (s2 := s1) (by simp) rfl rfl (by decide) (by have := sizeL; simp; omega) (by omega) (by omega) (by rw [List.getElem?_map, hg]; rfl))]
          simp [Bd.nx, map_erase]
        · rw [← e3]
          simp [rowL]
        · rw [List.length_eraseIdx, if_pos hk]
          exact e4)
  rw [Nat.zero_add, List.length_map, List.drop_of_length_le (Nat.le_refl _)] at hfe
  have hfe' : found = rowL (plainR ks.length) ks := by simpa [rowL] using hfe
  rw [hfe'] at hf
  exact ⟨x, left, found, hf⟩
theorem row_ok {ks : List Int} (hk : RanksOk ks.length ks) (hl : ks.length < 1000) : m_law_row [rowD ks] s = .ok (rowD (rowL (plainR ks.length) ks)) s := by
  obtain ⟨x, left, found, hf⟩ := row_loop (s := s) hk hl
  refine run_rt (ve2 := [some (.val (rowD ks)), some (.own (left.map D.int)), some (.own ((rowL (plainR ks.length) ks).map D.int)), x, none]) ?_
  show b_law_row [some (.val (rowD ks)), none, none, none, none] s = _
  unfold b_law_row
  rw [seq_nx (row_e0 hl), seq_nx (by rw [loop_of (s2 := s) (ds := ks.map D.int) (by simp)]; exact hf)]
  exact seq_rt (ret_rt (by simp))
theorem isI_i (i : Int) : dIsi isT (.b "int") (.int i) = pure (.bl true) := Eq.trans rfl rfl
theorem isB_i (i : Int) : dIsi isT (.b "bool") (.int i) = pure (.bl false) := Eq.trans rfl rfl
theorem isInt_ok (i : Int) : m_is_integer [.int i] s = .ok (.bl true) s := by
  refine run_rt (seq_rt (ret_rt ?_))
  simp [isI_i, isB_i]
theorem isLT_t (xs : List D) : dIsiT isT [.b "list", .b "tuple"] (.tup xs) = pure (.bl true) := Eq.trans rfl rfl
theorem isLT_l (xs : List D) : dIsiT isT [.b "list", .b "tuple"] (.lst xs) = pure (.bl true) := Eq.trans rfl rfl
theorem areInts_ok {x : D} {ns : List Int} (hx : x = .tup (ns.map D.int) ∨ x = .lst (ns.map D.int)) (hl : ns.length < 1000) : m_are_integers [x] s = .ok (.bl true) s := by
  refine run_rt (seq_rt (ret_rt ?_))
  have e1 : lcM [some x, none] (.nm 1) E.yes (E.fn 1 m_is_integer [] (E.cons (E.v 1) E.nil)) (ns.map D.int) [] s = .ok ((ns.map fun _ => true).map D.bl) s := by
    rw [lc_map (g := fun _ => .bl true) _ _ _ (fun d hd => by
      obtain ⟨i, _, rfl⟩ := List.mem_map.mp hd
      exact ⟨_, rfl, by simp [isInt_ok]⟩) (by have := sizeL; simp; omega)]
    simp
  rcases hx with rfl | rfl
  · have e2 : dAll [.lst ((ns.map fun _ => true).map D.bl)] = pure (.bl true) := by
      rw [d_allB, show (((ns.map fun _ => true) : List Bool).all id) = true by simp [List.all_eq_true]]
    simp only [List.map_cons, List.map_nil, List.length_cons, List.length_nil, List.replicate, List.cons_append, List.nil_append, view_cons', view_nil', seen_v, seen_n, r_vand, r_op1, r_bind, bnd_ok, r_v, getV_s, List.getElem?_cons_zero, r_pure, r_opL, r_cons, r_nil, r_lc, r_it, r_itemsT, wipe_cons, wipe_nil, List.set_cons_succ, List.set_cons_zero, e1, e2, isLT_t, isLT_l, r_isB, List.headD, if_true]
  · have e2 : dAll [.lst ((ns.map fun _ => true).map D.bl)] = pure (.bl true) := by
      rw [d_allB, show (((ns.map fun _ => true) : List Bool).all id) = true by simp [List.all_eq_true]]
    simp only [List.map_cons, List.map_nil, List.length_cons, List.length_nil, List.replicate, List.cons_append, List.nil_append, view_cons', view_nil', seen_v, seen_n, r_vand, r_op1, r_bind, bnd_ok, r_v, getV_s, List.getElem?_cons_zero, r_pure, r_opL, r_cons, r_nil, r_lc, r_it, r_itemsL, wipe_cons, wipe_nil, List.set_cons_succ, List.set_cons_zero, e1, e2, isLT_t, isLT_l, r_isB, List.headD, if_true]
def ranksL (r : List Int) : List Int := (List.range r.length).map fun i => (((r.drop i).filter fun x => decide (x ≤ r.getD i 0)).length : Int)
theorem ranks_of_ok {r : List Int} (hl : r.length < 1000) : m_ranks_of [rowD r] s = .ok (rowD (ranksL r)) s := by
  obtain ⟨ve, s2, hf, x, y, rfl, rfl⟩ := for_inv (t := .tp [2, 3]) (body := Bd.seq (Bd.app 1 (Bd.sx [] (E.opL dLen (E.cons (E.lc [4] (E.it (E.sl (E.v 0) (E.p1 (E.v 2)) E.p0)) (.nm 4) (E.tru (E.op2 dLe (E.v 4) (E.v 3))) (E.v 4)) E.nil)))) Bd.nx)
    (fun k ve s' => ∃ (x y : Option SV), s' = s ∧ ve = [some (.val (rowD r)), some (.own (((ranksL r).take k).map D.int)), x, y, none])
    (enumD (r.map D.int)) 0 [some (.val (rowD r)), some (.own []), none, none, none] s ⟨none, none, rfl, by simp⟩
    (fun i ve s1 d hd ⟨x, y, e1, e2⟩ => by
      subst e1 e2
      rw [Nat.zero_add] at *
      have hi : i < r.length := by simpa [enumD_len] using mem_get hd
      rw [enumD_at (d := .int r[i]) (by simp [hi])] at hd
      cases hd
      refine ⟨_, [some (.val (rowD r)), some (.own (((ranksL r).take (i + 1)).map D.int)), some (.val (.int i)), some (.val (.int r[i])), none], s1, rfl, ?_, _, _, rfl, rfl⟩
      have hg : (ranksL r)[i]? = some (((r.drop i).filter fun x => decide (x ≤ r[i])).length : Int) := by simp [ranksL, hi]
      have ht : (ranksL r).take (i + 1) = (ranksL r).take i ++ [(((r.drop i).filter fun x => decide (x ≤ r[i])).length : Int)] := by
        rw [List.take_add_one, hg]
        rfl
      have e1 := lcFI (env0 := [some (rowD r), none, some (.int i), some (.int r[i]), none]) (j := 4) (tst := (E.tru (E.op2 dLe (E.v 4) (E.v 3)))) (elt := E.v 4) (P := fun x => decide (x ≤ r[i])) (g := id) (ns := r.drop i) (s := s1) (fun x _ => by simp) (fun x _ => by simp) (by have := sizeL; simp; omega)
      rw [List.map_drop] at e1
      rw [seq_nx (app_nx (d := .int (((r.drop i).filter fun x => decide (x ≤ r[i])).length : Int)) (ds := ((ranksL r).take i).map D.int) (s2 := s1) (by
        simp [cut_drop (r.map D.int) i (by simp; omega), e1]) rfl (by have := sizeL; simp; omega))]
      rw [ht]
      simp [Bd.nx])
  rw [Nat.zero_add, enumD_len, List.length_map, List.take_of_length_le (by simp [ranksL])] at hf
  refine run_rt (ve2 := [some (.val (rowD r)), some (.own ((ranksL r).map D.int)), x, y, none]) ?_
  show b_ranks_of [some (.val (rowD r)), none, none, none, none] s2 = _
  unfold b_ranks_of
  rw [seq_nx (asgO_nx (ds := []) (s2 := s2) (by simp))]
  rw [seq_nx (by rw [loop_of (s2 := s2) (ds := enumD (r.map D.int)) (by simp)]; exact hf)]
  exact seq_rt (ret_rt (by simp))
def widthL (r : List Int) : Int := match maxI (ranksL r) with
  | some m => m
  | none => 0
def ordF (r : List Int) : List (Str × D) := [("row", rowD r), ("ranks", rowD (ranksL r)), ("width", .int (widthL r))]
def ordD (r : List Int) : D := .ins "Order" (ordF r)
theorem sortI_of {r : List Int} (h : IsP r) : sortI r = plainR r.length := by
  refine sorted_one ((sortI_perm r).trans h) (sortI_pair r) ?_
  unfold plainR
  refine List.Pairwise.map _ ?_ (List.pairwise_lt_range (n := r.length))
  intro a b h
  omega
theorem pr1 (d : D) : List.lookup (Str.ofString "row") (putD "row" d []) = some d := rfl
theorem pr2 (d e : D) : List.lookup (Str.ofString "ranks") (putD "ranks" e (putD "row" d [])) = some e := rfl
theorem init_ok {x : D} {r : List Int} (hx : x = .tup (r.map D.int) ∨ x = .lst (r.map D.int)) (hr : IsP r) (hl : r.length < 1000) : m_Order_init [x] s = .ok (ordF r) s := by
  have ha := areInts_ok (s := s) hx hl
  refine runI_ok (ve := [some (.val x), none]) ?_
  show b_Order_init [some (.slf "Order" []), some (.val x), none] s = _
  unfold b_Order_init
  have e1 := lcI (env0 := [none, some x, none]) (j := 2) (elt := E.opL dInt (E.cons (E.v 2) E.nil)) (g := id) (ns := r) (s := s) (fun x _ => by simp) (by have := sizeL; omega)
  have hi : items x = pure (r.map D.int) := by rcases hx with rfl | rfl <;> rfl
  have hn : dLen [x] = pure (.int r.length) := by rcases hx with rfl | rfl <;> simp
  have ht : dTuple [x] = pure (rowD r) := by rcases hx with rfl | rfl <;> rfl
  have hg : rgOk 1 ((r.length : Int) + 1) := rgOk_of (by omega) (by omega) (by omega) (by omega)
  have hp : rangeD 1 ((r.length : Int) + 1 - 1).toNat = (plainR r.length).map D.int := by
    rw [← rangeD_plain]
    congr 1
    omega
  rw [seq_nx (s2 := s) (ve2 := [some (.slf "Order" []), some (.val x), none]) (by
    rw [ite_b (k := false) (s2 := s) (by simp [ha, hi, hn, e1, hg, rangeD_plain, sortI_of hr])]
    rfl)]
  rw [seq_nx (fld_nx (d := rowD r) (s2 := s) (by simp [ht]) rfl rfl rfl (by decide))]
  rw [seq_nx (fld_nx (d := rowD (ranksL r)) (s2 := s) (c := "Order") (fs := putD "row" (rowD r) []) (by simp [dFld, tb0, ranks_of_ok hl, pr1]) rfl (by simp [Bd.okV, noLst_row]) rfl (show 1 < 1000 by decide))]
  rw [seq_nx (fld_nx (d := .int (widthL r)) (s2 := s) (c := "Order") (fs := putD "ranks" (rowD (ranksL r)) (putD "row" (rowD r) [])) (by
    simp [dFld, tb0, pr2]
    unfold widthL
    cases maxI (ranksL r) <;> rfl) rfl (by simp [Bd.okV, noLst]) rfl (show 2 < 1000 by decide))]
  rfl
theorem mk_ok {x : D} {r : List Int} (hx : x = .tup (r.map D.int) ∨ x = .lst (r.map D.int)) (hr : IsP r) (hl : r.length < 1000) : (m_Order_init [x] >>= fun fs => (pure (.ins "Order" fs) : M D)) s = .ok (ordD r) s := by
  simp [init_ok hx hr hl, ordD]
theorem row_fld (tb : Tab) (r : List Int) (h : tb.fld "Order" "row" = true) : dFld tb "row" (ordD r) = pure (rowD r) := by
  unfold dFld ordD
  simp only [h, if_true]
  rfl
theorem row0 (r : List Int) : dFld tb0 "row" (ordD r) = pure (rowD r) := row_fld _ _ rfl
theorem row1 (r : List Int) : dFld tb1 "row" (ordD r) = pure (rowD r) := row_fld _ _ rfl
theorem no_f (nm : Str) (h1 : nm ≠ "row") (h2 : nm ≠ "ranks") (h3 : nm ≠ "width") (r : List Int) : (ordF r).lookup nm = none := by
  unfold ordF
  simp only [List.lookup, beq_false_of_ne h1, beq_false_of_ne h2, beq_false_of_ne h3]
theorem cut_map {α β : Type} (f : α → β) (xs : List α) (lo hi : Option Int) : T.cutD (xs.map f) lo hi = (T.cutD xs lo hi).map f := by
  unfold T.cutD
  rw [List.length_map, List.map_take, List.map_drop]
theorem cut_len {α : Type} (xs : List α) (lo hi : Option Int) : (T.cutD xs lo hi).length ≤ xs.length := by
  unfold T.cutD
  rw [List.length_take, List.length_drop]
  omega
theorem cpow18 : CPow 10 18 := ⟨by decide, by decide, by decide⟩
theorem deal_ok {ns : List Int} (hl : ns.length ≤ 63) (k : Int) : ∃ g m, Bd.runD 5 2 b_law_deal [.lsk (ns.map D.int), .int k] s = some (g, m, s) ∧ g.length ≤ 63 := by
  have hs := sizeL
  have hc : (T.cutD ns (some k) (some 63)).length ≤ 63 := Nat.le_trans (cut_len _ _ _) hl
  have e0 := lcI (env0 := [some (.lsk (ns.map D.int)), some (.int k), none, none, none]) (j := 2) (elt := E.opL dAbs (E.cons (E.v 2) E.nil)) (g := fun i => if i < 0 then -i else i) (ns := T.cutD ns (some k) (some 63)) (s := s) (fun x _ => by simp) (by omega)
  rw [← cut_map] at e0
  have hq : ∃ cs : List Int, cs.length ≤ 63 ∧ ((T.cutD ns (some k) (some 63)).map fun i => if i < 0 then -i else i) = cs := ⟨_, by rw [List.length_map]; exact hc, rfl⟩
  obtain ⟨cs, hcl, hce⟩ := hq
  rw [hce] at e0
  obtain ⟨ve, s2, hf, x, m, rfl, rfl⟩ := for_inv (t := .nm 2) (body := (Bd.seq (Bd.asg (.nm 4) [] (E.op2 dMod (E.opL dInt (E.cons (E.op2 dAdd (E.op2 dMul (E.v 4) (E.c (.int 16807))) (E.op2 dMod (E.opL dInt (E.cons (E.v 2) E.nil)) (E.c (.int 2147483629)))) E.nil)) (E.c (.int 2147483647)))) Bd.nx))
    (fun j ve s' => ∃ (x : Option SV) (m : Int), s' = s ∧ ve = [some (.val (.lsk (ns.map D.int))), some (.val (.int k)), x, some (.val (.lst (cs.map D.int))), some (.val (.int m))])
    (cs.map D.int) 0 [some (.val (.lsk (ns.map D.int))), some (.val (.int k)), none, some (.val (.lst (cs.map D.int))), some (.val (.int (15485863 + 11 * k)))] s ⟨none, _, rfl, rfl⟩
    (fun i ve s1 d hd ⟨x, m, e1, e2⟩ => by
      subst e1 e2
      rw [List.getElem?_map] at hd
      cases hr : cs[i]? with
      | none => rw [hr] at hd; cases hd
      | some c =>
        rw [hr] at hd
        cases hd
        refine ⟨_, _, s1, rfl, ?_, some (.val (.int c)), (m * 16807 + c % 2147483629) % 2147483647, rfl, rfl⟩
        have h1 : CMul m 16807 := cmulR (by decide) (by decide)
        rw [seq_nx (asgN_nx (d := .int ((m * 16807 + c % 2147483629) % 2147483647)) (s2 := s1) (by simp [h1]))]
        rfl)
  have e3 := lcFI (env0 := [some (.lsk (ns.map D.int)), some (.int k), none, some (.lst (cs.map D.int)), some (.int m)]) (j := 2) (tst := (E.tru (E.op2 dGe (E.v 2) (E.op2 dPow (E.c (.int 10)) (E.c (.int 18)))))) (elt := E.v 2) (P := fun x => decide (1000000000000000000 ≤ x)) (g := id) (ns := cs) (s := s2)
    (fun x _ => by simp [cpow18]) (fun x _ => by simp) (by omega)
  refine ⟨(cs.filter fun x => decide (1000000000000000000 ≤ x)).reverse, m % 2147483646 + 1, ?_, by rw [List.length_reverse]; exact Nat.le_trans (List.length_filter_le _ _) hcl⟩
  have hb : b_law_deal [some (.val (.lsk (ns.map D.int))), some (.val (.int k)), none, none, none] s2 = .ok (.rtD (cs.filter fun x => decide (1000000000000000000 ≤ x)).reverse (m % 2147483646 + 1)) [some (.val (.lsk (ns.map D.int))), some (.val (.int k)), x, some (.val (.lst (cs.map D.int))), some (.val (.int m))] s2 := by
    unfold b_law_deal
    rw [seq_nx (asgL_nx (ds := cs.map D.int) (s2 := s2) (by simp [e0]))]
    have h1 : CMul 11 k := by
      unfold CMul
      omega
    rw [seq_nx (asgN_nx (d := .int (15485863 + 11 * k)) (s2 := s2) (by simp [h1]))]
    rw [seq_nx (by rw [loop_of (s2 := s2) (ds := cs.map D.int) (by simp)]; exact hf)]
    refine seq_rtD ?_
    unfold Bd.retD
    have h2 : E.op1 dRev (E.lc [2] (E.it (E.v 3)) (.nm 2) (E.tru (E.op2 dGe (E.v 2) (E.op2 dPow (E.c (.int 10)) (E.c (.int 18))))) (E.v 2)) (view [] 0 [some (.val (.lsk (ns.map D.int))), some (.val (.int k)), x, some (.val (.lst (cs.map D.int))), some (.val (.int m))]) s2 = .ok (.lst (((cs.filter fun x => decide (1000000000000000000 ≤ x)).reverse).map D.int)) s2 := by
      simp [e3]
    rw [h2]
    simp only [Bd.withE]
    have h3 : E.op2 dAdd (E.op2 dMod (E.opL dInt (E.cons (E.v 4) E.nil)) (E.c (.int 2147483646))) (E.c (.int 1)) (view [] 0 [some (.val (.lsk (ns.map D.int))), some (.val (.int k)), x, some (.val (.lst (cs.map D.int))), some (.val (.int m))]) s2 = .ok (.int (m % 2147483646 + 1)) s2 := by
      simp
    rw [h3]
    simp only [intsOf_ints]
  refine (if_pos rfl).trans ?_
  show Bd.outD (b_law_deal [some (.val (.lsk (ns.map D.int))), some (.val (.int k)), none, none, none] s2) = _
  rw [hb]
  rfl
theorem ldraw : m_law_draw = Bd.run 3 2 bDraw := rfl
theorem rowE_ok (h : DI p q s) {n : Int} (hn : 0 ≤ n) (hn2 : n < 1000) {w : Int} (hw : 0 < w) (hw2 : w < 1000) : ∃ (r : List Int) (s' : DS), (m_law_ranks [.ref p, .int n, .int w] >>= fun x => m_law_row [x]) s = .ok (rowD r) s' ∧ IsP r ∧ r.length = n.toNat ∧ DI p q s' := by
  obtain ⟨ks, s', e, hl, hk, h'⟩ := ranks_ok h hn hn2 hw hw2
  have hk' : RanksOk ks.length ks := by rw [hl]; exact hk
  refine ⟨rowL (plainR ks.length) ks, s', ?_, rowL_isP hk', by rw [rowL_len, hl], h'⟩
  simp [e, row_ok (s := s') hk' (by omega)]
end
end G
end
section
set_option Elab.async false
set_option linter.all false
set_option maxRecDepth 100000
set_option maxHeartbeats 4000000
namespace G
open PySem PySem.Spec PyProof.Rows L2 T PM
def stepR (k : Nat) (rows : List (List Int)) : List (List Int) := rows.flatMap fun ks => (plainR k).map fun r => ks ++ [r]
def allF : Nat → List (List Int) → List (List Int)
  | 0, rows => rows
  | n + 1, rows => allF n (stepR (n + 1) rows)
def allR (n : Nat) : List (List Int) := allF n [[]]
def rowOf (ks : List Int) : List Int := rowL (plainR ks.length) ks
def rowsN (n : Nat) : List (List Int) := (allR n).map rowOf
def ranksB : Nat → List Int → Bool
  | _, [] => true
  | n, k :: ks => decide (1 ≤ k) && (decide (k ≤ n) && ranksB (n - 1) ks)
theorem ranksB_ok : ∀ {n : Nat} {ks : List Int}, ranksB n ks = true → RanksOk n ks
  | _, [], _ => trivial
  | n, k :: ks, h => by
    simp only [ranksB, Bool.and_eq_true, decide_eq_true_eq] at h
    exact ⟨h.1, h.2.1, ranksB_ok h.2.2⟩
theorem allR_ranks : ∀ n, n < 7 → ∀ ks ∈ allR n, RanksOk ks.length ks ∧ ks.length < 7 := by
  have key : (List.range 7).all (fun n => (allR n).all fun ks => ranksB ks.length ks && decide (ks.length < 7)) = true := by decide +kernel
  intro n hn ks hk
  have := List.all_eq_true.mp (List.all_eq_true.mp key n (List.mem_range.mpr hn)) ks hk
  simp only [Bool.and_eq_true, decide_eq_true_eq] at this
  exact ⟨ranksB_ok this.1, this.2⟩
theorem rowsN_up : ∀ n, n < 6 → ((rowsN n).zip ((rowsN n).drop 1)).all (fun p => ltQ p.1 p.2) = true := by
  have key : (List.range 6).all (fun n => ((rowsN n).zip ((rowsN n).drop 1)).all (fun p => ltQ p.1 p.2)) = true := by decide +kernel
  intro n hn
  exact List.all_eq_true.mp key n (List.mem_range.mpr hn)
theorem rowsN_len : ∀ n, n < 7 → 0 < (rowsN n).length ∧ (rowsN n).length ≤ 720 := by
  have key : (List.range 7).all (fun n => decide (0 < (rowsN n).length) && decide ((rowsN n).length ≤ 720)) = true := by decide +kernel
  intro n hn
  have := List.all_eq_true.mp key n (List.mem_range.mpr hn)
  simpa using this
theorem rows6 : (rowsN 6).length = 720 ∧ (rowsN 6)[0]? = some [1, 2, 3, 4, 5, 6] ∧ (rowsN 6)[719]? = some [6, 5, 4, 3, 2, 1] := by decide +kernel
theorem stepR_len (k : Nat) (rows : List (List Int)) : (stepR k rows).length = rows.length * k := by
  unfold stepR
  induction rows with
  | nil => simp
  | cons x r ih =>
    rw [List.flatMap_cons, List.length_append, ih, List.length_map, plainR_len, List.length_cons, Nat.add_mul]
    omega
theorem stepR_le {k : Nat} (hk : k ≤ 6) {rows : List (List Int)} {i : Nat} (h : rows.length ≤ 6 ^ i) : (stepR k rows).length ≤ 6 ^ (i + 1) := by
  rw [stepR_len, Nat.pow_succ]
  exact Nat.mul_le_mul h hk
theorem pow_le {i : Nat} (h : i ≤ 6) : 6 ^ i ≤ 46656 := Nat.le_trans (Nat.pow_le_pow_right (by omega) h) (by decide)
section
variable {s : DS}
theorem downD_len (i : Int) (n : Nat) : (downD i n).length = n := by simp [downD]
theorem downD_get (i : Int) (n j : Nat) (h : j < n) : (downD i n)[j]? = some (.int (i - j)) := by
  simp [downD, h]
  omega
theorem rowD_app (ks : List Int) (r : Int) : D.tup (ks.map D.int ++ [.int r]) = rowD (ks ++ [r]) := by simp
theorem stepR_mem {k : Nat} {rows : List (List Int)} {i : Nat} (h : ∀ ks ∈ rows, ks.length = i) : ∀ ks ∈ stepR k rows, ks.length = i + 1 := by
  intro ks hk
  unfold stepR at hk
  obtain ⟨a, ha, hb⟩ := List.mem_flatMap.mp hk
  obtain ⟨r, _, rfl⟩ := List.mem_map.mp hb
  simp [h a ha]
theorem all_inner {k : Nat} (hk : k ≤ 6) {rows : List (List Int)} {i : Nat} (hi : i < 6) (hr : rows.length ≤ 6 ^ i) (hm : ∀ ks ∈ rows, ks.length = i) {c : D} {x4 : Option SV} : ∃ y, Bd.loop (.nm 4) (E.it (E.v 1)) (Bd.seq (Bd.ext 3 (Bd.sx [] (E.lc [5] (E.rng2 (E.cons (E.c (.int 1)) (E.cons (E.op2 dAdd (E.v 2) (E.c (.int 1))) E.nil))) (.nm 5) E.yes (E.op2 dAdd (E.v 4) (E.tup (E.cons (E.v 5) E.nil))))))
  Bd.nx) [some (.val c), some (.val (.lst (rows.map rowD))), some (.val (.int k)), some (.own []), x4, none] s = .ok .nx [some (.val c), some (.val (.lst (rows.map rowD))), some (.val (.int k)), some (.own ((stepR k rows).map rowD)), y, none] s := by
  have hs := sizeL
  have h1 : 1 ≤ sizeLine := by decide
  have hb : (stepR k rows).length ≤ 46656 := Nat.le_trans (stepR_le hk hr) (pow_le (by omega))
  obtain ⟨ve, s2, hf, y, rfl, rfl⟩ := for_inv (t := .nm 4) (body := (Bd.seq (Bd.ext 3 (Bd.sx [] (E.lc [5] (E.rng2 (E.cons (E.c (.int 1)) (E.cons (E.op2 dAdd (E.v 2) (E.c (.int 1))) E.nil))) (.nm 5) E.yes (E.op2 dAdd (E.v 4) (E.tup (E.cons (E.v 5) E.nil)))))) Bd.nx))
    (fun j ve s' => ∃ y, s' = s ∧ ve = [some (.val c), some (.val (.lst (rows.map rowD))), some (.val (.int k)), some (.own ((stepR k (rows.take j)).map rowD)), y, none])
    (rows.map rowD) 0 [some (.val c), some (.val (.lst (rows.map rowD))), some (.val (.int k)), some (.own []), x4, none] s ⟨x4, rfl, rfl⟩
    (fun j ve s1 d hd ⟨y, e1, e2⟩ => by
      subst e1 e2
      rw [Nat.zero_add] at *
      rw [List.getElem?_map] at hd
      cases hq : rows[j]? with
      | none => rw [hq] at hd; cases hd
      | some ks =>
        rw [hq] at hd
        cases hd
        have ht : stepR k (rows.take (j + 1)) = stepR k (rows.take j) ++ (plainR k).map fun r => ks ++ [r] := by
          rw [List.take_add_one, hq]
          simp [stepR]
        have hl2 : (stepR k (rows.take (j + 1))).length ≤ 46656 := by
          rw [stepR_len] at hb ⊢
          refine Nat.le_trans (Nat.mul_le_mul_right k ?_) hb
          rw [List.length_take]
          omega
        have hks : ks.length + 1 ≤ sizeLine := by
          rw [hm ks (List.mem_of_getElem? hq)]
          omega
        have e1 := lc_map (env0 := [some c, some (.lst (rows.map rowD)), some (.int k), none, some (rowD ks), none]) (t := .nm 5) (elt := (E.op2 dAdd (E.v 4) (E.tup (E.cons (E.v 5) E.nil)))) (g := fun d => match d with
          | .int r => rowD (ks ++ [r])
          | d => d) ((plainR k).map D.int) [] s1 (fun d hd => by
            obtain ⟨r, _, rfl⟩ := List.mem_map.mp hd
            exact ⟨_, rfl, by simp [h1, hks]⟩) (by rw [List.length_map, plainR_len]; simp; omega)
        have e2 : ((plainR k).map D.int).map (fun d => match d with
          | .int r => rowD (ks ++ [r])
          | d => d) = ((plainR k).map fun r => ks ++ [r]).map rowD := by
          rw [List.map_map, List.map_map]
          rfl
        rw [e2, List.nil_append] at e1
        have hg : Rg62b 1 ((k : Int) + 1) := rg62b (by omega) (by omega) (by omega) (by omega)
        have hp : rangeD 1 ((k : Int) + 1 - 1).toNat = (plainR k).map D.int := by
          rw [← rangeD_plain]
          congr 1
          omega
        refine ⟨_, [some (.val c), some (.val (.lst (rows.map rowD))), some (.val (.int k)), some (.own ((stepR k (rows.take (j + 1))).map rowD)), some (.val (rowD ks)), none], s1, rfl, ?_, _, rfl, rfl⟩
        rw [seq_nx (ext_nx (es := ((plainR k).map fun r => ks ++ [r]).map rowD) (ds := (stepR k (rows.take j)).map rowD) (s2 := s1) (by
          simp only [setS_cons, setS_nil, List.set_cons_succ, List.set_cons_zero, view_cons', view_nil', seen_v, seen_n, seen_o0, r_lc, r_bind, r_rng2, r_cons, r_c, r_op2, r_v, r_nil, r_pure, bnd_ok, getV_s, List.getElem?_cons_succ, List.getElem?_cons_zero, d_addI, rngI2_i, if_pos hg, hp, wipe_cons, wipe_nil]
          rw [e1]
          rfl) rfl (by
            rw [ht, List.length_append, List.length_map] at hl2
            simp only [List.length_map]
            omega))]
        rw [ht]
        simp [Bd.nx])
  refine ⟨y, ?_⟩
  rw [loop_of (s2 := s2) (ds := rows.map rowD) (by simp)]
  rw [Nat.zero_add, List.length_map, List.take_of_length_le (Nat.le_refl _)] at hf
  exact hf
theorem all_ok {n : Nat} (hn : n ≤ 6) : m_law_all [.int n] s = .ok (.lst ((allR n).map rowD)) s := by
  have h1 : 1 ≤ sizeLine := by decide
  have h0 : 0 ≤ sizeLine := by decide
  obtain ⟨ve, s2, hf, x, y, z, rows, rfl, rfl, _, he⟩ := for_inv (t := .nm 2) (body := (Bd.seq (Bd.asgO 3 [] (E.lst E.nil))
  (Bd.seq (Bd.loop (.nm 4) (E.it (E.v 1)) (Bd.seq (Bd.ext 3 (Bd.sx [] (E.lc [5] (E.rng2 (E.cons (E.c (.int 1)) (E.cons (E.op2 dAdd (E.v 2) (E.c (.int 1))) E.nil))) (.nm 5) E.yes (E.op2 dAdd (E.v 4) (E.tup (E.cons (E.v 5) E.nil))))))
  Bd.nx))
  (Bd.seq (Bd.seq (Bd.frz 3) (Bd.asg (.nm 1) [] (E.v 3)))
  Bd.nx))))
    (fun i ve s' => ∃ (x y z : Option SV) (rows : List (List Int)), s' = s ∧ ve = [some (.val (.int n)), some (.val (.lst (rows.map rowD))), x, y, z, none] ∧ (rows.length ≤ 6 ^ i ∧ ∀ ks ∈ rows, ks.length = i) ∧ allF (n - i) rows = allR n)
    (downD n n) 0 [some (.val (.int n)), some (.val (.lst (([[]] : List (List Int)).map rowD))), none, none, none, none] s ⟨none, none, none, [[]], rfl, rfl, ⟨by simp, by simp⟩, rfl⟩
    (fun i ve s1 d hd ⟨x, y, z, rows, e1, e2, ⟨e3, e4⟩, e5⟩ => by
      subst e1 e2
      rw [Nat.zero_add] at *
      have hi : i < n := by simpa [downD_len] using mem_get hd
      rw [downD_get _ _ _ hi] at hd
      cases hd
      have ek : (n : Int) - i = ((n - i : Nat) : Int) := by omega
      rw [ek]
      obtain ⟨y2, hl⟩ := all_inner (s := s1) (k := n - i) (rows := rows) (i := i) (by omega) (by omega) e3 e4 (c := .int n) (x4 := z)
      refine ⟨_, [some (.val (.int n)), some (.val (.lst ((stepR (n - i) rows).map rowD))), some (.val (.int (n - i : Nat))), some (.val (.lst ((stepR (n - i) rows).map rowD))), y2, none], s1, rfl, ?_, _, _, _, stepR (n - i) rows, rfl, rfl, ⟨stepR_le (by omega) e3, stepR_mem e4⟩, ?_⟩
      · rw [seq_nx (asgO_nx (ds := []) (s2 := s1) (by simp))]
        show Bd.seq _ _ [some (.val (.int n)), some (.val (.lst (rows.map rowD))), some (.val (.int (n - i : Nat))), some (.own []), z, none] s1 = _
        rw [seq_nx hl]
        rw [seq_nx (s2 := s1) (ve2 := [some (.val (.int n)), some (.val (.lst ((stepR (n - i) rows).map rowD))), some (.val (.int (n - i : Nat))), some (.val (.lst ((stepR (n - i) rows).map rowD))), y2, none]) (by
          rw [seq_nx (frz_nx rfl)]
          rw [asgN_nx (d := .lst ((stepR (n - i) rows).map rowD)) (s2 := s1) (by simp)]
          rfl)]
        rfl
      · rw [← e5, show n - i = (n - (i + 1)) + 1 by omega]
        rfl)
  rw [Nat.zero_add, downD_len, Nat.sub_self] at he
  have he' : rows = allR n := he
  rw [he'] at hf
  refine run_rt (ve2 := [some (.val (.int n)), some (.val (.lst ((allR n).map rowD))), x, y, z, none]) ?_
  show b_law_all [some (.val (.int n)), none, none, none, none, none] s2 = _
  unfold b_law_all
  rw [seq_nx (asgN_nx (d := .lst (([[]] : List (List Int)).map rowD)) (s2 := s2) (by simp [h0, h1]))]
  rw [seq_nx (by
    rw [loop_of (s2 := s2) (ds := downD n n) (by simp [rgDn_of (i := (n : Int)) (j := 0) (by omega) (by omega) (by omega) (by omega)])]
    exact hf)]
  exact seq_rt (ret_rt (by simp))
theorem popAt_k {ve : VEnv} {s s2 : DS} {j1 : Nat} {m : EM} {i : Int} {d : D} {ds1 : List D} (hm : m (view [] 0 ve) s = .ok (.int i) s2) (h1 : ve[j1]? = some (some (.own ds1)))
    (i0 : 0 ≤ i) (i1 : i < 2 ^ 63) (hd : ds1[i.toNat]? = some d) (k : D → VEnv → DS → RB) : Bd.popAt j1 (Bd.sx [] m) k ve s = k d (ve.set j1 (some (.own (ds1.eraseIdx i.toNat)))) s2 := by
  have hlt : i.toNat < ds1.length := by
    rcases List.getElem?_eq_some_iff.mp hd with ⟨h, _⟩
    exact h
  have hs : seqIndex? i ds1.length = some i.toNat := by
    unfold seqIndex?
    simp only [show ¬ i < 0 by omega, if_false]
    rw [if_pos]
    simp
    omega
  unfold Bd.popAt
  rw [ownAt_of h1]
  show Bd.sx [] m _ ve s = _
  unfold Bd.sx
  rw [ev_nil, hm]
  show (match Bd.ownAt ve j1, D.int i with
    | some ds, .int i => _
    | _, _ => _) = _
  rw [ownAt_of h1]
  show (if -(2 ^ 63) ≤ i ∧ i < 2 ^ 63 then _ else _) = _
  rw [if_pos ⟨by omega, i1⟩, hs]
  show (match ds1[i.toNat]? with
    | some d => _
    | none => _) = _
  rw [hd]
theorem popX {d0 : D} : ∀ (ks left acc : List Int), RanksOk left.length ks → ks.length ≤ left.length → acc.length + ks.length < 1000 → left.length < 1000 → ∃ left' : List Int, ∀ k, Bd.lcXM (.nm 2) (Bd.popAt 1 (Bd.sx [] (E.op2 dSub (E.v 2) (E.c (.int 1))))) k (ks.map D.int) (acc.map D.int) [some (.val d0), some (.own (left.map D.int)), none] s = k ((acc ++ rowL left ks).map D.int) [some (.val d0), some (.own (left'.map D.int)), none] s
  | [], left, acc, _, _, _, _ => ⟨left, fun k => by simp [Bd.lcXM, rowL]⟩
  | r :: t, left, acc, hk, h1, h2, h3 => by
    obtain ⟨r0, r1, hk⟩ := hk
    have hs := sizeL
    simp only [List.length_cons] at h1 h2
    have hlt : (r - 1).toNat < left.length := by omega
    have hle : (left.eraseIdx (r - 1).toNat).length = left.length - 1 := by rw [List.length_eraseIdx, if_pos hlt]
    obtain ⟨left', ih⟩ := popX (d0 := d0) t (left.eraseIdx (r - 1).toNat) (acc ++ [at1 left r]) (by rw [hle]; exact hk) (by omega) (by rw [List.length_append, List.length_singleton]; omega) (by omega)
    refine ⟨left', fun k => ?_⟩
    have hg := at1_get (r := left) r0 (by omega)
    have e1 := fun k => popAt_k (ve := [some (.val d0), some (.own (left.map D.int)), some (.val (.int r))]) (s := s) (s2 := s) (j1 := 1) (m := E.op2 dSub (E.v 2) (E.c (.int 1))) (i := r - 1) (d := .int (at1 left r)) (ds1 := left.map D.int) (by simp [seen_o0]) rfl (by omega) (by omega) (by rw [List.getElem?_map, hg]; rfl) k
    have e2 : runS (Bd.popAt 1 (Bd.sx [] (E.op2 dSub (E.v 2) (E.c (.int 1))))) [some (.val d0), some (.own (left.map D.int)), some (.val (.int r))] s = some (.int (at1 left r), [some (.val d0), some (.own ((left.eraseIdx (r - 1).toNat).map D.int)), some (.val (.int r))], s) := by
      unfold runS
      rw [e1, map_erase]
      rfl
    have e3 := ih k
    show (match runS (Bd.popAt 1 (Bd.sx [] (E.op2 dSub (E.v 2) (E.c (.int 1))))) [some (.val d0), some (.own (left.map D.int)), some (.val (.int r))] s with
      | some (y, env', s') => if (acc.map D.int).length < sizeLine then Bd.lcXM (.nm 2) (Bd.popAt 1 (Bd.sx [] (E.op2 dSub (E.v 2) (E.c (.int 1))))) k (t.map D.int) (acc.map D.int ++ [y]) (joinV [some (.val d0), some (.own (left.map D.int)), none] env') s' else .stuck
      | none => .stuck) = _
    rw [e2]
    show (if (acc.map D.int).length < sizeLine then Bd.lcXM (.nm 2) (Bd.popAt 1 (Bd.sx [] (E.op2 dSub (E.v 2) (E.c (.int 1))))) k (t.map D.int) (acc.map D.int ++ [.int (at1 left r)]) [some (.val d0), some (.own ((left.eraseIdx (r - 1).toNat).map D.int)), none] s else .stuck) = _
    rw [if_pos (by rw [List.length_map]; omega)]
    rw [List.map_append] at e3
    rw [show acc.map D.int ++ [.int (at1 left r)] = acc.map D.int ++ [at1 left r].map D.int from rfl, e3]
    simp [rowL]
theorem row_of_ok {ks : List Int} (hk : RanksOk ks.length ks) (hl : ks.length < 1000) : m_row_of [rowD ks] s = .ok (rowD (rowOf ks)) s := by
  have hk' : RanksOk (plainR ks.length).length ks := by rw [plainR_len]; exact hk
  obtain ⟨left', e⟩ := popX (s := s) (d0 := rowD ks) ks (plainR ks.length) [] hk' (by rw [plainR_len]; omega) (by simpa using hl) (by rw [plainR_len]; exact hl)
  refine run_rt (ve2 := [some (.val (rowD ks)), some (.own (left'.map D.int)), none]) ?_
  show b_row_of [some (.val (rowD ks)), none, none] s = _
  unfold b_row_of
  have hg : rgOk 1 ((ks.length : Int) + 1) := rgOk_of (by omega) (by omega) (by omega) (by omega)
  rw [seq_nx (asgO_nx (ds := (plainR ks.length).map D.int) (s2 := s) (by simp [hg, rangeD_plain]))]
  refine seq_rt ?_
  unfold Bd.retX Bd.sxO Bd.lcX
  have hi : (E.it (E.v 0)) (view [] 0 ([some (.val (rowD ks)), none, none].set 1 (some (.own ((plainR ks.length).map D.int))))) s = .ok (ks.map D.int) s := by simp
  rw [hi]
  show Bd.lcXM (.nm 2) (Bd.popAt 1 (Bd.sx [] (E.op2 dSub (E.v 2) (E.c (.int 1))))) _ (ks.map D.int) (([] : List Int).map D.int) [some (.val (rowD ks)), some (.own ((plainR ks.length).map D.int)), none] s = _
  rw [e]
  rfl
theorem rowOf_isP {ks : List Int} (hk : RanksOk ks.length ks) : IsP (rowOf ks) := rowL_isP hk
theorem rowOf_len (ks : List Int) : (rowOf ks).length = ks.length := rowL_len _ _
theorem orders_ok {n : Nat} (hn : n ≤ 6) : m_orders [.int n] s = .ok (.lst ((rowsN n).map ordD)) s := by
  have h1 : 1 ≤ sizeLine := by decide
  have h0 : 0 ≤ sizeLine := by decide
  have hs := sizeL
  obtain ⟨ve, s2, hf, x, rows, rfl, rfl, _, he⟩ := for_inv (t := .nm 2) (body := (Bd.seq (Bd.asgL 1 [] (E.lc2 [3, 4] (E.it (E.v 1)) (.nm 3) E.yes (E.rng2 (E.cons (E.c (.int 1)) (E.cons (E.op2 dAdd (E.v 2) (E.c (.int 1))) E.nil))) [4] (.nm 4) E.yes (E.tup (E.star (E.v 3) (E.cons (E.v 4) E.nil)))))
  Bd.nx))
    (fun i ve s' => ∃ (x : Option SV) (rows : List (List Int)), s' = s ∧ ve = [some (.val (.int n)), some (.val (.lst (rows.map rowD))), x, none, none] ∧ (rows.length ≤ 6 ^ i ∧ ∀ ks ∈ rows, ks.length = i) ∧ allF (n - i) rows = allR n)
    (downD n n) 0 [some (.val (.int n)), some (.val (.lst (([[]] : List (List Int)).map rowD))), none, none, none] s ⟨none, [[]], rfl, rfl, ⟨by simp, by simp⟩, rfl⟩
    (fun i ve s1 d hd ⟨x, rows, e1, e2, ⟨e3, e4⟩, e5⟩ => by
      subst e1 e2
      rw [Nat.zero_add] at *
      have hi : i < n := by simpa [downD_len] using mem_get hd
      rw [downD_get _ _ _ hi] at hd
      cases hd
      have ek : (n : Int) - i = ((n - i : Nat) : Int) := by omega
      rw [ek]
      refine ⟨_, [some (.val (.int n)), some (.val (.lst ((stepR (n - i) rows).map rowD))), some (.val (.int (n - i : Nat))), none, none], s1, rfl, ?_, _, stepR (n - i) rows, rfl, rfl, ⟨stepR_le (by omega) e3, stepR_mem e4⟩, ?_⟩
      · have hg : Rg62b 1 (((n - i : Nat) : Int) + 1) := rg62b (by omega) (by omega) (by omega) (by omega)
        have hp : rangeD 1 (((n - i : Nat) : Int) + 1 - 1).toNat = (plainR (n - i)).map D.int := by
          rw [← rangeD_plain]
          congr 1
          omega
        have hb : (stepR (n - i) rows).length ≤ 46656 := Nat.le_trans (stepR_le (by omega) e3) (pow_le (by omega))
        have ef : ((rows.map rowD).flatMap fun d => ((plainR (n - i)).map D.int).map fun e => match d, e with
            | .tup xs, .int r => D.tup (xs ++ [.int r])
            | d, _ => d) = (stepR (n - i) rows).map rowD := by
          unfold stepR
          rw [List.flatMap_map, List.map_flatMap]
          refine congrArg (fun f => rows.flatMap f) (funext fun ks => ?_)
          rw [List.map_map, List.map_map]
          exact List.map_congr_left fun r _ => by simp
        have e6 := lc2_map (env0 := [some (.int n), some (.lst (rows.map rowD)), some (.int (n - i : Nat)), none, none]) (t := .nm 3) (t1 := .nm 4) (src1 := (E.rng2 (E.cons (E.c (.int 1)) (E.cons (E.op2 dAdd (E.v 2) (E.c (.int 1))) E.nil)))) (vs1 := [4]) (elt := (E.tup (E.star (E.v 3) (E.cons (E.v 4) E.nil)))) (f := fun _ => (plainR (n - i)).map D.int) (g := fun d e => match d, e with
            | .tup xs, .int r => D.tup (xs ++ [.int r])
            | d, _ => d) (rows.map rowD) [] s1 (fun d hd => by
              obtain ⟨ks, hks, rfl⟩ := List.mem_map.mp hd
              have hl : ks.length + 1 ≤ sizeLine := by rw [e4 ks hks]; omega
              refine ⟨_, rfl, ?_, fun e he => ?_⟩
              · simp [hg]
                simpa using hp
              · obtain ⟨r, _, rfl⟩ := List.mem_map.mp he
                exact ⟨_, rfl, by simp [hl]⟩) (by rw [ef, List.length_map]; simp; omega)
        rw [ef, List.nil_append] at e6
        rw [seq_nx (asgL_nx (ds := (stepR (n - i) rows).map rowD) (s2 := s1) (by simp [e6]))]
        rfl
      · rw [← e5, show n - i = (n - (i + 1)) + 1 by omega]
        rfl)
  rw [Nat.zero_add, downD_len, Nat.sub_self] at he
  have he' : rows = allR n := he
  rw [he'] at hf
  refine runF_ok (ve2 := [some (.val (.int n)), some (.val (.lst ((allR n).map rowD))), x, none, none]) ?_
  show b_orders [some (.val (.int n)), none, none, none, none] s2 = _
  unfold b_orders
  rw [seq_nx (asgN_nx (d := .lst (([[]] : List (List Int)).map rowD)) (s2 := s2) (by simp [h0, h1]))]
  rw [seq_nx (by
    rw [loop_of (s2 := s2) (ds := downD n n) (by simp [rgDn_of (i := (n : Int)) (j := 0) (by omega) (by omega) (by omega) (by omega)])]
    exact hf)]
  have hle : (allR n).length ≤ 720 := by
    have := (rowsN_len n (by omega)).2
    simpa [rowsN] using this
  have e7 := lc_map (env0 := [some (.int n), some (.lst ((allR n).map rowD)), seen1 [] 2 x, none, none]) (t := .nm 3) (elt := (E.mk "Order" 1 m_Order_init [] (E.cons (E.fn 1 m_row_of [] (E.cons (E.v 3) E.nil)) E.nil))) (g := fun d => match d with
    | .tup xs => ordD (rowOf ((intsOf xs).getD []))
    | d => d) ((allR n).map rowD) [] s2 (fun d hd => by
      obtain ⟨ks, hks, rfl⟩ := List.mem_map.mp hd
      obtain ⟨hk, hl⟩ := allR_ranks n (by omega) ks hks
      have e1 := row_of_ok (s := s2) hk (by omega)
      have e2 := mk_ok (s := s2) (.inl rfl) (rowOf_isP hk) (by rw [rowOf_len]; omega)
      refine ⟨_, rfl, ?_⟩
      simp only [intsOf_ints, Option.getD_some]
      simp at e2
      simp [e1, e2]) (by rw [List.length_map]; simp; omega)
  have e8 : (((allR n).map rowD).map fun d => match d with
    | .tup xs => ordD (rowOf ((intsOf xs).getD []))
    | d => d) = (rowsN n).map ordD := by
    unfold rowsN
    rw [List.map_map, List.map_map]
    exact List.map_congr_left fun ks _ => by simp [intsOf_ints]
  rw [e8, List.nil_append] at e7
  refine seq_rtL (retF_rt ?_)
  simp [e7]
theorem before_ok (a b : List Int) : m_Order_is_before [ordD a, ordD b] s = .ok (.bl (ltQ a b)) s := by
  refine run_rt (seq_rt (ret_rt ?_))
  have e := ltD_pair a.length b.length a b
  have h : (if (a.length : Int) = b.length then ltL a b else decide ((a.length : Int) < b.length)) = ltQ a b := by
    unfold ltQ
    by_cases h : a.length = b.length
    · rw [if_pos h, if_pos (by omega)]
    · rw [if_neg h, if_neg (by omega)]
      simp
  rw [h] at e
  have h2 : 2 ≤ sizeLine := by decide
  simp [row0, e, h2]
end
end G
end
section
set_option Elab.async false
set_option linter.all false
set_option maxRecDepth 100000
set_option maxHeartbeats 4000000
namespace G
open PySem PySem.Spec PyProof.Rows L2 T PM
section
variable {p q : Addr} {s : DS}
theorem isP_rev {r : List Int} (h : IsP r) : IsP r.reverse := by
  unfold IsP
  rw [List.length_reverse]
  exact (List.reverse_perm r).trans h
theorem any_row_ok (h : DI p q s) : ∃ (r : List Int) (s' : DS), m_law_any_row [.ref p, .int 7] s = .ok (rowD r) s' ∧ IsP r ∧ r.length ≤ 7 ∧ DI p q s' := by
  have h6 : 6 ≤ sizeLine := by decide
  obtain ⟨n, s1, e1, n0, n1, h1⟩ := draw_ok h (n := 8) (by omega) (by omega)
  rw [← ldraw] at e1
  obtain ⟨i, s2, e2, i0, i1, h2⟩ := draw_ok h1 (n := 6) (by omega) (by omega)
  rw [← ldraw] at e2
  have hw : ∃ w : Int, atI ([.int 1, .int 2, .int 3, .int 6, .int 40, .int 40] : List D) i = some (.int w) ∧ 0 < w ∧ w < 1000 := by
    have : i = 0 ∨ i = 1 ∨ i = 2 ∨ i = 3 ∨ i = 4 ∨ i = 5 := by omega
    rcases this with rfl | rfl | rfl | rfl | rfl | rfl
    · exact ⟨1, rfl, by omega, by omega⟩
    · exact ⟨2, rfl, by omega, by omega⟩
    · exact ⟨3, rfl, by omega, by omega⟩
    · exact ⟨6, rfl, by omega, by omega⟩
    · exact ⟨40, rfl, by omega, by omega⟩
    · exact ⟨40, rfl, by omega, by omega⟩
  obtain ⟨w, ew, w0, w1⟩ := hw
  obtain ⟨ks, s3, e3, hl, hk, h3⟩ := ranks_ok h2 n0 (by omega) w0 w1
  have hk' : RanksOk ks.length ks := by rw [hl]; exact hk
  have e4 := row_ok (s := s3) hk' (by omega)
  have hp := rowL_isP hk'
  have hll := rowL_len ks (plainR ks.length)
  obtain ⟨j, s4, e5, j0, j1, h4⟩ := draw_ok h3 (n := 5) (by omega) (by omega)
  rw [← ldraw] at e5
  refine ⟨if j = 0 then (rowL (plainR ks.length) ks).reverse else rowL (plainR ks.length) ks, s4, ?_, ?_, ?_, h4⟩
  · refine run_rt (ve2 := [some (.val (.ref p)), some (.val (.int 7)), some (.val (.int n)), some (.val (rowD (rowL (plainR ks.length) ks)))]) ?_
    show b_law_any_row [some (.val (.ref p)), some (.val (.int 7)), none, none] s = _
    unfold b_law_any_row
    rw [seq_nx (asgN_nx (d := .int n) (s2 := s1) (by simp [e1]))]
    rw [seq_nx (asgN_nx (d := rowD (rowL (plainR ks.length) ks)) (s2 := s3) (by simp [e2, h6, ew, e3, e4]))]
    refine seq_rt (ret_rt ?_)
    by_cases hj : j = 0
    · simp [e5, hj]
    · simp [e5, hj]
  · split
    · exact isP_rev hp
    · exact hp
  · split
    · rw [List.length_reverse]; omega
    · omega
abbrev E14 (sc : D) (x1 : Option SV) (p : Addr) (x3 x4 x5 x6 x7 x8 x9 x10 x11 x12 x13 : Option SV) : VEnv := [some (.val sc), x1, some (.val (.ref p)), x3, x4, x5, x6, x7, x8, x9, x10, x11, x12, x13]
variable {sc : D} {x1 x3 x4 x5 x6 x7 x8 x9 x10 x11 x12 x13 : Option SV}
def RowsOk (rows : List (List Int)) : Prop := ∀ r ∈ rows, IsP r ∧ r.length ≤ 7
theorem r0_ok (h : DI p q s) : ∃ (rows : List (List Int)) (s' : DS), b_law_0 [some (.val sc), x1, some (.val (.ref p)), x3, x4, x5, x6, x7, x8, x9, x10, x11, x12, x13] s = .ok .nx [some (.val sc), x1, some (.val (.ref p)), some (.val (.lst (rows.map rowD))), x4, x5, x6, x7, x8, x9, x10, x11, x12, x13] s' ∧ (RowsOk rows ∧ rows.length = 6) ∧ DI p q s' := by
  have h6 : 6 ≤ sizeLine := by decide
  obtain ⟨ys, s', e1, h', e3, e4⟩ := lc_st (env0 := wipeE (view [] 0 [some (.val sc), x1, some (.val (.ref p)), x3, x4, x5, x6, x7, x8, x9, x10, x11, x12, x13]) [11]) (t := .nm 11) (elt := (E.fn 2 m_law_any_row [] (E.cons (E.v 2) (E.cons (E.c (.int 7)) E.nil))))
    (I := DI p q) (R := fun d y => ∃ r : List Int, y = rowD r ∧ IsP r ∧ r.length ≤ 7) (rangeD 0 6) [] s h (fun d hd s hs => by
      obtain ⟨r, s1, er, hr, hl, h1⟩ := any_row_ok hs
      exact ⟨_, rowD r, s1, rfl, by simp [er], h1, r, rfl, hr, hl⟩) (by rw [rangeD_len]; exact h6)
  rw [rangeD_len] at e3
  rw [List.nil_append] at e1
  have hk : ∃ rows : List (List Int), ys = rows.map rowD ∧ RowsOk rows := by
    have hy : ∀ y ∈ ys, ∃ r : List Int, y = rowD r ∧ IsP r ∧ r.length ≤ 7 := by
      intro y hy
      obtain ⟨i, hi⟩ := List.mem_iff_getElem?.mp hy
      have hi6 : i < 6 := by
        have := mem_get hi
        omega
      exact e4 i _ y (rangeD_get 0 6 i hi6) hi
    clear e1 e3 e4
    induction ys with
    | nil => exact ⟨[], rfl, fun r hr => by cases hr⟩
    | cons y t ih =>
      obtain ⟨r, rfl, hr⟩ := hy y (by simp)
      obtain ⟨rows, rfl, hrs⟩ := ih (fun y h => hy y (by simp [h]))
      refine ⟨r :: rows, rfl, fun a ha => ?_⟩
      rcases List.mem_cons.mp ha with rfl | ha
      · exact hr
      · exact hrs a ha
  obtain ⟨rows, rfl, hrs⟩ := hk
  refine ⟨rows, s', ?_, ⟨hrs, by simpa using e3⟩, h'⟩
  unfold b_law_0
  rw [asgL_nx (ds := rows.map rowD) (s2 := s') (by
    simp only [r_lc, r_bind, r_rng1, r_cons, r_c, r_nil, r_pure, bnd_ok, rngI_i, if_pos (rg62 (show (0 : Int) ≤ 6 by omega) (by omega))]
    rw [show (6 : Int).toNat = 6 from rfl, e1]
    simp)]
  rfl
theorem r1_ok (h : DI p q s) : ∃ (r : List Int) (s' : DS), b_law_1 [some (.val sc), x1, some (.val (.ref p)), x3, x4, x5, x6, x7, x8, x9, x10, x11, x12, x13] s = .ok .nx [some (.val sc), x1, some (.val (.ref p)), x3, some (.val (rowD r)), x5, x6, x7, x8, x9, x10, x11, x12, x13] s' ∧ (IsP r ∧ r.length = 7) ∧ DI p q s' := by
  obtain ⟨r, s2, er, hr, hl, h2⟩ := rowE_ok h (n := 7) (by omega) (by omega) (w := 7) (by omega) (by omega)
  refine ⟨r, s2, ?_, ⟨hr, hl⟩, h2⟩
  unfold b_law_1
  rw [asgN_nx (d := rowD r) (s2 := s2) (by
    simp only [r_bind] at er
    cases hk : m_law_ranks [.ref p, .int 7, .int 7] s with
    | ok a s3 =>
      rw [hk] at er
      simp only [bnd_ok] at er
      simp [hk, er]
    | exc c fs s3 => rw [hk] at er; cases er
    | stuck => rw [hk] at er; cases er)]
  rfl
theorem r2_ok {rows : List (List Int)} {r : List Int} (hrs : RowsOk rows) (hl6 : rows.length = 6) (hr : IsP r) (hl : r.length = 7) : ∃ rows2 : List (List Int), b_law_2 [some (.val sc), x1, some (.val (.ref p)), some (.val (.lst (rows.map rowD))), some (.val (rowD r)), x5, x6, x7, x8, x9, x10, x11, x12, x13] s
    = .ok .nx [some (.val sc), x1, some (.val (.ref p)), some (.val (.lst (rows2.map rowD))), some (.val (rowD r)), x5, x6, x7, x8, x9, x10, x11, x12, x13] s ∧ RowsOk rows2 := by
  have h2 : 2 ≤ sizeLine := by decide
  have h7 : 7 ≤ sizeLine := by decide
  have h8 : 8 ≤ sizeLine := by decide
  match r, hl with
  | [a, b, c, d, e, f, g], _ =>
    refine ⟨rows ++ [[a, b, c, d, e, f, g], [a, b, c, d, e, g, f]], ?_, fun x hx => ?_⟩
    · unfold b_law_2
      have ec : cutD ([.int a, .int b, .int c, .int d, .int e, .int f, .int g] : List D) none (some 5) = [.int a, .int b, .int c, .int d, .int e] := rfl
      have i6 : atI ([.int a, .int b, .int c, .int d, .int e, .int f, .int g] : List D) 6 = some (.int g) := rfl
      have i5 : atI ([.int a, .int b, .int c, .int d, .int e, .int f, .int g] : List D) 5 = some (.int f) := rfl
      rw [asgN_nx (d := .lst ((rows ++ [[a, b, c, d, e, f, g], [a, b, c, d, e, g, f]]).map rowD)) (s2 := s) (by simp [ec, i6, i5, h2, h7, h8, hl6])]
      rfl
    · rcases List.mem_append.mp hx with hx | hx
      · exact hrs x hx
      · simp at hx
        rcases hx with rfl | rfl
        · exact ⟨hr, by simp⟩
        · refine ⟨?_, by simp⟩
          have hp : ([a, b, c, d, e, g, f] : List Int).Perm [a, b, c, d, e, f, g] := by
            refine List.Perm.cons _ (List.Perm.cons _ (List.Perm.cons _ (List.Perm.cons _ (List.Perm.cons _ ?_))))
            exact List.Perm.swap _ _ _
          exact hp.trans hr
theorem get_before (r : List Int) : dGet tb1 "is_before" (ordD r) = pure m_Order_is_before := get_of (no_f _ (by decide) (by decide) (by decide) r) (by
  unfold tb1
  simp only [if_true])
theorem d_neB (a b : Bool) : dNe (.bl a) (.bl b) = pure (.bl (!(a == b))) := by cases a <;> cases b <;> rfl
abbrev bIn : BM := (Bd.seq (Bd.asg (.nm 7) [] (E.op2 dLtD (E.tup (E.cons (E.opL dLen (E.cons (E.v 5) E.nil)) (E.cons (E.v 5) E.nil))) (E.tup (E.cons (E.opL dLen (E.cons (E.v 6) E.nil)) (E.cons (E.v 6) E.nil)))))
  (Bd.seq (Bd.ite [] (E.tru (E.op2 dNe (E.meth tb1 "is_before" (E.mk "Order" 1 m_Order_init [] (E.cons (E.v 5) E.nil)) (E.cons (E.mk "Order" 1 m_Order_init [] (E.cons (E.v 6) E.nil)) E.nil)) (E.v 7))) (Bd.seq (Bd.ret [] (E.c (.bl false)))
  Bd.nx) Bd.nx)
  (Bd.seq (Bd.ite [] (E.tru (E.op2 dNe (E.cnt (E.lst (E.cons (E.v 7) (E.cons (E.op2 dEq (E.v 5) (E.v 6)) (E.cons (E.meth tb1 "is_before" (E.mk "Order" 1 m_Order_init [] (E.cons (E.v 6) E.nil)) (E.cons (E.mk "Order" 1 m_Order_init [] (E.cons (E.v 5) E.nil)) E.nil)) E.nil)))) (E.c (.bl true))) (E.c (.int 1)))) (Bd.seq (Bd.ret [] (E.c (.bl false)))
  Bd.nx) Bd.nx)
  Bd.nx)))
theorem ltQ_len (a b : List Int) : (if (a.length : Int) = b.length then ltL a b else decide ((a.length : Int) < b.length)) = ltQ a b := by
  unfold ltQ
  by_cases h : a.length = b.length
  · rw [if_pos h, if_pos (by omega)]
  · rw [if_neg h, if_neg (by omega)]
    simp
theorem in8_ok {x2 : Option SV} {a b : List Int} (ha : IsP a) (hb : IsP b) (la : a.length < 1000) (lb : b.length < 1000) : bIn [some (.val sc), x1, x2, x3, x4, some (.val (rowD a)), some (.val (rowD b)), x7, x8, x9, x10, x11, x12, x13] s
    = .ok .nx [some (.val sc), x1, x2, x3, x4, some (.val (rowD a)), some (.val (rowD b)), some (.val (.bl (ltQ a b))), x8, x9, x10, x11, x12, x13] s := by
  have h2 : 2 ≤ sizeLine := by decide
  have h3 : 3 ≤ sizeLine := by decide
  have e1 := ltD_pair a.length b.length a b
  rw [ltQ_len] at e1
  have e2 := mk_ok (s := s) (.inl rfl) ha la
  have e3 := mk_ok (s := s) (.inl rfl) hb lb
  have e4 := before_ok (s := s) a b
  have e5 := before_ok (s := s) b a
  have e6 := ltQ_tri a b
  simp at e2 e3
  unfold bIn
  rw [seq_nx (asgN_nx (d := .bl (ltQ a b)) (s2 := s) (by simp [h2, e1]))]
  rw [seq_nx (s2 := s) (ve2 := [some (.val sc), x1, x2, x3, x4, some (.val (rowD a)), some (.val (rowD b)), some (.val (.bl (ltQ a b))), x8, x9, x10, x11, x12, x13]) (by
    rw [ite_b (k := false) (s2 := s) (by simp [e2, e3, get_before, e4, d_neB])]
    rfl)]
  rw [seq_nx (s2 := s) (ve2 := [some (.val sc), x1, x2, x3, x4, some (.val (rowD a)), some (.val (rowD b)), some (.val (.bl (ltQ a b))), x8, x9, x10, x11, x12, x13]) (by
    rw [ite_b (k := false) (s2 := s) (by
      simp only [r_tru, r_op2, r_cnt, r_lst, r_cons, r_bind, r_v, view_cons', view_nil', seen_v, List.set_cons_succ, List.set_cons_zero, setS_cons, setS_nil, List.getElem?_cons_succ, List.getElem?_cons_zero, getV_s, r_pure, bnd_ok, d_eqT, r_meth, r_mk, r_nil, List.append_nil, List.length_cons, List.length_nil, if_true, e2, e3, get_before, e5, if_pos h3, isLst_l, r_c, cnt3, e6, d_neI, t_bl]
      first
        | rfl
        | (simp [e2, e3, get_before, e5, e6, h3]))]
    rfl)]
  rfl
theorem r3_ok {x2 : Option SV} {rows : List (List Int)} (hrs : RowsOk rows) : ∃ y5 y6 y7, b_law_3 [some (.val sc), x1, x2, some (.val (.lst (rows.map rowD))), x4, x5, x6, x7, x8, x9, x10, x11, x12, x13] s
    = .ok .nx [some (.val sc), x1, x2, some (.val (.lst (rows.map rowD))), x4, y5, y6, y7, x8, x9, x10, x11, x12, x13] s := by
  obtain ⟨ve, s2, hf, y5, y6, y7, rfl, rfl⟩ := for_inv (t := .nm 5) (body := (Bd.seq (Bd.loop (.nm 6) (E.it (E.v 3)) bIn) Bd.nx))
    (fun j ve s' => ∃ y5 y6 y7, s' = s ∧ ve = [some (.val sc), x1, x2, some (.val (.lst (rows.map rowD))), x4, y5, y6, y7, x8, x9, x10, x11, x12, x13])
    (rows.map rowD) 0 [some (.val sc), x1, x2, some (.val (.lst (rows.map rowD))), x4, x5, x6, x7, x8, x9, x10, x11, x12, x13] s ⟨x5, x6, x7, rfl, rfl⟩
    (fun i ve s1 d hd ⟨y5, y6, y7, e1, e2⟩ => by
      subst e1 e2
      obtain ⟨a, ha, rfl⟩ := List.mem_map.mp (List.mem_of_getElem? hd)
      obtain ⟨ha, la⟩ := hrs a ha
      obtain ⟨ve, s2, hf, z6, z7, rfl, rfl⟩ := for_inv (t := .nm 6) (body := bIn)
        (fun j ve s' => ∃ z6 z7, s' = s1 ∧ ve = [some (.val sc), x1, x2, some (.val (.lst (rows.map rowD))), x4, some (.val (rowD a)), z6, z7, x8, x9, x10, x11, x12, x13])
        (rows.map rowD) 0 [some (.val sc), x1, x2, some (.val (.lst (rows.map rowD))), x4, some (.val (rowD a)), y6, y7, x8, x9, x10, x11, x12, x13] s1 ⟨y6, y7, rfl, rfl⟩
        (fun i ve s1 d hd ⟨z6, z7, e1, e2⟩ => by
          subst e1 e2
          obtain ⟨b, hb, rfl⟩ := List.mem_map.mp (List.mem_of_getElem? hd)
          obtain ⟨hb, lb⟩ := hrs b hb
          exact ⟨_, _, s1, rfl, in8_ok ha hb (by omega) (by omega), _, _, rfl, rfl⟩)
      refine ⟨_, [some (.val sc), x1, x2, some (.val (.lst (rows.map rowD))), x4, some (.val (rowD a)), z6, z7, x8, x9, x10, x11, x12, x13], s2, rfl, ?_, _, _, _, rfl, rfl⟩
      rw [seq_nx (by
        rw [loop_of (s2 := s2) (ds := rows.map rowD) (by simp)]
        exact hf)]
      rfl)
  refine ⟨y5, y6, y7, ?_⟩
  unfold b_law_3
  rw [loop_of (s2 := s2) (ds := rows.map rowD) (by simp)]
  exact hf
theorem r4_ok (h : DI p q s) : ∃ (n : Nat) (s' : DS), b_law_4 [some (.val sc), x1, some (.val (.ref p)), x3, x4, x5, x6, x7, x8, x9, x10, x11, x12, x13] s
    = .ok .nx [some (.val sc), x1, some (.val (.ref p)), x3, x4, x5, x6, x7, some (.val (.int n)), x9, x10, x11, x12, x13] s' ∧ n < 6 := by
  obtain ⟨i, s1, ei, i0, i1, h1⟩ := draw_ok h (n := 6) (by omega) (by omega)
  rw [← ldraw] at ei
  refine ⟨i.toNat, s1, ?_, by omega⟩
  have : ((i.toNat : Nat) : Int) = i := by omega
  rw [this]
  unfold b_law_4
  rw [asgN_nx (d := .int i) (s2 := s1) (by simp [ei])]
  rfl
variable {x2 : Option SV} {n : Nat}
theorem r5_ok (hn : n < 6) : b_law_5 [some (.val sc), x1, x2, x3, x4, x5, x6, x7, some (.val (.int n)), x9, x10, x11, x12, x13] s
    = .ok .nx [some (.val sc), x1, x2, x3, x4, x5, x6, some (.val (.lst ((rowsN n).map rowD))), some (.val (.int n)), x9, x10, x11, x12, x13] s := by
  have hs := sizeL
  have hle : (allR n).length ≤ 720 := by
    have := (rowsN_len n (by omega)).2
    simpa [rowsN] using this
  have e0 := all_ok (s := s) (n := n) (by omega)
  have e7 := lc_map (env0 := wipeE (view [] 0 [some (.val sc), x1, x2, x3, x4, x5, x6, x7, some (.val (.int n)), x9, x10, x11, x12, x13]) [12]) (t := .nm 12) (elt := (E.fn 1 m_law_row [] (E.cons (E.v 12) E.nil))) (g := fun d => match d with
    | .tup xs => rowD (rowOf ((intsOf xs).getD []))
    | d => d) ((allR n).map rowD) [] s (fun d hd => by
      obtain ⟨ks, hks, rfl⟩ := List.mem_map.mp hd
      obtain ⟨hk, hl⟩ := allR_ranks n (by omega) ks hks
      have e1 := row_ok (s := s) hk (by omega)
      refine ⟨_, rfl, ?_⟩
      simp only [intsOf_ints, Option.getD_some]
      simp [e1, rowOf]) (by rw [List.length_map]; simp; omega)
  have e8 : (((allR n).map rowD).map fun d => match d with
    | .tup xs => rowD (rowOf ((intsOf xs).getD []))
    | d => d) = (rowsN n).map rowD := by
    unfold rowsN
    rw [List.map_map, List.map_map]
    exact List.map_congr_left fun ks _ => by simp [intsOf_ints]
  rw [e8, List.nil_append] at e7
  unfold b_law_5
  rw [asgL_nx (ds := (rowsN n).map rowD) (s2 := s) (by
    simp only [r_lc, r_it, r_bind, r_fn, r_cons, r_nil, r_v, view_cons', seen_v, List.getElem?_cons_succ, List.getElem?_cons_zero, getV_s, r_pure, bnd_ok, List.append_nil, List.length_cons, List.length_nil, if_true, e0, r_itemsL]
    simp only [view_cons', seen_v] at e7
    rw [e7]
    simp)]
  rfl
theorem r6_ok (hn : n < 6) : b_law_6 [some (.val sc), x1, x2, x3, x4, x5, x6, x7, some (.val (.int n)), x9, x10, x11, x12, x13] s
    = .ok .nx [some (.val sc), x1, x2, x3, x4, x5, x6, x7, some (.val (.int n)), some (.own ((rowsN n).map ordD)), x10, x11, x12, x13] s := by
  have e0 := orders_ok (s := s) (n := n) (by omega)
  unfold b_law_6
  rw [asgO_nx (ds := (rowsN n).map ordD) (s2 := s) (by simp [e0])]
  rfl
theorem isLst9 (xs : List D) : dIsi isT (.b "list") (.lst xs) = pure (.bl true) := Eq.trans rfl rfl
theorem r7_ok (hn : n < 6) : b_law_7 [some (.val sc), x1, x2, x3, x4, x5, x6, some (.val (.lst ((rowsN n).map rowD))), x8, some (.own ((rowsN n).map ordD)), x10, x11, x12, x13] s
    = .ok .nx [some (.val sc), x1, x2, x3, x4, x5, x6, some (.val (.lst ((rowsN n).map rowD))), x8, some (.own ((rowsN n).map ordD)), x10, x11, x12, x13] s := by
  have hs := sizeL
  have hle := (rowsN_len n (by omega)).2
  have e7 := lc_map (env0 := wipeE (view [9] 0 [some (.val sc), x1, x2, x3, x4, x5, x6, some (.val (.lst ((rowsN n).map rowD))), x8, some (.own ((rowsN n).map ordD)), x10, x11, x12, x13]) [13]) (t := .nm 13) (elt := (E.op1 (dFld tb1 "row") (E.v 13))) (g := fun d => match d with
    | .ins _ (("row", d) :: _) => d
    | d => d) ((rowsN n).map ordD) [] s (fun d hd => by
      obtain ⟨x, _, rfl⟩ := List.mem_map.mp hd
      exact ⟨_, rfl, by simp [row1]; rfl⟩) (by rw [List.length_map]; simp; omega)
  have e8 : (((rowsN n).map ordD).map fun d => match d with
    | .ins _ (("row", d) :: _) => d
    | d => d) = (rowsN n).map rowD := by
    rw [List.map_map]
    exact List.map_congr_left fun ks _ => rfl
  rw [e8, List.nil_append] at e7
  unfold b_law_7
  rw [ite_v (k := false) (s2 := s) (by
    simp only [r_tor, r_tnot, r_tru, r_op1, r_op2, r_lc, r_it, r_bind, r_v, view_cons', seen_v, seen_o, List.getElem?_cons_succ, List.getElem?_cons_zero, r_pure, bnd_ok]
    simp only [view_cons', seen_v, seen_o] at e7
    simp only [show ([9] : List Nat).contains (0 + 1 + 1 + 1 + 1 + 1 + 1 + 1 + 1 + 1) = true from rfl, if_true] at e7 ⊢
    simp only [r_bind, getV_s, r_pure, bnd_ok, isLst9, t_bl, Bool.not_true, if_neg Bool.false_ne_true, r_itemsL]
    rw [e7]
    simp)]
  rfl
theorem zip_map (f : List Int → D) : ∀ a b : List (List Int), zipD (a.map f) (b.map f) = (a.zip b).map fun p => .tup [f p.1, f p.2]
  | [], _ => by simp [zipD]
  | _ :: _, [] => by simp [zipD]
  | x :: r, y :: t => by
    have := zip_map f r t
    unfold zipD at this ⊢
    simp only [List.map_cons, List.zip_cons_cons, this]
theorem d_neNil : dNe (.lst []) (.lst []) = pure (.bl false) := by
  have := d_neL [] []
  simpa using this
theorem r8_ok (hn : n < 6) : b_law_8 [some (.val sc), x1, x2, x3, x4, x5, x6, x7, x8, some (.own ((rowsN n).map ordD)), x10, x11, x12, x13] s
    = .ok .nx [some (.val sc), x1, x2, x3, x4, x5, x6, x7, x8, some (.own ((rowsN n).map ordD)), x10, x11, x12, x13] s := by
  have hs := sizeL
  have h0 : 0 ≤ sizeLine := by decide
  obtain ⟨hl0, hle⟩ := rowsN_len n (by omega)
  have hup := rowsN_up n hn
  have ec : cutD ((rowsN n).map ordD) (some 1) none = ((rowsN n).drop 1).map ordD := by
    have := cut_drop ((rowsN n).map ordD) 1 (by rw [List.length_map]; omega)
    rw [← List.map_drop] at this
    exact this
  have e7 := lc_filter (env0 := wipeE (view [9] 0 [some (.val sc), x1, x2, x3, x4, x5, x6, x7, x8, some (.own ((rowsN n).map ordD)), x10, x11, x12, x13]) [5, 6]) (t := .tp [5, 6]) (tst := (E.tnot (E.tru (E.meth tb1 "is_before" (E.v 5) (E.cons (E.v 6) E.nil))))) (elt := (E.c (.int 1))) (p := fun _ => false) (g := id)
    (((rowsN n).zip ((rowsN n).drop 1)).map fun p => D.tup [ordD p.1, ordD p.2]) [] s (fun d hd => by
      obtain ⟨⟨a, b⟩, hab, rfl⟩ := List.mem_map.mp hd
      have hlt := List.all_eq_true.mp hup (a, b) hab
      simp only at hlt
      have e1 := before_ok (s := s) a b
      rw [hlt] at e1
      exact ⟨[(5, ordD a), (6, ordD b)], rfl, by simp [get_before, e1], fun h => by cases h⟩) (by
        rw [List.length_map, List.length_zip]
        simp
        omega)
  rw [← zip_map] at e7
  have e9 : ((zipD ((rowsN n).map ordD) (((rowsN n).drop 1).map ordD)).filter fun _ => false).map (id : D → D) = [] := by simp
  rw [e9, List.nil_append] at e7
  unfold b_law_8
  rw [ite_v (k := false) (s2 := s) (by
    simp only [r_tru, r_op2, r_lc, r_zip, r_cons, r_nil, r_sl, r_p0, r_p1, r_c, r_isI, r_bind, r_v, view_cons', seen_v, seen_o, List.getElem?_cons_succ, List.getElem?_cons_zero, r_pure, bnd_ok]
    simp only [view_cons', seen_v, seen_o] at e7
    simp only [show ([9] : List Nat).contains (0 + 1 + 1 + 1 + 1 + 1 + 1 + 1 + 1 + 1) = true from rfl, if_true] at e7 ⊢
    simp only [r_bind, getV_s, r_pure, bnd_ok, r_isI, r_slL, ec, zipI_l]
    rw [e7]
    simp [h0, d_neNil])]
  rfl
theorem r9_ok (hn : n < 6) : b_law_9 [some (.val sc), x1, x2, x3, x4, x5, x6, x7, x8, some (.own ((rowsN n).map ordD)), x10, x11, x12, x13] s
    = .ok .nx [some (.val sc), x1, x2, x3, x4, x5, x6, x7, x8, some (.own ((rowsN n).map ordD).dropLast), x10, x11, x12, x13] s := by
  obtain ⟨hl0, hle⟩ := rowsN_len n (by omega)
  have hx : ((rowsN n).map ordD).length - 1 < ((rowsN n).map ordD).length := by
    rw [List.length_map]
    omega
  unfold b_law_9
  rw [expP_nx rfl (List.getElem?_eq_getElem hx)]
  rfl
theorem r10_ok {z9 : List D} (hn : n < 6) : b_law_10 [some (.val sc), x1, x2, x3, x4, x5, x6, some (.val (.lst ((rowsN n).map rowD))), some (.val (.int n)), some (.own z9), x10, x11, x12, x13] s
    = .ok .nx [some (.val sc), x1, x2, x3, x4, x5, x6, some (.val (.lst ((rowsN n).map rowD))), some (.val (.int n)), some (.own z9), x10, x11, x12, x13] s := by
  have e0 := orders_ok (s := s) (n := n) (by omega)
  unfold b_law_10
  rw [ite_b (k := false) (s2 := s) (by simp [e0])]
  rfl
theorem rest_ok (h : DI p q s) : ∃ env' s', b_law [some (.val sc), x1, some (.val (.ref p)), x3, x4, x5, x6, x7, x8, x9, x10, x11, x12, x13] s = .ok .nx env' s' ∧ ∃ xs, env' = some (.val sc) :: xs ∧ xs.length = 13 := by
  obtain ⟨rows, s1, e0, ⟨hr, hl⟩, h1⟩ := r0_ok (sc := sc) (x1 := x1) (x3 := x3) (x4 := x4) (x5 := x5) (x6 := x6) (x7 := x7) (x8 := x8) (x9 := x9) (x10 := x10) (x11 := x11) (x12 := x12) (x13 := x13) h
  obtain ⟨long, s2, e1, ⟨hp, hl7⟩, h2⟩ := r1_ok (sc := sc) (x1 := x1) (x3 := some (.val (.lst (rows.map rowD)))) (x5 := x5) (x6 := x6) (x7 := x7) (x8 := x8) (x9 := x9) (x10 := x10) (x11 := x11) (x12 := x12) (x13 := x13) h1
  obtain ⟨rows2, e2, hr2⟩ := r2_ok (s := s2) (p := p) (sc := sc) (x1 := x1) (x5 := x5) (x6 := x6) (x7 := x7) (x8 := x8) (x9 := x9) (x10 := x10) (x11 := x11) (x12 := x12) (x13 := x13) hr hl hp hl7
  obtain ⟨y5, y6, y7, e3⟩ := r3_ok (s := s2) (sc := sc) (x1 := x1) (x2 := some (.val (.ref p))) (x4 := some (.val (rowD long))) (x5 := x5) (x6 := x6) (x7 := x7) (x8 := x8) (x9 := x9) (x10 := x10) (x11 := x11) (x12 := x12) (x13 := x13) hr2
  obtain ⟨n, s3, e4, hn⟩ := r4_ok (sc := sc) (x1 := x1) (x3 := some (.val (.lst (rows2.map rowD)))) (x4 := some (.val (rowD long))) (x5 := y5) (x6 := y6) (x7 := y7) (x8 := x8) (x9 := x9) (x10 := x10) (x11 := x11) (x12 := x12) (x13 := x13) h2
  unfold b_law
  rw [seq_nx e0, seq_nx e1, seq_nx e2, seq_nx e3, seq_nx e4, seq_nx (r5_ok hn), seq_nx (r6_ok hn), seq_nx (r7_ok hn), seq_nx (r8_ok hn), seq_nx (r9_ok hn), seq_nx (r10_ok hn)]
  exact ⟨_, _, rfl, _, rfl, rfl⟩
theorem tail_ok : tb_law [some (.val sc), x1, x2, x3, x4, x5, x6, x7, x8, x9, x10, x11, x12, x13] s = .ok (.rt (.bl true)) [some (.val sc), x1, x2, x3, x4, x5, x6, x7, x8, x9, some (.val (.lst ((rowsN 6).map ordD))), x11, x12, x13] s := by
  have h6 : 6 ≤ sizeLine := by decide
  have e0 := orders_ok (s := s) (n := 6) (by omega)
  obtain ⟨hl, g0, g1⟩ := rows6
  have i0 : atI ((rowsN 6).map ordD) 0 = some (ordD [1, 2, 3, 4, 5, 6]) := atI_nat (by omega) (by rw [List.getElem?_map]; exact congrArg (Option.map ordD) g0)
  have i1 : atI ((rowsN 6).map ordD) 719 = some (ordD [6, 5, 4, 3, 2, 1]) := atI_nat (by omega) (by rw [List.getElem?_map]; exact congrArg (Option.map ordD) g1)
  have k0 : dEq (rowD [1, 2, 3, 4, 5, 6]) (.tup [.int 1, .int 2, .int 3, .int 4, .int 5, .int 6]) = pure (.bl true) := (d_eqT [1, 2, 3, 4, 5, 6] [1, 2, 3, 4, 5, 6]).trans (by simp)
  have k1 : dEq (rowD [6, 5, 4, 3, 2, 1]) (.tup [.int 6, .int 5, .int 4, .int 3, .int 2, .int 1]) = pure (.bl true) := (d_eqT [6, 5, 4, 3, 2, 1] [6, 5, 4, 3, 2, 1]).trans (by simp)
  have e0' : m_orders [.int 6] s = .ok (.lst ((rowsN 6).map ordD)) s := e0
  unfold tb_law
  rw [seq_nx (asgN_nx (d := .lst ((rowsN 6).map ordD)) (s2 := s) (by simp [e0']))]
  refine seq_rt (ret_rt ?_)
  simp [-List.map_cons, hl, i0, i1, row1, h6, k0, k1]
end
end G
end
section
set_option Elab.async false
set_option linter.all false
set_option maxRecDepth 100000
set_option maxHeartbeats 0
namespace G
open PySem PySem.Spec PyProof.Rows L2 T
def dF (x : Str) (st : Stmt) : He.DefD := ⟨(x, none), x, x, defArgs st, defBody st, defScope st, [], []⟩
def dM (c m q : Str) (st : Stmt) (dfl : List He.Dv) : He.DefD := ⟨(c, some m), m, q, defArgs st, defBody st, defScope st, dfl, []⟩
abbrev st_exc : Stmt := inClass (top 3) 0
def fnL : List He.DefD := [dF "_law_deal" st_law_deal,
  dF "_law_draw" st_law_draw,
  dF "_law_ranks" st_law_ranks,
  dF "_law_row" st_law_row,
  dF "_law_all" st_law_all,
  dF "_law_any_row" st_law_any_row,
  dF "is_integer" st_is_integer,
  dF "are_integers" st_are_integers,
  dF "ranks_of" st_ranks_of,
  dF "row_of" st_row_of,
  dF "orders" st_orders,
  dF "law" st_law,
  dM "Order" "__init__" "Order.__init__" st_Order_init [.adr (He.dflAt ("Order", some "__init__") 0)],
  dM "Order" "is_before" "Order.is_before" st_Order_is_before [],
  dM "InvalidOrder" "__init__" "InvalidOrder.__init__" st_exc []]
def glos : List Str := ["_law_deal", "_law_draw", "_law_ranks", "_law_row", "_law_all", "_law_any_row", "is_integer", "are_integers", "ranks_of", "row_of", "orders", "law", "Order", "InvalidOrder"]
def meths : List Str := ["is_before"]
def flds : List Str := ["row", "ranks", "width"]
def faL : List He.Fa := frees.map He.Fa.free ++ (glos.map He.Fa.glo ++ (meths.map (He.Fa.meth "Order") ++ (flds.map (He.Fa.noat "Order") ++ [.cls "Order", .mkr "Order"])))
def exB (K : Fg) : Bool := clsX K "Order" && ((isTB K isL && (insB K "Order" && (xfB K (He.ga K "InvalidOrder") && (He.eqO (PySem.W.findIn K (.ref (He.ga K "InvalidOrder")) "value") (some none) &&
  (decide (PySem.W.exmOne K (.ref (He.ga K "InvalidOrder")) (.ref (He.ga K "InvalidOrder")) = some true) && (oexB K (He.ga K "InvalidOrder") && (He.eqO (PySem.W.findIn K (.ref (He.ga K "InvalidOrder")) "__init__") (some (some (.ref (He.ma K (He.ga K "InvalidOrder") "__init__")))) &&
  decide (PySem.W.typeIn K (.ref (He.ma K (He.ga K "InvalidOrder") "__init__")) = some (.type "function"))))))))))
abbrev R : PySem.W.OpenRow := PySem.W.OpenLaw.row PySem.Challenge.rw_letouts_k08_orders_ascending
abbrev hk : PySem.W.Hook := He.hookX 6 faL fnL [] [] exB
def ob (s : PySem.W.SharedT) : He.AlX := He.obsX 6 faL fnL [] [] exB (HandSHeadRun.getT s)
theorem ob_eq (s : PySem.W.SharedT) : ob s = hk.obs s.abs := He.obsX_eq (HandSHeadRun.getT_eq s)
def loose : List Str := ["_wall", "LetError", "InvalidOrder", "InvalidText", "NoPlace", "is_integer", "are_integers", "ranks_of", "row_of", "numbered", "has_part", "Order", "orders", "_law_deal", "_law_draw", "_law_ranks", "_law_row", "_law_all", "_law_any_row"]
theorem run (w : World) : HandSHeadRun.RunEq R (PySem.W.view R.prog [22]) hk ob 6000 loose w := by
  intro os
  kernel_rfl
end G
end
section
set_option Elab.async false
set_option linter.all false
set_option maxRecDepth 100000
set_option maxHeartbeats 4000000
namespace G
open PySem PySem.Spec PyProof.Rows L2 T
section
variable {P : Program} {w : World} {K : Fg} {mg : Str → Option Value} {base h : Heap}
theorem mkFnI {x : Str} {st : Stmt} {N ps : List Str} {k : Nat} {mb : BM} (F : ∃ fd, FunD K x x (defArgs st) (defBody st) (defScope st) [] [] (He.ga K x) fd) (S : FnScope N ps (defScope st)) (hb : BodyOk P w K mg base N x (defScope st) k (defBody st) mb)
    (bd : ∀ (kV doc pm : Value) (an : Option Addr) (cdv ct : Value) (us : List Value), us.length = ps.length → bindArgs (PySem.W.fnOf x x (defArgs st) (defBody st) (defScope st) .none kV doc pm an cdv ct) ⟨us, []⟩ = pure (ps.zip us)) (hm : mg x = some (.ref (He.ga K x))) : FnI P w K mg base (k + 1) x ps.length (Bd.run N.length ps.length mb) [] := by
  obtain ⟨fd, F⟩ := F
  exact ⟨He.ga K x, fd, ps, [], [], fn_ok F S hb, hm, F.kp, F.bindsN bd, .nil, fun _ => .nil⟩
theorem mkFnD {x : Str} {st : Stmt} {N ps : List Str} {k : Nat} {mb : BM} (F : ∃ fd, FunD K x x (defArgs st) (defBody st) (defScope st) [] [] (He.ga K x) fd) (S : FnScope N ps (defScope st)) (hb : BodyOk P w K mg base N x (defScope st) k (defBody st) mb)
    (bd : ∀ (kV doc pm : Value) (an : Option Addr) (cdv ct : Value) (us : List Value), us.length = ps.length → bindArgs (PySem.W.fnOf x x (defArgs st) (defBody st) (defScope st) .none kV doc pm an cdv ct) ⟨us, []⟩ = pure (ps.zip us)) (hm : mg x = some (.ref (He.ga K x))) : FnD P w K mg base (k + 1) x ps.length (Bd.runD N.length ps.length mb) := by
  obtain ⟨fd, F⟩ := F
  exact ⟨He.ga K x, fd, ps, fn_dl F S hb, hm, F.kp, F.bindsN bd⟩
theorem mkFnF {x : Str} {st : Stmt} {N ps : List Str} {k : Nat} {mb : BM} (F : ∃ fd, FunD K x x (defArgs st) (defBody st) (defScope st) [] [] (He.ga K x) fd) (S : FnScope N ps (defScope st)) (hb : BodyOk P w K mg base N x (defScope st) k (defBody st) mb)
    (bd : ∀ (kV doc pm : Value) (an : Option Addr) (cdv ct : Value) (us : List Value), us.length = ps.length → bindArgs (PySem.W.fnOf x x (defArgs st) (defBody st) (defScope st) .none kV doc pm an cdv ct) ⟨us, []⟩ = pure (ps.zip us)) (hm : mg x = some (.ref (He.ga K x))) : FnF P w K mg base (k + 1) x ps.length (Bd.runF N.length ps.length mb) := by
  obtain ⟨fd, F⟩ := F
  exact ⟨He.ga K x, fd, ps, fnF_ok F S hb, hm, F.kp, F.bindsN bd⟩
theorem run_far {n np : Nat} {mb : BM} {xs : List D} (s : DS) (hl : xs.length ≠ np) : Bd.run n np mb xs s = .stuck := if_neg hl
variable (X : K.In h) (Gs : h.Ns mainGlobals mg) (c : He.SaysX faL fnL [] [] exB w h K)
include X Gs c
theorem h_free : ∀ (i : Nat) (x : Str), frees[i]? = some x → mg x = none := fun i x e => He.free_ok X Gs (c.t.d.facts (List.mem_append_left _ (List.mem_map_of_mem (List.mem_of_getElem? e))))
theorem h_glo {x : Str} (hx : x ∈ glos) : mg x = some (.ref (He.ga K x)) := He.glo_ok X Gs (c.t.d.facts (List.mem_append_right _ (List.mem_append_left _ (List.mem_map_of_mem hx))))
theorem h_cls : ∀ (i : Nat) (x : Str), classes[i]? = some x → mg x = some (.ref (He.ga K x)) := fun i x e => by
  have hx := List.mem_of_getElem? e
  exact h_glo X Gs c (by
    unfold classes at hx
    rcases List.mem_cons.mp hx with rfl | hx
    · decide
    · rcases List.mem_cons.mp hx with rfl | hx
      · decide
      · cases hx)
omit X Gs in
theorem h_meth {m : Str} (hm : m ∈ meths) : Meth K (He.ga K "Order") m (He.ma K (He.ga K "Order") m) := He.meth_ok (c.t.d.facts (List.mem_append_right _ (List.mem_append_right _ (List.mem_append_left _ (List.mem_map_of_mem hm)))))
omit X Gs in
theorem h_noat {f : Str} (hf : f ∈ flds) : NoAttr K (He.ga K "Order") f := He.noat_ok (c.t.d.facts (List.mem_append_right _ (List.mem_append_right _ (List.mem_append_right _ (List.mem_append_left _ (List.mem_map_of_mem hf))))))
omit X Gs in
theorem h_clsO : Cls K (He.ga K "Order") := He.cls_ok (c.t.d.facts (f := .cls "Order") (List.mem_append_right _ (List.mem_append_right _ (List.mem_append_right _ (List.mem_append_right _ (by simp))))))
omit X Gs in
theorem h_mkr : Mk K (He.ga K "Order") (He.ma K (He.ga K "Order") "__init__") := He.mkr_ok (c.t.d.facts (f := .mkr "Order") (List.mem_append_right _ (List.mem_append_right _ (List.mem_append_right _ (List.mem_append_right _ (by simp))))))
omit X Gs in
theorem h_ex : clsX K "Order" = true ∧ isTB K isL = true ∧ insB K "Order" = true ∧ xfB K (He.ga K "InvalidOrder") = true ∧ PySem.W.findIn K (.ref (He.ga K "InvalidOrder")) "value" = some none ∧
    PySem.W.exmOne K (.ref (He.ga K "InvalidOrder")) (.ref (He.ga K "InvalidOrder")) = some true ∧ oexB K (He.ga K "InvalidOrder") = true ∧ PySem.W.findIn K (.ref (He.ga K "InvalidOrder")) "__init__" = some (some (.ref (He.ma K (He.ga K "InvalidOrder") "__init__"))) ∧
    PySem.W.typeIn K (.ref (He.ma K (He.ga K "InvalidOrder") "__init__")) = some (.type "function") := by
  have e := c.more
  unfold exB at e
  simp only [Bool.and_eq_true, decide_eq_true_eq] at e
  have e' := e.2
  obtain ⟨e4, e5, e6, e7, e8, e9, e10, e11⟩ := e'
  simp only [e, e4, e5, e6, e8, e9, e11, He.eqO_ok e7, He.eqO_ok e10, and_self]
omit X Gs in
theorem h_IO : IsOk K tb1 isT := isOk_of (tb := tb1) (h_ex c).2.1 (fun x c' b hm => by
  have hx : (CN.c x, c', b) ∈ isL → x = "Order" := by
    intro h
    simp [isL] at h
    try (obtain ⟨rfl, _, _⟩ := h; rfl)
  have := hx hm
  subst this
  exact ⟨h_clsO c, (h_ex c).2.2.1⟩)
omit X Gs in
theorem h_tab0 : TabOk P w K mg base 0 tb0 where
  meth := fun c m g e => by cases e
  fld := fun c' f e => by
    simp only [tb0, Bool.and_eq_true, Bool.or_eq_true, beq_iff_eq] at e
    obtain ⟨rfl, e⟩ := e
    refine ⟨h_clsO c, h_noat c ?_⟩
    rcases e with (rfl | rfl) | rfl <;> decide
  first := fun c' e => by
    simp only [tb0, beq_iff_eq] at e
    subst e
    exact (clsX_ok (h_ex c).1).1
  ne := fun c' e => by
    simp only [tb0, beq_iff_eq] at e
    subst e
    exact (clsX_ok (h_ex c).1).2
theorem h_exc : ExI P w K mg base 1 "InvalidOrder" "value" := by
  obtain ⟨fd, F⟩ := c.t.d.def_ 14 (d := dM "InvalidOrder" "__init__" "InvalidOrder.__init__" st_exc [])
  have e := (h_ex c).2
  refine ⟨_, fd, ["self", "value"], oexB_ok e.2.2.2.2.2.1, e.2.2.2.2.2.2.1, e.2.2.2.2.2.2.2, ?_, F.bindsN (fun _ _ _ _ _ _ us hl => match us, hl with | [_, _], _ => rfl), h_glo X Gs c (by decide)⟩
  exact ex_ok (c := "InvalidOrder") (f := "value") (self_ := "self") (prm := "value") F (fnB_ok (by decide +kernel)) (oexB_ok e.2.2.2.2.2.1) e.2.2.2.1 (isVis_ok (by decide +kernel)) (isVis_ok (by decide +kernel)) (by decide) (by decide) (by decide) (by decide) (fun _ _ => rfl)
theorem f_fn (i : Nat) {x : Str} {st : Stmt} (hi : fnL[i]? = some (dF x st) := by rfl) : ∃ fd, FunD K x x (defArgs st) (defBody st) (defScope st) [] [] (He.ga K x) fd := c.t.d.def_ i hi
theorem f_law_deal : FnD P w K mg base 1 "_law_deal" 2 (Bd.runD 5 2 b_law_deal) := mkFnD (f_fn X Gs c 0) S_law_deal (bo_law_deal (h_free X Gs c) (h_cls X Gs c) ) (fun _ _ _ _ _ _ us hl => match us, hl with | [_, _], _ => rfl) (h_glo X Gs c (by decide))
theorem f_law_draw : FnI P w K mg base 1 "_law_draw" 2 m_law_draw [] := mkFnI (f_fn X Gs c 1) S_law_draw (bo_law_draw (h_free X Gs c) (h_cls X Gs c) ) (fun _ _ _ _ _ _ us hl => match us, hl with | [_, _], _ => rfl) (h_glo X Gs c (by decide))
theorem f_law_ranks : FnI P w K mg base 2 "_law_ranks" 3 m_law_ranks [] := mkFnI (f_fn X Gs c 2) S_law_ranks (bo_law_ranks (h_free X Gs c) (h_cls X Gs c) (f_law_draw X Gs c)) (fun _ _ _ _ _ _ us hl => match us, hl with | [_, _, _], _ => rfl) (h_glo X Gs c (by decide))
theorem f_law_row : FnI P w K mg base 1 "_law_row" 1 m_law_row [] := mkFnI (f_fn X Gs c 3) S_law_row (bo_law_row (h_free X Gs c) (h_cls X Gs c) ) (fun _ _ _ _ _ _ us hl => match us, hl with | [_], _ => rfl) (h_glo X Gs c (by decide))
theorem f_law_all : FnI P w K mg base 1 "_law_all" 1 m_law_all [] := mkFnI (f_fn X Gs c 4) S_law_all (bo_law_all (h_free X Gs c) (h_cls X Gs c) ) (fun _ _ _ _ _ _ us hl => match us, hl with | [_], _ => rfl) (h_glo X Gs c (by decide))
theorem f_law_any_row : FnI P w K mg base 3 "_law_any_row" 2 m_law_any_row [] := mkFnI (f_fn X Gs c 5) S_law_any_row (bo_law_any_row (h_free X Gs c) (h_cls X Gs c) (f_law_draw X Gs c) (f_law_ranks X Gs c) (f_law_row X Gs c)) (fun _ _ _ _ _ _ us hl => match us, hl with | [_, _], _ => rfl) (h_glo X Gs c (by decide))
theorem f_is_integer : FnI P w K mg base 1 "is_integer" 1 m_is_integer [] := mkFnI (f_fn X Gs c 6) S_is_integer (bo_is_integer (h_free X Gs c) (h_cls X Gs c) (h_IO c)) (fun _ _ _ _ _ _ us hl => match us, hl with | [_], _ => rfl) (h_glo X Gs c (by decide))
theorem f_are_integers : FnI P w K mg base 2 "are_integers" 1 m_are_integers [] := mkFnI (f_fn X Gs c 7) S_are_integers (bo_are_integers (h_free X Gs c) (h_cls X Gs c) (h_IO c) (f_is_integer X Gs c)) (fun _ _ _ _ _ _ us hl => match us, hl with | [_], _ => rfl) (h_glo X Gs c (by decide))
theorem f_ranks_of : FnI P w K mg base 1 "ranks_of" 1 m_ranks_of [] := mkFnI (f_fn X Gs c 8) S_ranks_of (bo_ranks_of (h_free X Gs c) (h_cls X Gs c) ) (fun _ _ _ _ _ _ us hl => match us, hl with | [_], _ => rfl) (h_glo X Gs c (by decide))
theorem f_row_of : FnI P w K mg base 1 "row_of" 1 m_row_of [] := mkFnI (f_fn X Gs c 9) S_row_of (bo_row_of (h_free X Gs c) (h_cls X Gs c) ) (fun _ _ _ _ _ _ us hl => match us, hl with | [_], _ => rfl) (h_glo X Gs c (by decide))
theorem f_mk : MkI P w K mg base 3 "Order" 1 m_Order_init [] := by
  obtain ⟨fd, F⟩ := c.t.d.def_ 12 (d := dM "Order" "__init__" "Order.__init__" st_Order_init [.adr (He.dflAt ("Order", some "__init__") 0)])
  obtain ⟨ds, hv, hb⟩ := FunD.binds1 (ps := P_Order_init) F 2 1 (by simp [He.DefD.dvs, dM]) (by simp [He.DefD.dvs, dM, P_Order_init]) (fun T kV doc pm an cdv ct us its hl hi => by
    match us, hl with
    | [a, b], _ =>
      match its, hi with
      | [d], _ => exact ⟨_, rfl, rfl⟩)
  have e : ds = [] := by
    cases hv
    rfl
  subst e
  exact ⟨_, fd, P_Order_init, [], [], h_mkr c, in_ok F S_Order_init (by decide) (bo_Order_init (h_free X Gs c) (h_cls X Gs c) (h_tab0 c) (f_are_integers X Gs c) (h_exc X Gs c) (f_ranks_of X Gs c)), h_glo X Gs c (by decide), hb, .nil, fun _ => .nil⟩
theorem h_tab1 : TabOk P w K mg base 1 tb1 where
  meth := fun c' m g e => by
    have e' : (if c' = "Order" then (if m = "is_before" then some m_Order_is_before else none) else none) = some g := e
    by_cases hc : c' = "Order"
    · rw [if_pos hc] at e'
      subst hc
      by_cases hm : m = "is_before"
      · rw [if_pos hm] at e'
        subst hm
        cases e'
        obtain ⟨fd, F⟩ := c.t.d.def_ 13 (d := dM "Order" "is_before" "Order.is_before" st_Order_is_before [])
        exact ⟨_, fd, P_Order_is_before, h_clsO c, h_meth c (by decide), (fn_ok F S_Order_is_before (bo_Order_is_before (h_free X Gs c) (h_cls X Gs c) (h_tab0 c))).mono (by decide), F.bindsN (fun _ _ _ _ _ _ us hl => match us, hl with | [_, _], _ => rfl), fun xs s hl => run_far s hl⟩
      · rw [if_neg hm] at e'
        cases e'
    · rw [if_neg hc] at e'
      cases e'
  fld := (h_tab0 (P := P) (mg := mg) (base := base) c).fld
  first := (h_tab0 (P := P) (mg := mg) (base := base) c).first
  ne := (h_tab0 (P := P) (mg := mg) (base := base) c).ne
theorem f_orders : FnF P w K mg base 5 "orders" 1 m_orders := mkFnF (f_fn X Gs c 10) S_orders (bo_orders (h_free X Gs c) (h_cls X Gs c) (f_row_of X Gs c) (f_mk X Gs c)) (fun _ _ _ _ _ _ us hl => match us, hl with | [_], _ => rfl) (h_glo X Gs c (by decide))
theorem f_rest : BodyOk P w K mg base N_law "law" sc_law 5 restL b_law := (bo_law (h_free X Gs c) (h_cls X Gs c) (h_tab1 X Gs c) (h_IO c) (f_law_any_row X Gs c) (f_law_ranks X Gs c) (f_law_row X Gs c) (f_mk X Gs c) (f_law_draw X Gs c) (f_law_all X Gs c) (f_orders X Gs c))
theorem f_tail (f : Addr) (cdv : Value) (A : Around) (outer : List PySem.Env) (s : Shared) (H : Hp) (E : XK) (hr : Room 5 (A.deeper (envOfC "law" sc_law s.heap.objs.size f cdv))) : StB (cxOf (L2N.CX P w) P w K mg base N_law "law" sc_law f cdv A outer s H E) (fun c d _ H => E c d H) tailL tb_law := tl_law (h_free X Gs c) (h_cls X Gs c) (h_tab1 X Gs c) (h_IO c) (f_law_any_row X Gs c) (f_law_ranks X Gs c) (f_law_row X Gs c) (f_mk X Gs c) (f_law_draw X Gs c) (f_law_all X Gs c) (f_orders X Gs c) f cdv A outer s H E hr
end
end G
end
section
set_option Elab.async false
set_option linter.all false
set_option maxRecDepth 100000
set_option maxHeartbeats 4000000
namespace G
open PySem PySem.Spec PyProof.Rows L2 T
def itL : Expr := match defBody st_law with
  | .For _ i _ _ _ :: _ => i
  | _ => .Constant .none 0 ⟨0, 0, 0, 0⟩
def tgL : Expr := match defBody st_law with
  | .For t _ _ _ _ :: _ => t
  | _ => .Constant .none 0 ⟨0, 0, 0, 0⟩
def PreL (sc : D) (env : VEnv) : Prop := ∃ xs : List (Option SV), env = some (.val sc) :: xs ∧ xs.length = 13
def itM : EL := E.rng1 (E.cons (E.opL dMax2 (E.cons (E.c (.int 1)) (E.cons (E.opL dMin2 (E.cons (E.c (.int 3)) (E.cons (E.opL dLen (E.cons (E.v 0) E.nil)) E.nil))) E.nil))) E.nil)
theorem it_ok {ns : List Int} (hl : ns.length ≤ 63) {env : VEnv} (h : PreL (.lsk (ns.map D.int)) env) (s : DS) : ∃ ds, itM (view [] 0 env) s = .ok ds s ∧ ∀ d ∈ ds, (∃ k : Int, d = .int k) ∧ ∃ l, Tg.bind (.nm 1) d = some l := by
  obtain ⟨xs, rfl, _⟩ := h
  refine ⟨rangeD 0 (if (if (ns.length : Int) < 3 then (ns.length : Int) else 3) > 1 then (if (ns.length : Int) < 3 then (ns.length : Int) else 3) else 1).toNat, ?_, fun d hd => ?_⟩
  · have hr : Rg62 (if (if (ns.length : Int) < 3 then (ns.length : Int) else 3) > 1 then (if (ns.length : Int) < 3 then (ns.length : Int) else 3) else 1) := rg62 (by split <;> (try split) <;> omega) (by split <;> (try split) <;> omega)
    simp only [itM, r_rng1, r_bind, r_cons, r_opL, r_c, r_pure, bnd_ok, r_v, view_cons', seen_v, List.getElem?_cons_zero, getV_s, r_nil, d_lenK, List.length_map, d_min2, d_max2, rngI_i]
    rw [if_pos hr]
    rfl
  · obtain ⟨i, _, rfl⟩ := mem_rangeD hd
    exact ⟨⟨_, rfl⟩, _, rfl⟩
theorem set1 {sc : D} {env : VEnv} (h : PreL sc env) (x : SV) : PreL sc (env.set 1 (some x)) := by
  obtain ⟨xs, rfl, hl⟩ := h
  match xs, hl with
  | y :: r, hl => exact ⟨some x :: r, rfl, hl⟩
theorem len13 {α : Type} {xs : List α} (h : xs.length = 13) : ∃ a b c d e f g i j k l m n, xs = [a, b, c, d, e, f, g, i, j, k, l, m, n] := by
  match xs, h with
  | [a, b, c, d, e, f, g, i, j, k, l, m, n], _ => exact ⟨a, b, c, d, e, f, g, i, j, k, l, m, n, rfl⟩
theorem deal_hq {ns : List Int} (hl : ns.length ≤ 63) {env : VEnv} {s : DS} (h : ∃ env0 d l, PreL (.lsk (ns.map D.int)) env0 ∧ (∃ k : Int, d = .int k) ∧ Tg.bind (.nm 1) d = some l ∧ env = Bd.setS env0 l) :
    ∃ xs g mm s1, E.cons (E.v 0) (E.cons (E.v 1) E.nil) (view [] 0 env) s = .ok xs s ∧ xs.length = 2 ∧ Bd.runD 5 2 b_law_deal xs s = some (g, mm, s1) ∧ ∀ p q, p ≠ q → ∃ env' s', b_law (env.set 2 (some (.val (.ref p)))) ⟨g, mm, some (p, q)⟩ = .ok .nx env' s' ∧ PreL (.lsk (ns.map D.int)) (noOwn env') := by
  obtain ⟨env0, d, l, ⟨xs, rfl, hx⟩, ⟨k, rfl⟩, hb, rfl⟩ := h
  cases hb
  obtain ⟨a, b, c, d, e, f, g, i, j, m, n, o, u, rfl⟩ := len13 hx
  obtain ⟨gr, mm, hd, hg⟩ := deal_ok (s := s) hl k
  refine ⟨[.lsk (ns.map D.int), .int k], gr, mm, s, by simp, rfl, hd, fun p q hpq => ?_⟩
  have hDI : DI p q ⟨gr, mm, some (p, q)⟩ := ⟨rfl, hpq, by show gr.length ≤ 64; omega⟩
  obtain ⟨env', s', e1, ys, rfl, hy⟩ := rest_ok (sc := .lsk (ns.map D.int)) (x1 := some (.val (.int k))) (x3 := c) (x4 := d) (x5 := e) (x6 := f) (x7 := g) (x8 := i) (x9 := j) (x10 := m) (x11 := n) (x12 := o) (x13 := u) hDI
  exact ⟨_, s', e1, _, rfl, by rw [List.length_map]; exact hy⟩
section
variable {P : Program} {w : World} {K : Fg} {mg : Str → Option Value} {base h : Heap}
theorem law_ok (X : K.In h) (Gs : h.Ns mainGlobals mg) (c : He.SaysX faL fnL [] [] exB w h K) {fd : FuncData} (F : FunD K "law" "law" (defArgs st_law) (defBody st_law) (defScope st_law) [] [] (He.ga K "law") fd) : FnOk P w K mg base (L2N.CX P w) 6 (He.ga K "law") fd ["_law_script"] (spLaw K) := by
  refine F.ok (ps := ["_law_script"]) S_law (fun vs H Q E hs => by obtain ⟨a, ns, rfl, _⟩ := hs; rfl) fun cdv A outer s H vs Q E hr hs => ?_
  obtain ⟨a, ns, rfl, hS, hl, hQ⟩ := hs
  refine ⟨semB (cxOf (L2N.CX P w) P w K mg base N_law "law" sc_law (He.ga K "law") cdv A outer s H E) (defBody st_law), pss_sem, ?_⟩
  have hc : (cxOf (L2N.CX P w) P w K mg base N_law "law" sc_law (He.ga K "law") cdv A outer s H E).calm = true := rfl
  have hN := S_law.nd
  have hp : PassesOwn (model P w) (A.deeper (envOfC "law" sc_law s.heap.objs.size (He.ga K "law") cdv)) (envOfC "law" sc_law s.heap.objs.size (He.ga K "law") cdv) (cxOf (L2N.CX P w) P w K mg base N_law "law" sc_law (He.ga K "law") cdv A outer s H E).xe := passes_of (X := (cxOf (L2N.CX P w) P w K mg base N_law "law" sc_law (He.ga K "law") cdv A outer s H E)) rfl
  have hfree := h_free X Gs c
  have hcls := h_cls X Gs c
  have hi : EvI (cxOf (L2N.CX P w) P w K mg base N_law "law" sc_law (He.ga K "law") cdv A outer s H E) W0 tgL itL itM := (i_rng1 (gl C_law 0) (hfree 2 _ rfl) (ea_cons (e_blt (c_max2 hc) (gl C_law 1) (hfree 12 _ rfl) boot_max (ea_cons e_int (ea_cons (e_blt (c_min2 hc) (gl C_law 2) (hfree 3 _ rfl) boot_min (ea_cons e_int (ea_cons (e_blt c_len (gl C_law 3) (hfree 5 _ rfl) boot_len (ea_cons (e_vv (vi C_law 0)) ea_nil)) ea_nil))) ea_nil))) ea_nil))
  have d0 : DealOk dp0 H H ⟨[], 0, none⟩ := ⟨rfl, fun p q z => by cases z⟩
  have S0 : Sta K dp0 H H (L2.start N_law [.ref a]) (Bd.start N_law.length [.lsk (ns.map D.int)]) H H ⟨[], 0, none⟩ := sta_start (Ex.rfl' H) d0 (.cons (.lsk hS Rep.ints) .nil)
  refine semB_of (pss_cons (t := semS _ _) (u := semB _ _) ps_sem pss_sem) ?_
  refine top_for (W := W0) (tg := tgL) (iter := itL) (t := .nm 1) (src := itM) (Pre := PreL (.lsk (ns.map D.int))) (Okd := fun d => ∃ k : Int, d = .int k) hp hc hi (pg_v hN ⟨rfl, .inl (lo C_law 1), .inr (lo C_law 1)⟩) (fun env s he _ => it_ok hl he s) ?_ (fun _ => rfl) dp0 H H _ _ H H ⟨[], 0, none⟩ _ rfl S0 ⟨List.replicate 13 none, rfl, rfl⟩ (fun i ho => ?_) ?_
  · exact top_deal (f_law_deal X Gs c) (hr.mono (by decide)) (gl C_law 4) (ea_cons (e_vv (vi C_law 0)) (ea_cons (e_vv (vi C_law 1)) ea_nil)) hN ⟨rfl, .inr (ce C_law 2), .inl rfl⟩ (f_rest X Gs c _ cdv A outer s H E hr) (fun env s he _ => deal_hq hl he)
  · rcases ho with ⟨ds, h⟩ | ⟨c, fs, h⟩
    · exact absurd h (not_own (fun _ => by simp))
    · exact absurd h (not_own (fun _ => by simp))
  · intro σ' env' K' H' S' e' p' n'
    obtain ⟨xs, rfl, hx⟩ := p'
    obtain ⟨a, b, c1, d, e, f, g, i, j, m, n, o, u, rfl⟩ := len13 hx
    refine f_tail X Gs c (He.ga K "law") cdv A outer s H E hr dp0 H H σ' _ K' H' ⟨[], 0, none⟩ S' _ ?_
    rw [tail_ok]
    intro v K2 H2 _ _ rv
    cases rv
    exact hQ H2
end
end G
end
section
set_option Elab.async false
set_option linter.all false
set_option maxRecDepth 100000
set_option maxHeartbeats 0
open PySem PySem.W PySem.Calls PyProof.Rows
theorem PySem.Challenge.cw_letouts_k08_orders_ascending_holds : PySem.Challenge.rw_letouts_k08_orders_ascending.Holds := by
  w_on; o_law
  refine HandSHeadRun.head_any (r := OpenLaw.row PySem.Challenge.rw_letouts_k08_orders_ascending) (q := view (OpenLaw.row PySem.Challenge.rw_letouts_k08_orders_ascending).prog [22]) (H := G.hk) (ob := G.ob) (M := 6000) (loose := G.loose)
    (d := HandSHeadRun.topDef (OpenLaw.row PySem.Challenge.rw_letouts_k08_orders_ascending).prog 22) (kwd := []) G.ob_eq (by kernel_rfl) (fun s => by kernel_rfl) G.run (by kernel_rfl) (by kernel_rfl) (by kernel_rfl) (by rfl) (by first | assumption | decide +kernel) (by decide +kernel)
    ⟨rfl, rfl, rfl, rfl, rfl, by decide +kernel⟩ ?hw ?hc
  case hw => w_witness2
  case hc =>
    refine T.walkN (l := PySem.Challenge.rw_letouts_k08_orders_ascending) (n := 63) (k := 6) (x := "_law_script") rfl (by decide) (by kernel_rfl) ⟨rfl, by decide, by decide⟩ ?_
    intro w mg fa h Y Gs hmg0
    obtain ⟨K, KX, c⟩ := Y
    have hmg : mg ("law" : PySem.Str) = some (.ref fa) := by
      have e : (HandSHeadRun.topDef (OpenLaw.row PySem.Challenge.rw_letouts_k08_orders_ascending).prog 22).name = ("law" : PySem.Str) := by kernel_rfl
      rw [← e]
      exact hmg0
    obtain ⟨fd, F⟩ := G.f_fn KX Gs c 11 (x := "law") (st := G.st_law)
    have e := hmg.symm.trans (G.h_glo KX Gs c (x := "law") (by decide))
    cases e
    exact ⟨K, fd, T.spLaw K, KX, fun s u => L2.FunD.bindsA (ps := ["_law_script"]) F (fun _ _ _ _ _ _ us hl => match us, hl with | [_], _ => rfl) s [u] rfl, fun H a ns hl hS => ⟨a, ns, rfl, hS, hl, fun _ => rfl⟩, fun base _ _ => G.law_ok KX Gs c F⟩
end

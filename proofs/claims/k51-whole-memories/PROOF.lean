import PyProof.Rows.All
import Wide.All
import OpenK.AllK
import Wide.FinOn
import KE.KStateDown
import HandS.ForMost
import HandS.ForExc
import HandS.Defaults
import HandS.Property
import HandS.Conv
import HandS.TupAny
import HandS.TupMul
import HandS.Deep
import HandS.Zip
import HandS.DictTup
import HandS.IsInst
import HandS.Nested
import HandS.Star
import HandS.Lambda
import HandS.Flow
import HandS.More
import HandS.Head0
import HandS.Head1
import HandS.Head2
import HandS.HeadHook1
import HandS.HeadHook2
import HandS.HeadHook3
import HandS.HeadHook4
import HandS.NestedK
import KE.GoesMore
import KE.GoesZip
import HandS.Walk
import HandS.SetBool
import HandS.Strs
import HandS.Codes
import HandS.Words
import HandS.Small
import HandS.MakeKwOnly
import KE.KDictCopyH
import KE.KDictOf
import HandS.ExcField
import HandS.ExcSuper
import HandS.TryOnly
import HandS.ForSpec
import KE.KExcSuper
import HandS.Style
import HandS.HeadEnd
import HandS.HeadWalk
import PySem.Challenge.RW_keptmeanings_k51_whole_memories
set_option Elab.async false
set_option linter.all false
set_option maxRecDepth 100000
section
set_option maxHeartbeats 4000000
/-! KA: places in the text, a callable def by its name, immutable data, what follows a reading (r_..), small tactics (walk_at). -/
namespace K5
open PySem PySem.Spec L2
open PyProof.Rows hiding St
/-! ### the text -/
def top (i : Nat) : Stmt := PySem.Challenge.pw_keptmeanings_k51_whole_memories.main.body.getD i (.Pass ⟨0, 0, 0, 0⟩)
/-- the built-in names that the text leans on -/
abbrev bns : List Str := ["isinstance", "int", "bool", "tuple", "str", "len", "zip", "range", "list", "sorted", "all", "sum", "enumerate", "dict", "super"]
abbrev Bf (mg : Str → Option Value) : Prop := ∀ x ∈ bns, mg x = none
/-- the def x of the module, its statement st -/
def Df (K : PySem.W.Frag) (mg : Str → Option Value) (x : Str) (st : Stmt) : Prop :=
  ∃ f fd, mg x = some (.ref f) ∧ FunD K x x (defArgs st) (defBody st) (defScope st) [] [] f fd
/-- a def that is called by its name -/
def Cal (P : Program) (w : World) (K : PySem.W.Frag) (mg : Str → Option Value) (base : Heap) (x : Str) (k : Nat) (ps : List Str) (sp : Sp) : Prop :=
  ∃ f fd, mg x = some (.ref f) ∧ PySem.W.keepIn K (.ref f) = true ∧ Binds K fd ps [] ∧ FnOk P w K mg base CX0 k f fd ps sp
section
variable {P : Program} {w : World} {K : PySem.W.Frag} {mg : Str → Option Value} {base : Heap}
theorem Cal.mono {x : Str} {j k : Nat} {ps : List Str} {sp : Sp} (c : Cal P w K mg base x j ps sp) (h : j ≤ k) : Cal P w K mg base x k ps sp := by
  obtain ⟨f, fd, h1, h2, h3, F⟩ := c
  exact ⟨f, fd, h1, h2, h3, F.mono h⟩
theorem Cal.imp {x : Str} {k : Nat} {ps : List Str} {sp sp' : Sp} (c : Cal P w K mg base x k ps sp) (h : ∀ vs H Q E, sp' vs H Q E → sp vs H Q E) : Cal P w K mg base x k ps sp' := by
  obtain ⟨f, fd, h1, h2, h3, F⟩ := c
  exact ⟨f, fd, h1, h2, h3, F.imp h⟩
/-- a promise that is never asked -/
theorem Df.never {x : Str} {st : Stmt} {ps : List Str} {k : Nat} {sp : Sp} (D : Df K mg x st)
    (hb : ∀ (kV doc pm : Value) (an : Option Addr) (cdv ct : Value) (us : List Value), us.length = ps.length → bindArgs (PySem.W.fnOf x x (defArgs st) (defBody st) (defScope st) .none kV doc pm an cdv ct) ⟨us, []⟩ = pure (ps.zip us))
    (no : ∀ vs H Q E, sp vs H Q E → False) : Cal P w K mg base x k ps sp := by
  obtain ⟨f, fd, h1, F⟩ := D
  exact ⟨f, fd, h1, F.kp, F.bindsN hb, ⟨fun vs H Q E h => (no vs H Q E h).elim, fun _ _ _ _ _ _ _ _ _ _ _ _ _ h => (no _ _ _ _ h).elim⟩⟩
/-- a def by its body -/
theorem Df.cal {x : Str} {st : Stmt} {N ps : List Str} {k : Nat} {sp : Sp} (D : Df K mg x st) (S : FnScope N ps (defScope st))
    (hb : ∀ (kV doc pm : Value) (an : Option Addr) (cdv ct : Value) (us : List Value), us.length = ps.length → bindArgs (PySem.W.fnOf x x (defArgs st) (defBody st) (defScope st) .none kV doc pm an cdv ct) ⟨us, []⟩ = pure (ps.zip us))
    (len : ∀ vs H Q E, sp vs H Q E → vs.length = ps.length)
    (body : ∀ (f : Addr) (cdv : Value) (A : Around) (outer : List Env) (s : Shared) (H : Hp) (vs : List V) (Q : VK) (E : XK), Room k (A.deeper (envOfC x (defScope st) s.heap.objs.size f cdv)) → sp vs H Q E →
      ∃ t, PSs (cxOf CX0 P w K mg base N x (defScope st) f cdv A outer s H E).nox (defBody st) t ∧ t { nx := fun _ H' => Q .non H', rt := Q } (start N vs) H) :
    Cal P w K mg base x (k + 1) ps sp := by
  obtain ⟨f, fd, h1, F⟩ := D
  refine ⟨f, fd, h1, F.kp, F.bindsN hb, F.ok S len fun cdv A outer s H vs Q E hr hsp => ?_⟩
  obtain ⟨t, ht, q⟩ := body f cdv A outer s H vs Q E hr hsp
  exact ⟨t, ht.nox, q⟩
end
section
variable {X : Cx} {x : Str} {j k : Nat} {ps : List Str} {sp : Sp} {p pos : Pos} {e : Expr} {es : List Expr} {t : TA}
theorem pe_cal (c : Cal X.prog X.w X.K X.mg X.base x k ps sp) (hr : Room j X.A) (hk : k ≤ j) (ha : PA X (e :: es) t) (hg : Gl X x := by rfl) (hdb : (x == ("__debug__" : Str)) = false := by decide)
    (he : starEach (e :: es) X.env = (false, eval e X.env) :: starEach es X.env := by rfl) (hpl : (backTo pos (starEach es X.env)).any (·.1) = false := by rfl) : PE X (.Call (.Name x p) (e :: es) [] pos) (tCall sp [] E0 t) := by
  obtain ⟨f, fd, h1, h2, h3, F⟩ := c
  exact pe_call F (hr.mono hk) hg h1 h2 h3 .nil pass0 ha hdb he hpl
end
theorem b_int : bootBuiltins "int" = some (.type "int") := by decide +kernel
theorem b_len : bootBuiltins "len" = some (.builtin "len") := by decide +kernel
theorem b_sum : bootBuiltins "sum" = some (.builtin "sum") := by decide +kernel
theorem b_all : bootBuiltins "all" = some (.builtin "all") := by decide +kernel
theorem b_tuple : bootBuiltins "tuple" = some (.type "tuple") := by decide +kernel
theorem b_dict : bootBuiltins "dict" = some (.type "dict") := by decide +kernel
theorem b_sorted : bootBuiltins "sorted" = some (.builtin "sorted") := by decide +kernel
theorem b_bool : bootBuiltins "bool" = some (.type "bool") := by decide +kernel
theorem b_str : bootBuiltins "str" = some (.type "str") := by decide +kernel
theorem b_list : bootBuiltins "list" = some (.type "list") := by decide +kernel
theorem b_isinstance : bootBuiltins "isinstance" = some (.builtin "isinstance") := by decide +kernel
/-! ### immutable data -/
mutual
inductive Im (H : Hp) : V → PyData → Prop
  | non : Im H .non .none
  | bl (b : Bool) : Im H (.bl b) (.bool b)
  | int (i : Int) : Im H (.int i) (.int i)
  | str (x : Str) : Im H (.str x) (.str x)
  | tup {a : Addr} {xs : List V} {ds : List PyData} : H a = some (.tup xs) → ImAll H xs ds → Im H (.ref a) (.tuple ds)
inductive ImAll (H : Hp) : List V → List PyData → Prop
  | nil : ImAll H [] []
  | cons {v : V} {vs : List V} {d : PyData} {ds : List PyData} : Im H v d → ImAll H vs ds → ImAll H (v :: vs) (d :: ds)
end
/-- the tuples are as they were -/
def Tsm (H H' : Hp) : Prop := ∀ b xs, H b = some (.tup xs) → H' b = some (.tup xs)
theorem _root_.L2.Same.ts {H H' : Hp} (s : Same H H') : Tsm H H' := fun b xs h => s b _ h
mutual
theorem Im.ts {H H' : Hp} (t : Tsm H H') : ∀ (d : PyData) (v : V), Im H v d → Im H' v d
  | _, _, .non => .non
  | _, _, .bl b => .bl b
  | _, _, .int i => .int i
  | _, _, .str x => .str x
  | _, _, .tup h a => .tup (t _ _ h) (ImAll.ts t _ _ a)
theorem ImAll.ts {H H' : Hp} (t : Tsm H H') : ∀ (ds : List PyData) (vs : List V), ImAll H vs ds → ImAll H' vs ds
  | _, _, .nil => .nil
  | _, _, .cons h a => .cons (Im.ts t _ _ h) (ImAll.ts t _ _ a)
end
mutual
theorem Im.dp {K : PySem.W.Frag} {H : Hp} : ∀ (d : PyData) (v : V), Im H v d → Dp K H v d
  | _, _, .non => .non
  | _, _, .bl b => .bl b
  | _, _, .int i => .int i
  | _, _, .str x => .str x
  | _, _, .tup h a => .tup (.of h) (ImAll.dp _ _ a)
theorem ImAll.dp {K : PySem.W.Frag} {H : Hp} : ∀ (ds : List PyData) (vs : List V), ImAll H vs ds → DpAll K H vs ds
  | _, _, .nil => .nil
  | _, _, .cons h a => .cons (Im.dp _ _ h) (ImAll.dp _ _ a)
end
theorem _root_.L2.Same.im {H H' : Hp} {v : V} {d : PyData} (s : Same H H') (h : Im H v d) : Im H' v d := Im.ts (Same.ts s) _ _ h
theorem _root_.L2.Same.ims {H H' : Hp} {v : List V} {d : List PyData} (s : Same H H') (h : ImAll H v d) : ImAll H' v d := ImAll.ts (Same.ts s) _ _ h
theorem _root_.L2.Same.at {H H' : Hp} {a : Addr} {o : HO} (s : Same H H') (h : H a = some o) : H' a = some o := s _ _ h
theorem _root_.L2.Same.sqT {K : PySem.W.Frag} {H H' : Hp} {a : Addr} {xs : List V} (e : Same H H') (h : SqT K H a xs) : SqT K H' a xs := by
  rcases h with (h | ⟨o, h⟩) | h
  · exact .inl (.inl (e _ _ h))
  · exact .inl (.inr ⟨o, e _ _ h⟩)
  · exact .inr h
theorem ImAll.length : ∀ {H : Hp} {vs : List V} {ds : List PyData}, ImAll H vs ds → vs.length = ds.length
  | _, _, _, .nil => rfl
  | _, _, _, .cons _ a => congrArg Nat.succ (ImAll.length a)
theorem ImAll.get : ∀ {H : Hp} {vs : List V} {ds : List PyData} {i : Nat} {d : PyData}, ImAll H vs ds → ds[i]? = some d → ∃ v, vs[i]? = some v ∧ Im H v d
  | _, _, _, _, _, .nil, h => by simp at h
  | _, _, _, 0, _, .cons a _, h => by
    have e := Option.some.inj h
    exact ⟨_, rfl, e ▸ a⟩
  | _, _, _, i + 1, _, .cons _ r, h => ImAll.get (i := i) r h
theorem ImAll.get' : ∀ {H : Hp} {vs : List V} {ds : List PyData} {i : Nat} {v : V}, ImAll H vs ds → vs[i]? = some v → ∃ d, ds[i]? = some d ∧ Im H v d
  | _, _, _, _, _, .nil, h => by simp at h
  | _, _, _, 0, _, .cons a _, h => by
    have e := Option.some.inj h
    exact ⟨_, rfl, e ▸ a⟩
  | _, _, _, i + 1, _, .cons _ r, h => ImAll.get' (i := i) r h
theorem ImAll.app : ∀ {H : Hp} {vs us : List V} {ds es : List PyData}, ImAll H vs ds → ImAll H us es → ImAll H (vs ++ us) (ds ++ es)
  | _, _, _, _, _, .nil, b => b
  | _, _, _, _, _, .cons h a, b => .cons h (ImAll.app a b)
theorem ImAll.take : ∀ {H : Hp} {vs : List V} {ds : List PyData} (n : Nat), ImAll H vs ds → ImAll H (vs.take n) (ds.take n)
  | _, _, _, 0, _ => .nil
  | _, _, _, _ + 1, .nil => .nil
  | _, _, _, n + 1, .cons h a => .cons h (ImAll.take n a)
theorem ImAll.drop : ∀ {H : Hp} {vs : List V} {ds : List PyData} (n : Nat), ImAll H vs ds → ImAll H (vs.drop n) (ds.drop n)
  | _, _, _, 0, a => a
  | _, _, _, _ + 1, .nil => .nil
  | _, _, _, n + 1, .cons _ a => ImAll.drop n a
/-- a new object laid: all that was stays -/
theorem same_upd {H : Hp} {p : Addr} {o : HO} (h : H p = none) : Same H (upd H p o) := fun b x e => by
  rw [upd_ne (ne_of_none e h)]
  exact e
/-- a list at l rewritten -/
structure Mv (l : Addr) (H H' : Hp) : Prop where
  rest : ∀ b o, b ≠ l → H b = some o → H' b = some o
  was : ∃ xs, H l = some (.lst xs)
theorem Mv.at {l : Addr} {H H' : Hp} {a : Addr} {o : HO} (m : Mv l H H') (h : H a = some o) (n : ∀ xs, o ≠ .lst xs) : H' a = some o := by
  obtain ⟨xs, hl⟩ := m.was
  exact m.rest _ _ (ne_of h hl (n xs)) h
theorem Mv.ts {l : Addr} {H H' : Hp} (m : Mv l H H') : Tsm H H' := fun b xs h => m.at h (fun _ z => by cases z)
theorem Mv.im {l : Addr} {H H' : Hp} {v : V} {d : PyData} (s : Mv l H H') (h : Im H v d) : Im H' v d := Im.ts (Mv.ts s) _ _ h
theorem Mv.ims {l : Addr} {H H' : Hp} {v : List V} {d : List PyData} (s : Mv l H H') (h : ImAll H v d) : ImAll H' v d := ImAll.ts (Mv.ts s) _ _ h
theorem Mv.same {l : Addr} {H0 H H' : Hp} (s : Same H0 H) (m : Mv l H H') (n : H0 l = none) : Same H0 H' := fun b o e => m.rest b o (ne_of_none e n) (s _ _ e)
/-! ### lists of ints as data -/
theorem canLay_ints : ∀ ns : List Int, PyData.canLayAll0 (ns.map PyData.int) = true
  | [] => by simp only [List.map_nil, PyData.canLayAll0]
  | n :: r => by simp only [List.map_cons, PyData.canLayAll0, PyData.canLay0, canLay_ints r, Bool.and_self]
theorem depth_ints : ∀ ns : List Int, PyData.depthAll (ns.map PyData.int) = 0
  | [] => by simp only [List.map_nil, PyData.depthAll]
  | n :: r => by simp only [List.map_cons, PyData.depthAll, PyData.depth, depth_ints r, Nat.max_self]
theorem shaped_ints (ns : List Int) : SeqAt.shaped (.list (ns.map PyData.int)) = true := by
  unfold SeqAt.shaped
  simp only [PyData.canLay0, canLay_ints, PyData.depth, depth_ints]
  rfl
theorem shaped_nil : SeqAt.shaped (.list []) = true := shaped_ints []
theorem dpAll_ints {K : PySem.W.Frag} {H : Hp} : ∀ ns : List Int, DpAll K H (ns.map V.int) (ns.map PyData.int)
  | [] => .nil
  | n :: r => .cons (.int n) (dpAll_ints r)
def nI (k : Nat) : V := .int k
def nD (k : Nat) : PyData := .int k
theorem nats_ints (ns : List Nat) : ns.map nD = (ns.map (Int.ofNat ·)).map PyData.int := by
  rw [List.map_map]
  rfl
theorem shaped_nats (ns : List Nat) : SeqAt.shaped (.list (ns.map nD)) = true := by rw [nats_ints]; exact shaped_ints _
theorem dpAll_nats {K : PySem.W.Frag} {H : Hp} : ∀ ns : List Nat, DpAll K H (ns.map nI) (ns.map nD)
  | [] => .nil
  | n :: r => .cons (.int n) (dpAll_nats r)
theorem eqv_ints_nil (ns : List Int) : PyData.eqv (.list (ns.map PyData.int)) (.list []) = ns.isEmpty := by
  cases ns with
  | nil => simp only [List.map_nil, PyData.eqv, PyData.eqvAll, List.isEmpty_nil]
  | cons n r => simp only [List.map_cons, PyData.eqv, PyData.eqvAll, List.isEmpty_cons]
theorem cut_to (xs : List V) (k : Int) (h : (xs.length : Int) ≤ k) : cutV xs none (some k) = xs := by
  have e : HT.sIx xs.length xs.length (some k) = xs.length := by
    unfold HT.sIx
    dsimp only
    rw [if_neg (by omega)]
    exact Nat.min_eq_right (by omega)
  unfold cutV
  rw [HT.sIx_none, e, List.drop_zero, Nat.sub_zero, List.take_length]
theorem atI_map {α : Type} (f : α → V) {xs : List α} {j : Int} {x : α} (h0 : 0 ≤ j) (e : xs[j.toNat]? = some x) : atI (xs.map f) j = some (f x) := by
  have h := atI_nat (xs := xs.map f) (j := j.toNat) (v := f x) (by rw [List.getElem?_map, e]; rfl)
  rwa [Int.toNat_of_nonneg h0] at h
theorem atI_ints {ms : List Int} {j : Int} (h0 : 0 ≤ j) (h1 : j < ms.length) : atI (ms.map V.int) j = some (.int (ms.getD j.toNat 0)) := by
  refine atI_map V.int h0 ?_
  have h : j.toNat < ms.length := by omega
  rw [List.getD_eq_getElem?_getD, List.getElem?_eq_getElem h]
  rfl
theorem eqv_nats_nil (ns : List Nat) : PyData.eqv (.list (ns.map nD)) (.list []) = ns.isEmpty := by
  cases ns with
  | nil => simp only [List.map_nil, PyData.eqv, PyData.eqvAll, List.isEmpty_nil]
  | cons n r => simp only [List.map_cons, PyData.eqv, PyData.eqvAll, List.isEmpty_cons]
theorem pe_globR {X : Cx} {x : Str} {a : Addr} {pos : Pos} (hm : X.mg x = some (.ref a)) (hg : Gl X x := by rfl) (hd : (x == ("__debug__" : Str)) = false := by decide) : PE X (.Name x pos) (tC (.ref a)) := pe_glob hg hm rfl hd
/-! ### calls of built-ins, their readings by names -/
def rInt1 : List V → Hp → VK → Prop := fun xs H Q => (∃ i, xs = [.int i] ∧ Q (.int i) H) ∨ ∃ k, xs = [.bl k] ∧ Q (.int (if k then 1 else 0)) H
def rLenS (K : PySem.W.Frag) : List V → Hp → VK → Prop := fun xs H Q => ∃ p ys, xs = [.ref p] ∧ (SqL K H p ys ∨ SqT K H p ys) ∧ Q (.int ys.length) H
def rTupOf (K : PySem.W.Frag) : List V → Hp → VK → Prop := fun xs H Q => ∃ p ys, xs = [.ref p] ∧ ((SqL K H p ys ∧ ∀ l, H l = none → Q (.ref l) (upd H l (.tup ys))) ∨ (SqT K H p ys ∧ Q (.ref p) H))
theorem c_int {X : Cx} : CallR X (.type "int") rInt1 := call_int1
theorem c_len {X : Cx} : CallR X (.builtin "len") (rLenS X.K) := call_len_seq
theorem c_tup {X : Cx} : CallR X (.type "tuple") (rTupOf X.K) := call_tuple_of
/-! ### what follows a reading -/
section
variable {σ : St} {H : Hp} {Q : VK} {D : Ends} {K : PySem.W.Frag}
theorem r_var {i : Nat} {v : V} (h : σ[i]? = some (some v)) (q : Q v H) : tVar i σ H Q := ⟨v, h, q⟩
theorem r_c {v : V} (q : Q v H) : tC v σ H Q := q
theorem r_op {r : R2} {ta tb : TE} (q : ta σ H fun x H1 => tb σ H1 fun y H2 => r x y H2 Q) : tOp r ta tb σ H Q := q
theorem r_un {r : V → Hp → VK → Prop} {ta : TE} (q : ta σ H fun x H1 => r x H1 Q) : tUn r ta σ H Q := q
theorem r_I0 {g : Int → Int → V} {i j : Int} (q : Q (g i j) H) : rI0 g (.int i) (.int j) H Q := ⟨i, j, rfl, rfl, q⟩
theorem r_I {C : Int → Int → Prop} {g : Int → Int → V} {i j : Int} (c : C i j) (q : Q (g i j) H) : rI C g (.int i) (.int j) H Q := ⟨i, j, rfl, rfl, c, q⟩
theorem r_div {g : Int → Int → V} {i j : Int} (h1 : 0 < j) (h2 : j < 1073741824) (q : Q (g i j) H) : rI CDiv g (.int i) (.int j) H Q := ⟨i, j, rfl, rfl, ⟨h1, h2⟩, q⟩
theorem r_mulL {g : Int → Int → V} {i j : Int} (h1 : -(2 ^ 64) < i) (h2 : i < 2 ^ 64) (q : Q (g i j) H) : rI CMul g (.int i) (.int j) H Q := ⟨i, j, rfl, rfl, .inl ⟨h1, h2⟩, q⟩
theorem r_mulR {g : Int → Int → V} {i j : Int} (h1 : -(2 ^ 64) < j) (h2 : j < 2 ^ 64) (q : Q (g i j) H) : rI CMul g (.int i) (.int j) H Q := ⟨i, j, rfl, rfl, .inr ⟨h1, h2⟩, q⟩
theorem r_U {g : Int → V} {i : Int} (q : Q (g i) H) : rU g (.int i) H Q := ⟨i, rfl, q⟩
theorem r_Eq {x y : V} (s : scal x y = true) (q : Q (.bl (decide (x = y))) H) : rEq x y H Q := ⟨s, q⟩
theorem r_Ne {x y : V} (s : scal x y = true) (q : Q (.bl (!decide (x = y))) H) : rNe x y H Q := ⟨s, q⟩
theorem r_test {t : TE} {Q : Bool → Hp → Prop} (q : t σ H fun x H1 => ∃ k, x = .bl k ∧ Q k H1) : tTest t σ H Q := q
theorem r_tB {t : TE} {Q : Bool → Hp → Prop} (q : t σ H fun x H1 => ∃ k, x = .bl k ∧ Q k H1) : tB t σ H Q := q
theorem r_exbl {k : Bool} {Q : Bool → Prop} (q : Q k) : ∃ c, V.bl k = .bl c ∧ Q c := ⟨k, rfl, q⟩
theorem r_and {t u : TT} {Q : Bool → Hp → Prop} (q : t σ H fun c H1 => if c = true then u σ H1 Q else Q false H1) : tAnd t u σ H Q := q
theorem r_or {t u : TT} {Q : Bool → Hp → Prop} (q : t σ H fun c H1 => if c = true then Q true H1 else u σ H1 Q) : tOr t u σ H Q := q
theorem r_not {t : TT} {Q : Bool → Hp → Prop} (q : t σ H fun c H1 => Q (!c) H1) : tNot t σ H Q := q
theorem r_andV {ta tb : TE} (q : ta σ H fun x H1 => ∃ c, x = .bl c ∧ if c = true then tb σ H1 Q else Q (.bl false) H1) : tAndV ta tb σ H Q := q
theorem r_orV {ta tb : TE} (q : ta σ H fun x H1 => ∃ c, x = .bl c ∧ if c = true then Q (.bl true) H1 else tb σ H1 Q) : tOrV ta tb σ H Q := q
theorem r_notV {ta : TE} (q : ta σ H fun x H1 => ∃ c, x = .bl c ∧ Q (.bl (!c)) H1) : tNotV ta σ H Q := q
theorem r_if {t : TT} {ta tb : TE} (q : t σ H fun c H1 => if c = true then ta σ H1 Q else tb σ H1 Q) : tIf t ta tb σ H Q := q
theorem r_chain {r r' : R2} {ta tb tc : TE} (q : ta σ H fun x H1 => tb σ H1 fun y H2 => r x y H2 fun z H3 => ∃ k, z = .bl k ∧ (if k = true then tc σ H3 fun w' H4 => r' y w' H4 Q else Q (.bl false) H3)) : tChain r r' ta tb tc σ H Q := q
theorem r_isN {ta : TE} (q : ta σ H fun x H1 => Q (.bl (decide (x = .non))) H1) : tIsN ta σ H Q := q
theorem r_notN {ta : TE} (q : ta σ H fun x H1 => Q (.bl (!decide (x = .non))) H1) : tNotN ta σ H Q := q
theorem r_call {sp : Sp} {E : XK} {t : TA} (q : t σ H fun vs H1 => sp vs H1 Q E) : tCall sp [] E t σ H Q := by
  show t σ H fun vs H1 => sp (vs ++ []) H1 Q E
  have e : (fun (vs : List V) H1 => sp (vs ++ []) H1 Q E) = fun vs H1 => sp vs H1 Q E := by
    funext vs H1
    rw [List.append_nil]
  rw [e]
  exact q
theorem r_cb {r : List V → Hp → VK → Prop} {t : TA} (q : t σ H fun vs H1 => r vs H1 Q) : tCB r t σ H Q := q
theorem r_nil {Q : List V → Hp → Prop} (q : Q [] H) : tNil σ H Q := q
theorem r_cons {ta : TE} {tr : TA} {Q : List V → Hp → Prop} (q : ta σ H fun x H1 => tr σ H1 fun xs H2 => Q (x :: xs) H2) : tCons ta tr σ H Q := q
def NewT (xs : List V) (H : Hp) (Q : VK) : Prop := xs.length ≤ sizeLine ∧ ∀ p, H p = none → Q (.ref p) (upd H p (.tup xs))
def NewL (xs : List V) (H : Hp) (Q : VK) : Prop := xs.length ≤ sizeLine ∧ ∀ p, H p = none → Q (.ref p) (upd H p (.lst xs))
theorem r_tup {t : TA} (q : t σ H fun xs H1 => NewT xs H1 Q) : tTup t σ H Q := q
theorem r_lst {t : TA} (q : t σ H fun xs H1 => NewL xs H1 Q) : tLst t σ H Q := q
theorem r_newT {xs : List V} (hl : xs.length ≤ sizeLine) (q : ∀ p H', H p = none → Same H H' → H' p = some (.tup xs) → Q (.ref p) H') : NewT xs H Q := ⟨hl, fun p hp => q p _ hp (same_upd hp) upd_same⟩
theorem r_newL {xs : List V} (hl : xs.length ≤ sizeLine) (q : ∀ p H', H p = none → Same H H' → H' p = some (.lst xs) → Q (.ref p) H') : NewL xs H Q := ⟨hl, fun p hp => q p _ hp (same_upd hp) upd_same⟩
/-- a new tuple of data -/
theorem r_newI {xs : List V} {ds : List PyData} (hl : xs.length ≤ sizeLine) (a : ImAll H xs ds) (q : ∀ p H', H p = none → Same H H' → Im H' (.ref p) (.tuple ds) → Q (.ref p) H') : NewT xs H Q :=
  r_newT hl fun p H' hp s e => q p H' hp s (.tup e (Same.ims s a))
theorem r_asg {te : TE} {g : TG} (q : te σ H fun x H1 => g x σ H1 D.nx) : tAsg te g D σ H := q
theorem r_gName {i : Nat} {v : V} {Q : St → Hp → Prop} (q : Q (σ.set i (some v)) H) : gName i v σ H Q := q
theorem r_gTup {n : Nat} {t : TGs} {a : Addr} {xs : List V} {Q : St → Hp → Prop} (h : SqT K H a xs) (hn : xs.length = n) (q : t xs σ H Q) : gTup K n t (.ref a) σ H Q := ⟨a, xs, rfl, h, hn, q⟩
theorem r_gCons {t : TG} {u : TGs} {v : V} {r : List V} {Q : St → Hp → Prop} (q : t v σ H fun σ' H' => u r σ' H' Q) : gCons t u (v :: r) σ H Q := ⟨v, r, rfl, q⟩
theorem r_gNil {Q : St → Hp → Prop} (q : Q σ H) : gNil [] σ H Q := ⟨rfl, q⟩
theorem r_seq {t u : TS} (q : t { D with nx := u D } σ H) : tSeq t u D σ H := q
theorem r_next (q : D.nx σ H) : tNext D σ H := q
theorem r_ret {te : TE} (q : te σ H D.rt) : tRet te D σ H := q
theorem r_ifS {c : TT} {t u : TS} (q : c σ H fun b H1 => if b = true then t D σ H1 else u D σ H1) : tIfS c t u D σ H := q
theorem r_drop {te : TE} (q : te σ H fun _ H1 => D.nx σ H1) : tDrop te D σ H := q
theorem r_par {i j : Nat} {ta : TA} (q : ta σ H fun vs H1 => ∃ v w, vs = [v, w] ∧ D.nx ((σ.set i (some v)).set j (some w)) H1) : tPar i j ta D σ H := q
theorem r_ex2 {v w : V} {Q : V → V → Prop} (q : Q v w) : ∃ v' w', [v, w] = [v', w'] ∧ Q v' w' := ⟨v, w, rfl, q⟩
theorem r_sl {r : V → Option Int → Option Int → Hp → VK → Prop} {te : TE} {tl th : TO} (q : te σ H fun x H1 => tl σ H1 fun l H2 => th σ H2 fun u H3 => r x l u H3 Q) : tSl r te tl th σ H Q := q
theorem r_part {t : TE} {Q : Option Int → Hp → Prop} (q : t σ H fun x H1 => ∃ i, x = .int i ∧ Q (some i) H1) : tPart t σ H Q := q
theorem r_exint {k : Int} {Q : Int → Prop} (q : Q k) : ∃ c, V.int k = .int c ∧ Q c := ⟨k, rfl, q⟩
theorem r_nopart {Q : Option Int → Hp → Prop} (q : Q none H) : tNoPart σ H Q := q
theorem r_slL {a : Addr} {xs : List V} {lo hi : Option Int} (h : SqL K H a xs) (q : ∀ p H', H p = none → Same H H' → H' p = some (.lst (cutV xs lo hi)) → Q (.ref p) H') : rSlL K (.ref a) lo hi H Q := ⟨a, xs, rfl, h, fun p hp => q p _ hp (same_upd hp) upd_same⟩
theorem r_ixL {a : Addr} {xs : List V} {i : Int} {v : V} (h : SqL K H a xs) (e : atI xs i = some v) (q : Q v H) : rIxL K (.ref a) (.int i) H Q := ⟨a, xs, i, v, rfl, rfl, h, e, q⟩
theorem r_ixT {a : Addr} {xs : List V} {i : Int} {v : V} (h : SqT K H a xs) (e : atI xs i = some v) (q : Q v H) : rIxT K (.ref a) (.int i) H Q := ⟨a, xs, i, v, rfl, rfl, h, e, q⟩
theorem r_lenL {a : Addr} {xs : List V} {n : Nat} (h : SqL K H a xs) (e : xs.length = n) (q : Q (.int n) H) : rLenS K [.ref a] H Q := ⟨a, xs, rfl, .inl h, e ▸ q⟩
theorem r_lenT {a : Addr} {xs : List V} {n : Nat} (h : SqT K H a xs) (e : xs.length = n) (q : Q (.int n) H) : rLenS K [.ref a] H Q := ⟨a, xs, rfl, .inr h, e ▸ q⟩
theorem r_int {i : Int} (q : Q (.int i) H) : rInt1 [.int i] H Q := .inl ⟨i, rfl, q⟩
theorem r_tupL {a : Addr} {ys : List V} (h : SqL K H a ys) (q : ∀ p H', H p = none → Same H H' → H' p = some (.tup ys) → Q (.ref p) H') : rTupOf K [.ref a] H Q := ⟨a, ys, rfl, .inl ⟨h, fun p hp => q p _ hp (same_upd hp) upd_same⟩⟩
theorem r_tupT {a : Addr} {ys : List V} (h : SqT K H a ys) (q : Q (.ref a) H) : rTupOf K [.ref a] H Q := ⟨a, ys, rfl, .inr ⟨h, q⟩⟩
theorem r_sum {a : Addr} {ns : List Int} (h : SqL K H a (ns.map V.int)) (q : Q (.int ns.sum) H) : rSum K [.ref a] H Q := ⟨a, ns, rfl, h, q⟩
theorem r_all {a : Addr} {bs : List Bool} (h : SqL K H a (bs.map V.bl)) (q : Q (.bl (bs.all id)) H) : rAll K [.ref a] H Q := ⟨a, bs, rfl, h, q⟩
theorem r_neD {x y : V} {d e : PyData} (hx : Dp K H x d) (hy : Dp K H y e) (s1 : SeqAt.shaped d = true) (s2 : SeqAt.shaped e = true) (q : Q (.bl (!PyData.eqv d e)) H) : rNeD K x y H Q := ⟨d, e, hx, hy, s1, s2, q⟩
theorem r_eqD {x y : V} {d e : PyData} (hx : Dp K H x d) (hy : Dp K H y e) (s1 : SeqAt.shaped d = true) (s2 : SeqAt.shaped e = true) (q : Q (.bl (PyData.eqv d e)) H) : rEqD K x y H Q := ⟨d, e, hx, hy, s1, s2, q⟩
/-- what is wanted of an expression's value, said in between -/
theorem r_cut {te : TE} (R : V → Hp → Prop) (h1 : ∀ Q' : VK, (∀ v H', R v H' → Q' v H') → te σ H Q') (h2 : ∀ v H', R v H' → Q v H') : te σ H Q := h1 Q h2
/-- .. of a statement's end -/
theorem s_cut {t u : TS} (R : St → Hp → Prop) (h1 : ∀ nx : St → Hp → Prop, (∀ σ' H', R σ' H' → nx σ' H') → t { D with nx := nx } σ H) (h2 : ∀ σ' H', R σ' H' → u D σ' H') : tSeq t u D σ H := h1 (u D) h2
theorem r_EqI {i j : Int} (q : Q (.bl (decide (i = j))) H) : rEq (.int i) (.int j) H Q := ⟨rfl, by rwa [show decide (V.int i = V.int j) = decide (i = j) from decide_eq_decide.mpr ⟨V.int.inj, congrArg _⟩]⟩
theorem r_NeI {i j : Int} (q : Q (.bl (!decide (i = j))) H) : rNe (.int i) (.int j) H Q := ⟨rfl, by rwa [show decide (V.int i = V.int j) = decide (i = j) from decide_eq_decide.mpr ⟨V.int.inj, congrArg _⟩]⟩
theorem r_EqS {i j : Str} (q : Q (.bl (decide (i = j))) H) : rEq (.str i) (.str j) H Q := ⟨rfl, by rwa [show decide (V.str i = V.str j) = decide (i = j) from decide_eq_decide.mpr ⟨V.str.inj, congrArg _⟩]⟩
theorem r_NeS {i j : Str} (q : Q (.bl (!decide (i = j))) H) : rNe (.str i) (.str j) H Q := ⟨rfl, by rwa [show decide (V.str i = V.str j) = decide (i = j) from decide_eq_decide.mpr ⟨V.str.inj, congrArg _⟩]⟩
/-- a test whose answer is known -/
theorem t_if {c : TT} {t u : TS} (b : Bool) (R : Hp → Prop) (h1 : ∀ Q' : Bool → Hp → Prop, (∀ H', R H' → Q' b H') → c σ H Q') (h2 : ∀ H', R H' → if b = true then t D σ H' else u D σ H') : tIfS c t u D σ H := h1 _ h2
/-- .. that leaves the heap -/
theorem t_ifY {c : TT} {t u : TS} (h1 : ∀ Q' : Bool → Hp → Prop, Q' true H → c σ H Q') (h2 : t D σ H) : tIfS c t u D σ H := h1 _ (iteT h2)
theorem t_ifN {c : TT} {t u : TS} (h1 : ∀ Q' : Bool → Hp → Prop, Q' false H → c σ H Q') (h2 : u D σ H) : tIfS c t u D σ H := h1 _ (iteF h2)
/-- .. and may make objects -/
theorem t_ifYS {c : TT} {t u : TS} (h1 : ∀ Q' : Bool → Hp → Prop, (∀ H', Same H H' → Q' true H') → c σ H Q') (h2 : ∀ H', Same H H' → t D σ H') : tIfS c t u D σ H := h1 _ fun H' s => iteT (h2 H' s)
theorem t_ifNS {c : TT} {t u : TS} (h1 : ∀ Q' : Bool → Hp → Prop, (∀ H', Same H H' → Q' false H') → c σ H Q') (h2 : ∀ H', Same H H' → u D σ H') : tIfS c t u D σ H := h1 _ fun H' s => iteF (h2 H' s)
theorem ite_dec {c : Prop} [Decidable c] {A B : Prop} (h1 : c → A) (h2 : ¬ c → B) : if decide c = true then A else B := ite2 (fun h => h1 (of_decide_eq_true h)) (fun h => h2 fun z => h (decide_eq_true z))
theorem ite_ndec {c : Prop} [Decidable c] {A B : Prop} (h1 : ¬ c → A) (h2 : c → B) : if (!decide c) = true then A else B := ite2 (fun h => h1 fun z => by rw [decide_eq_true z] at h; cases h) (fun h => h2 (Decidable.byContradiction fun z => h (by rw [decide_eq_false z]; rfl)))
theorem q_decT {c : Prop} [Decidable c] {Q : Bool → Hp → Prop} (h : c) (k : Q true H) : Q (decide c) H := by rwa [decide_eq_true h]
theorem q_decF {c : Prop} [Decidable c] {Q : Bool → Hp → Prop} (h : ¬ c) (k : Q false H) : Q (decide c) H := by rwa [decide_eq_false h]
theorem q_nT {c : Prop} [Decidable c] {Q : Bool → Hp → Prop} (h : ¬ c) (k : Q true H) : Q (!decide c) H := by rw [decide_eq_false h]; exact k
theorem q_nF {c : Prop} [Decidable c] {Q : Bool → Hp → Prop} (h : c) (k : Q false H) : Q (!decide c) H := by rw [decide_eq_true h]; exact k
theorem r_gSub {to ti : TE} {t : TSet} {v : V} {Q : St → Hp → Prop} (q : to σ H fun o H1 => ti σ H1 fun i H2 => t o i v H2 fun H3 => Q σ H3) : gSub to ti t v σ H Q := q
theorem r_setL {p : Addr} {xs : List V} {k : Int} {j : Nat} {v : V} {Q : Hp → Prop} (h : H p = some (.lst xs)) (e : ixN xs.length k = some j) (q : ∀ H', Mv p H H' → H' p = some (.lst (xs.set j v)) → Q H') : rSetL (.ref p) (.int k) v H Q :=
  ⟨p, xs, k, j, rfl, rfl, h, e, q _ ⟨fun b o n z => by rw [upd_ne n]; exact z, xs, h⟩ upd_same⟩
theorem r_append {l : Addr} {xs : List V} {y : V} (h : H l = some (.lst xs)) (hl : xs.length < sizeLine) (q : ∀ H', Mv l H H' → H' l = some (.lst (xs ++ [y])) → Q .non H') : rAppend (.ref l) [y] H Q :=
  ⟨l, xs, y, rfl, rfl, h, hl, q _ ⟨fun b o n z => by rw [upd_ne n]; exact z, xs, h⟩ upd_same⟩
theorem r_disp {trs : List (TE × TE)} (q : ∀ p H', H p = none → Same H H' → H' p = some (.dK []) → tPairs trs σ H' fun ps H2 => H2 p = some (.dK []) ∧ ∃ kvs : List (Key × V), ps = kvs.map (fun kv => (kV kv.1, kv.2)) ∧ kvs.length ≤ 15 ∧ Q (.ref p) (upd H2 p (.dK (mergeK [] kvs)))) : tDisp trs σ H Q :=
  fun p hp => q p _ hp (same_upd hp) upd_same
theorem r_pcons {tk tv : TE} {r : List (TE × TE)} {Q : List (V × V) → Hp → Prop} (q : tk σ H fun x H1 => tv σ H1 fun y H2 => tPairs r σ H2 fun ps H3 => Q ((x, y) :: ps) H3) : tPairs ((tk, tv) :: r) σ H Q := q
theorem r_pnil {Q : List (V × V) → Hp → Prop} (q : Q [] H) : tPairs [] σ H Q := q
theorem r_dispE {H2 : Hp} {p : Addr} (kvs : List (Key × V)) {ps : List (V × V)} (hp : H p = none) (s : Same H H2) (e : H2 p = some (.dK [])) (he : ps = kvs.map (fun kv => (kV kv.1, kv.2))) (hl : kvs.length ≤ 15) (q : ∀ H3, Same H H3 → H3 p = some (.dK (mergeK [] kvs)) → Q (.ref p) H3) :
    H2 p = some (.dK []) ∧ ∃ kvs : List (Key × V), ps = kvs.map (fun kv => (kV kv.1, kv.2)) ∧ kvs.length ≤ 15 ∧ Q (.ref p) (upd H2 p (.dK (mergeK [] kvs))) :=
  ⟨e, kvs, he, hl, q _ (fun b o h => by rw [upd_ne (ne_of_none h hp)]; exact s _ _ h) upd_same⟩
theorem r_dget {td ty : TE} (q : td σ H fun x H1 => ty σ H1 fun y H2 => ∃ a v, x = .ref a ∧ DGet H2 a y (some v) ∧ Q v H2) : tDGet td ty σ H Q := q
theorem r_dgetK {a : Addr} {kvs : List (Key × V)} {k : Key} {y v : V} (h : H a = some (.dK kvs)) (hy : y = kV k) (e : valV kvs k = some v) (q : Q v H) : ∃ a' v, V.ref a = .ref a' ∧ DGet H a' y (some v) ∧ Q v H := ⟨a, v, rfl, by rw [hy, ← e]; exact DGet.k h, q⟩
theorem r_ixD {w : World} {p : Addr} {z : Str} {v : V} (h : KDct K w p z v) (q : Q v H) : rIxD K w (.ref p) (.str z) H Q := ⟨p, z, v, rfl, rfl, h, q⟩
theorem r_inT {p : Addr} {x : V} {xs : List V} (h : SqT K H p xs) (f1 : flatV x = true) (f2 : xs.all flatV = true) (q : Q (.bl (inV x xs)) H) : rIn K false x (.ref p) H Q := ⟨p, xs, rfl, .inr h, f1, f2, q⟩
theorem r_ninT {p : Addr} {x : V} {xs : List V} (h : SqT K H p xs) (f1 : flatV x = true) (f2 : xs.all flatV = true) (q : Q (.bl (!inV x xs)) H) : rIn K true x (.ref p) H Q := ⟨p, xs, rfl, .inr h, f1, f2, q⟩
theorem r_iteT {p : Bool} {A B : Prop} (h : p = true) (q : A) : if p = true then A else B := by rw [if_pos h]; exact q
theorem r_iteF {p : Bool} {A B : Prop} (h : p = false) (q : B) : if p = true then A else B := by
  subst h
  exact iteF q
end
end K5
end

section
set_option maxHeartbeats 4000000
/-! HR: what is looked at behind the top. -/
namespace K5
open PySem PySem.Spec L2
open PyProof.Rows hiding St
/-! ### the addresses -/
def hNms : List Str := ["is_between", "count_in", "trees_in", "comes_to", "has_numbers_of", "is_body", "are_functions", "check_function", "is_wording", "check_setting", "is_form_of", "are_things", "is_rising", "check_plan", "is_rule", "check_rule", "first_of_scenes", "is_memory", "is_scene", "is_scene_deed", "called", "after_deed", "first_scene", "scene_after", "told_along", "_law_number"]
def hNms2 : List Str := ["_law_tree", "_law_functions", "_law_some", "_law_plan", "_law_made", "_law_empty", "_law_calls", "_law_gone", "_law_kept", "_law_rows", "_law_plainly", "_law_scene_deeds", "_law_next", "_law_rule", "_law_scene", "_law_index", "law", "SIGNS", "MOST", "MODES", "Form", "Book", "Plan", "BadRun", "MeaningError"]
def hAts : List (Str × Str) := [("Book", "__len__"), ("Book", "__getitem__"), ("Book", "__init__"), ("Form", "__init__"), ("Form", "numbers_of"), ("Form", "__contains__"), ("Plan", "book"), ("Plan", "free"), ("Book", "base"), ("Book", "settings"), ("Book", "functions"), ("Form", "calls"), ("Form", "columns"), ("Form", "reads"), ("Plan", "__init__"), ("BadRun", "__init__")]
def refsY (o : Obj) : List Addr := match o.data with
  | .func fd => He.refV fd.code ++ (He.refV fd.kwdefaults ++ fd.closure.map (·.2))
  | .cls cd => [cd.ns]
  | .fields vs => (match o.cls with
    | .type n => if n == "property" then vs.toList.flatMap He.refV else []
    | _ => [])
  | _ => []
def moreY (g : Addr → Option Obj) (as : List Addr) : List Addr := as.flatMap fun a => match g a with
  | some o => refsY o
  | none => []
def as1 (g : Addr → Option Obj) : List Addr := (hNms ++ hNms2).map (He.ga (He.frG g [mainGlobals]))
def as2 (g : Addr → Option Obj) (l1 : List Addr) : List Addr := mainGlobals :: (l1 ++ moreY g l1)
def as3 (K : PySem.W.Frag) : List Addr := hAts.map fun p => He.ma K (He.ga K p.1) p.2
def as4 (g : Addr → Option Obj) (l3 : List Addr) : List Addr := l3 ++ (moreY g l3 ++ moreY g (moreY g l3))
def as5 (g : Addr → Option Obj) (l2 : List Addr) : List Addr := cStatics :: (l2 ++ as4 g (as3 (He.frG g l2)))
def asY (g : Addr → Option Obj) : List Addr := as5 g (as2 g (as1 g))
/-! ### defs, properties -/
def dfD (x : Str) (i : Nat) : He.DefD := ⟨(x, none), x, x, defArgs (top i), defBody (top i), defScope (top i), [], []⟩
def dfM (C m q : Str) (st : Stmt) (kw : List (Str × He.Dv)) : He.DefD := ⟨(C, some m), m, q, defArgs st, defBody st, defScope st, [], kw⟩
def hDf1 : List He.DefD := [dfD "is_between" 21, dfD "count_in" 22, dfD "trees_in" 23, dfD "comes_to" 27, dfD "has_numbers_of" 31, dfD "is_body" 32, dfD "are_functions" 33, dfD "check_function" 37, dfD "is_wording" 39, dfD "check_setting" 41, dfD "is_form_of" 45, dfD "are_things" 46, dfD "is_rising" 47, dfD "check_plan" 49, dfD "is_rule" 53, dfD "check_rule" 54, dfD "first_of_scenes" 55, dfD "is_memory" 56, dfD "is_scene" 57, dfD "is_scene_deed" 58, dfD "called" 59, dfD "after_deed" 60]
def hDf2 : List He.DefD := [dfD "first_scene" 61, dfD "scene_after" 62, dfD "told_along" 63, dfD "_law_number" 65, dfD "_law_tree" 66, dfD "_law_functions" 67, dfD "_law_some" 68, dfD "_law_plan" 69, dfD "_law_made" 70, dfD "_law_empty" 71, dfD "_law_calls" 72, dfD "_law_gone" 73, dfD "_law_kept" 74, dfD "_law_rows" 75, dfD "_law_plainly" 76, dfD "_law_scene_deeds" 77, dfD "_law_next" 78, dfD "_law_rule" 79, dfD "_law_scene" 80, dfD "_law_index" 81, dfD "law" 82]
def hDf3 : List He.DefD := [dfM "Book" "__len__" "Book.__len__" (inClass (top 34) 4) [], dfM "Book" "__getitem__" "Book.__getitem__" (inClass (top 34) 5) [], dfM "Book" "__init__" "Book.__init__" (inClass (top 34) 0) [], dfM "Form" "__init__" "Form.__init__" (inClass (top 26) 0) [], dfM "Form" "numbers_of" "Form.numbers_of" (inClass (top 26) 7) [], dfM "Form" "__contains__" "Form.__contains__" (inClass (top 26) 21) [], dfM "Plan" "__init__" "Plan.__init__" (inClass (top 48) 0) [("free", .non), ("writers", .non), ("askers", .non)]]
def hDf : List He.DefD := hDf1 ++ (hDf2 ++ hDf3)
/-- a property's object, its getter -/
def prO (K : PySem.W.Frag) (C m : Str) : Addr := He.ma K (He.ga K C) m
def prG (K : PySem.W.Frag) (C m : Str) : Addr := match PySem.W.recIn K (prO K C m) "property" with
  | some (.ref g :: _) => g
  | _ => 0
def prB (K : PySem.W.Frag) (C m : Str) : Bool := He.eqO (PySem.W.findIn K (.ref (He.ga K C)) m) (some (some (.ref (prO K C m)))) && (He.eqO (PySem.W.specialIn K (.ref (prO K C m)) "__get__") (some (some (.builtin "property.__get__"))) &&
  (decide (PySem.W.takesIn K (.ref (prO K C m)) = some true) && match PySem.W.recIn K (prO K C m) "property" with
    | some (.ref _ :: _) => true
    | _ => false))
/-- the function at a -/
def fdAt (K : PySem.W.Frag) (a : Addr) : Option FuncData := match K.lookup a with
  | some ⟨_, _, .func fd, _⟩ => some fd
  | _ => none
def fnVal (fd : FuncData) : Str × Str × Arguments × FuncBody × Scope × Addr × List Str × Addr := (fd.name, fd.qualname, fd.params, fd.body, fd.scope, fd.globals, fd.closure.map (·.1), fd.builtins)
/-- no defaults, its code object known -/
def fnPl (K : PySem.W.Frag) (q : Str) (fd : FuncData) : Bool := match fd.defaults, fd.kwdefaults with
  | .none, .none => PySem.W.codeIn K fd.code q
  | _, _ => false
structure PrD where
  C : Str
  m : Str
  q : Str
  st : Stmt
def PrD.val (d : PrD) : Option (Str × Str × Arguments × FuncBody × Scope × Addr × List Str × Addr) := some (d.m, d.q, defArgs d.st, .stmts (defBody d.st), defScope d.st, mainGlobals, [], builtinsNs)
def PrD.obs (K : PySem.W.Frag) (d : PrD) : Option (Str × Str × Arguments × FuncBody × Scope × Addr × List Str × Addr) := (fdAt K (prG K d.C d.m)).map fnVal
def PrD.ok (K : PySem.W.Frag) (d : PrD) : Bool := prB K d.C d.m && (PySem.W.keepIn K (.ref (prG K d.C d.m)) && (fdAt K (prG K d.C d.m)).any (fnPl K d.q))
def hPr : List PrD := [⟨"Plan", "book", "Plan.book", (inClass (top 48) 1)⟩, ⟨"Plan", "free", "Plan.free", (inClass (top 48) 4)⟩, ⟨"Book", "base", "Book.base", (inClass (top 34) 1)⟩, ⟨"Book", "settings", "Book.settings", (inClass (top 34) 2)⟩, ⟨"Book", "functions", "Book.functions", (inClass (top 34) 3)⟩, ⟨"Form", "calls", "Form.calls", (inClass (top 26) 8)⟩, ⟨"Form", "columns", "Form.columns", (inClass (top 26) 9)⟩, ⟨"Form", "reads", "Form.reads", (inClass (top 26) 10)⟩]
def hFa1 : List He.Fa := [.glo "is_between", .glo "count_in", .glo "trees_in", .glo "comes_to", .glo "has_numbers_of", .glo "is_body", .glo "are_functions", .glo "check_function", .glo "is_wording", .glo "check_setting", .glo "is_form_of", .glo "are_things", .glo "is_rising", .glo "check_plan", .glo "is_rule", .glo "check_rule", .glo "first_of_scenes", .glo "is_memory", .glo "is_scene", .glo "is_scene_deed", .glo "called", .glo "after_deed", .glo "first_scene", .glo "scene_after", .glo "told_along", .glo "_law_number"]
def hFa2 : List He.Fa := [.glo "_law_tree", .glo "_law_functions", .glo "_law_some", .glo "_law_plan", .glo "_law_made", .glo "_law_empty", .glo "_law_calls", .glo "_law_gone", .glo "_law_kept", .glo "_law_rows", .glo "_law_plainly", .glo "_law_scene_deeds", .glo "_law_next", .glo "_law_rule", .glo "_law_scene", .glo "_law_index", .glo "law", .glo "SIGNS", .glo "MOST", .glo "MODES", .glo "Form", .glo "Book", .glo "Plan", .glo "BadRun"]
def hFa3 : List He.Fa := [.free "isinstance", .free "int", .free "bool", .free "tuple", .free "str", .free "len", .free "zip", .free "range", .free "list", .free "sorted", .free "all", .free "sum", .free "enumerate", .free "dict", .free "super", .int "MOST_FORMS" 12, .int "MOST_FUNCTIONS" 3, .int "MOST_BODIES" 3, .int "MOST_THINGS" 3, .int "MOST_RUN" 100, .cls "Form", .cls "Book", .cls "Plan", .noat "Form" "tree", .noat "Plan" "parts", .noat "Book" "parts", .mkr "Form", .mkr "Book", .mkr "Plan", .meth "Book" "__len__", .meth "Book" "__getitem__", .meth "Book" "__init__", .meth "Form" "__init__", .meth "Form" "numbers_of", .meth "Form" "__contains__"]
def hFa : List He.Fa := hFa1 ++ (hFa2 ++ hFa3)
/-! ### classes, tables -/
def insB (K : PySem.W.Frag) (C : Addr) : Bool := decide (PySem.W.findIn K (.ref C) "__class__" = some (some (.builtin "object.__class__"))) && (decide (PySem.W.mroIn K C (.type "object") = some true) && decide (PySem.W.kitOne K (.ref C) (.ref C) = some true))
def hSg1 : List (Str × He.Dv) := [("number", .str "n"), ("given", .str ""), ("setting", .str ""), ("column", .str "c"), ("kept", .str "c"), ("call", .str "nf"), ("sum", .str "ff"), ("less", .str "ff"), ("times", .str "ff"), ("same", .str "ff"), ("when", .str "fff")]
def hMo1 : List (Str × He.Dv) := [("n", .int 2), ("c", .int 1)]
def hTs : List He.Tab := [(fun K => He.ga K "SIGNS", hSg1.map (·.1)), (fun K => He.ga K "MOST", hMo1.map (·.1))]
def hTf : List He.Defn := [("called", none), ("law", none)]
/-! ### BadRun -/
def bdC (K : PySem.W.Frag) : Addr := He.ga K "BadRun"
def bdI (K : PySem.W.Frag) : Addr := He.ma K (bdC K) "__init__"
def bdCc (fd : FuncData) : Addr := match fd.closure with
  | [(_, c)] => c
  | _ => 0
def bdCd (fd : FuncData) : Addr := match fd.code with
  | .ref c => c
  | _ => 0
def bSt : Stmt := inClass (top 16) 0
def bdVal : Option (Str × Str × Arguments × FuncBody × Scope × Addr × List Str × Addr) := some ("__init__", "BadRun.__init__", defArgs bSt, .stmts (defBody bSt), defScope bSt, mainGlobals, ["__class__"], builtinsNs)
def bdObs (K : PySem.W.Frag) : Option (Str × Str × Arguments × FuncBody × Scope × Addr × List Str × Addr) := (fdAt K (bdI K)).map fnVal
def bdCls (K : PySem.W.Frag) (C : Addr) : Bool := match K.lookup C with
  | some ⟨.type "type", _, .cls cd, sl⟩ => (match cd.mro, sl.toList with
    | .ref C' :: bm, [_, _, _, _, some (.builtin n), _] => C' == C && (n == "ValueError.__new__" && (cd.hasDict && (!cd.hasDel && PySem.HandSPX.refsVE bm)))
    | _, _ => false)
  | _ => false
def bdCode (K : PySem.W.Frag) (c : Addr) (file : Str) : Bool := match K.lookup c with
  | some ⟨_, _, .fields vs, _⟩ => (match (vs[2]? : Option Value) with
    | some (.str f _) => f == file
    | _ => false)
  | _ => false
def bdCell (K : PySem.W.Frag) (cc C : Addr) : Bool := match K.lookup cc with
  | some ⟨_, _, .cell (some (.ref C')), _⟩ => C' == C
  | _ => false
def bdFn (K : PySem.W.Frag) (C : Addr) (file : Str) (fd : FuncData) : Bool := fnPl K "BadRun.__init__" fd && (bdCell K (bdCc fd) C && (bdCode K (bdCd fd) file && match fd.code with
  | .ref _ => true
  | _ => false))
def bdB (K : PySem.W.Frag) (file : Str) : Bool := bdCls K (bdC K) && ((fdAt K (bdI K)).any (bdFn K (bdC K) file) && (decide (PySem.W.findIn K (.ref (bdC K)) "__setattr__" = some (some (.builtin "object.__setattr__"))) && (decide (PySem.W.findIn K (.ref (bdC K)) "index" = some none) &&
  (decide (PySem.W.findIn K (.ref (bdC K)) "__init__" = some (some (.ref (bdI K)))) && (decide (PySem.W.typeIn K (.ref (bdI K)) = some (.type "function")) && (PySem.W.keepIn K (.ref (bdC K)) &&
  (decide (PySem.W.findIn K (.ref (bdC K)) "__getattribute__" = some (some (.builtin "BaseException.__getattribute__"))) && (decide (PySem.W.findIn K (.ref (bdC K)) "__getattr__" = some none) && (decide (PySem.W.subIn K (.ref (bdC K)) (.type "BaseException") = some true) && (PySem.W.hasDictIn K (bdC K) &&
  (decide (PySem.W.typeIn K (.ref (bdC K)) = some (.type "type")) && (decide (PySem.W.exmOne K (.ref (bdC K)) (.ref (bdC K)) = some true) && (decide (PySem.W.mroIn K (bdC K) (.ref (bdC K)) = some true) && (decide (PySem.W.subIn K (.ref (bdC K)) (.type "ValueError") = some true) &&
  (decide (PySem.W.ks_superIn K (bdC K) (bdC K) "__init__" = some (some (.builtin "ValueError.__init__"))) && decide (PySem.W.nsIn K cStatics "thirdparty.any" = some none))))))))))))))))
/-! ### all of it -/
def hEx (file : Str) (K : PySem.W.Frag) : Bool := hPr.all (PrD.ok K) && (insB K (He.ga K "Plan") && (insB K (He.ga K "Book") && (insB K (He.ga K "Form") && (He.valsB K (He.ga K "SIGNS") hSg1 && (He.valsB K (He.ga K "MOST") hMo1 && (He.tupB K "MODES" [.str "kept", .str "again", .str "check"] &&
  (bdB K file && !((He.cT K ("called", none)).2 == (He.cT K ("law", none)).2))))))))
abbrev ObsT : Type := He.AlT × Bool × List (Option (Str × Str × Arguments × FuncBody × Scope × Addr × List Str × Addr))
def obsK (file : Str) (g : Addr → Option Obj) (K : PySem.W.Frag) : ObsT := (He.obsT hFa hDf hTs K, hEx file K && He.tabsB g hTf K, bdObs K :: hPr.map (PrD.obs K))
def obsY (file : Str) (g : Addr → Option Obj) : ObsT := obsK file g (He.frT g (asY g))
def valY (w : World) : ObsT := (He.valT hDf hTs w, true, bdVal :: hPr.map PrD.val)
/-- what the end leans on -/
structure SaysY (file : Str) (w : World) (h : Heap) (K : PySem.W.Frag) : Prop where
  t : He.SaysT hFa hDf hTs w K
  more : hEx file K = true
  fns : bdObs K :: hPr.map (PrD.obs K) = bdVal :: hPr.map PrD.val
  tab : ∀ p ∈ hTf, PySem.W.codeHdIn K (He.cT K p).1 (He.cT K p).2 = true ∧ K.lookup (He.cT K p).2 = none ∧ h.get? (He.cT K p).2 = some { cls := .none, data := .fields #[] }
theorem says_of {file : Str} {w : World} {h : Heap} (e : obsY file h.get? = valY w) : SaysY file w h (He.frT h.get? (asY h.get?)) := by
  have e2 : (hEx file (He.frT h.get? (asY h.get?)) && He.tabsB h.get? hTf (He.frT h.get? (asY h.get?))) = true := congrArg (fun z : ObsT => z.2.1) e
  obtain ⟨a, b⟩ := Bool.and_eq_true_iff.mp e2
  refine ⟨congrArg (fun z : ObsT => z.1) e, a, congrArg (fun z : ObsT => z.2.2) e, fun p hp => ?_⟩
  obtain ⟨c1, c2⟩ := Bool.and_eq_true_iff.mp (List.all_eq_true.mp b p hp)
  cases ho : h.get? (He.cT (He.frT h.get? (asY h.get?)) p).2 with
  | none =>
    rw [ho] at c2
    cases c2
  | some o =>
    rw [ho] at c2
    exact ⟨c1, He.frT_none ho c2, by rw [He.emptyTab_eq c2]⟩
def hkY (file : Str) : PySem.W.Hook where
  α := ObsT
  obs := fun s => obsY file s.heap.get?
  val := valY
  says := fun w h => ∃ K : PySem.W.Frag, K.In h ∧ SaysY file w h K
  of := fun _ _ e => ⟨_, He.frT_in, says_of e⟩
  keeps := fun _ _ _ ⟨K, hK, c⟩ k => ⟨K, PySem.W.Frag.In.keeps hK k, ⟨c.t, c.more, c.fns, fun p hp => ⟨(c.tab p hp).1, (c.tab p hp).2.1, k _ _ (c.tab p hp).2.2⟩⟩⟩
end K5
end

section
set_option maxHeartbeats 0
/-! HQ: the run of the top. -/
namespace K5
open PySem PySem.W PySem.Calls PyProof.Rows
def loose0 : List PySem.Str := ["_wall", "__name__", "MeaningError", "BadBook", "BadPlan", "BadForm", "BadNumber", "BadWording", "BadSetting", "BadFunction", "BadBody", "BadThing", "BadDeed", "BadFree", "BadForget", "BadScene", "BadRun", "SIGNS", "MOST", "MOST_FORMS", "is_between", "count_in", "trees_in", "tuples_below", "tree_of", "Form", "comes_to", "MOST_FUNCTIONS", "MOST_BODIES", "has_numbers_of"]
def loose1 : List PySem.Str := ["is_body", "are_functions", "Book", "told_by", "check_book", "check_function", "check_body", "is_wording", "check_wording", "check_setting", "MODES", "MOST_THINGS", "is_form_of", "are_things", "is_rising", "Plan", "check_plan", "check_thing", "MOST_RUN", "is_rule", "check_rule", "first_of_scenes", "is_memory", "is_scene", "is_scene_deed", "called", "after_deed", "first_scene", "scene_after", "told_along"]
def loose2 : List PySem.Str := ["_law_number", "_law_tree", "_law_functions", "_law_some", "_law_plan", "_law_made", "_law_empty", "_law_calls", "_law_gone", "_law_kept", "_law_rows", "_law_plainly", "_law_scene_deeds", "_law_next", "_law_rule", "_law_scene", "_law_index"]
def looseY : List PySem.Str := loose0 ++ loose1 ++ loose2
abbrev RY : OpenRow := OpenLaw.row PySem.Challenge.rw_keptmeanings_k51_whole_memories
abbrev qY : Program := view RY.prog [82]
def fileY : PySem.Str := PySem.Str.ofString "/claim/cut.py"
abbrev hookY : Hook := hkY fileY
def obT (s : SharedT) : ObsT := obsY fileY (HandSHeadRun.getT s)
theorem obT_eq (s : SharedT) : obT s = hookY.obs s.abs := by
  have e : HandSHeadRun.getT s = s.abs.heap.get? := funext (HandSHeadRun.getT_eq s)
  unfold obT
  rw [e]
  rfl
theorem runF (w : World) : HandSHeadRun.RunEq RY qY hookY obT 12000 looseY (w.withFollow "special-get-raises" false) := by
  intro os
  kernel_rfl
theorem runT (w : World) : HandSHeadRun.RunEq RY qY hookY obT 12000 looseY (w.withFollow "special-get-raises" true) := by
  intro os
  kernel_rfl
theorem runY (w : World) : HandSHeadRun.RunEq RY qY hookY obT 12000 looseY w := byRow2 "special-get-raises" (P := fun w => HandSHeadRun.RunEq RY qY hookY obT 12000 looseY w) runF runT w
end K5
end

section
set_option maxHeartbeats 4000000
namespace K5
open PySem PySem.Spec L2
open PyProof.Rows hiding St
local macro_rules | `(tactic| walk_at "lf") => `(tactic| first
  | assumption
  | (refine Same.im (by assumption) ?_; walk_at "lf")
  | (refine Same.ims (by assumption) ?_; walk_at "lf")
  | (refine Same.at (by assumption) ?_; walk_at "lf")
  | (refine Same.sqT (by assumption) ?_; walk_at "lf")
  | (refine Same.seq (by assumption) ?_; walk_at "lf")
  | exact SqL.of (by walk_at "lf")
  | exact SqT.of (by walk_at "lf"))
local macro_rules | `(tactic| walk_at "st") => `(tactic| first
  | ((with_reducible refine r_var (v := ?vv) ?rv ?_); (case rv => exact rfl))
  | with_reducible first
    | refine r_seq ?_
    | refine r_asg ?_
    | refine r_gName ?_
    | refine r_c ?_
    | refine r_op ?_
    | refine r_I0 ?_
    | refine r_exbl ?_
    | refine r_cb ?_
    | refine r_nil ?_
    | refine r_cons ?_
    | refine r_test ?_
    | refine r_tB ?_
    | refine r_and ?_
    | refine r_or ?_
    | refine r_not ?_
    | refine r_if ?_
    | refine r_ret ?_
    | refine r_next ?_
    | refine r_tup ?_
    | refine r_lst ?_
    | refine r_int ?_
    | refine r_exint ?_
    | refine r_sl ?_
    | refine r_part ?_
    | refine r_nopart ?_
    | refine r_par ?_
    | refine r_ex2 ?_
    | refine r_call ?_
    | refine r_un ?_
    | refine r_U ?_
    | refine r_andV ?_
    | refine r_orV ?_
    | refine r_notV ?_
    | refine r_chain ?_
    | refine r_isN ?_
    | refine r_notN ?_
    | refine r_drop ?_
    | refine r_I (by decide) ?_
    | refine r_EqI ?_
    | refine r_NeI ?_
    | refine r_EqS ?_
    | refine r_NeS ?_
    | refine r_gSub ?_
    | refine r_gCons ?_
    | refine r_gNil ?_
    | refine r_dget ?_
    | refine r_pcons ?_
    | refine r_pnil ?_
    | refine iteT ?_
    | refine iteF ?_
    | refine iteNF ?_
    | refine iteNT ?_
    | refine r_prop ?_
    | refine r_dget2 ?_
    | refine r_din ?_
    | refine r_dput ?_
    | refine r_mk ?_
    | refine r_propG ?_
    | refine r_mtd ?_
    | refine r_bm ?_
    | refine r_si ?_
    | refine r_for ?_
    | refine r_lc ?_
    | refine r_iT ?_
    | refine r_iL ?_
    | refine r_enT ?_
    | refine r_zip ?_
    | refine r_zs ?_
    | refine r_iR1 ?_
    | refine r_yes ?_
    | refine r_fld ?_
    | refine r_star1 ?_
    | refine r_ctE ?_
    | refine r_div (by decide) (by decide) ?_
    | refine r_mulL (by decide) (by decide) ?_
    | refine r_mulR (by decide) (by decide) ?_)
local macro_rules | `(tactic| walk_at "tq") => `(tactic| ((repeat walk_at "st"); first
  | assumption
  | (refine q_decT (by omega) (by assumption))
  | (refine q_decF (by omega) (by assumption))
  | (refine q_nT (by omega) (by assumption))
  | (refine q_nF (by omega) (by assumption))
  | (refine ite_dec (fun _ => ?_) (fun _ => ?_) <;> first | (exfalso; omega) | walk_at "tq")
  | (refine ite_ndec (fun _ => ?_) (fun _ => ?_) <;> first | (exfalso; omega) | walk_at "tq")))
/-! ### _law_number -/
def cellsOf (ns : List Int) : List Int := if ns = [] then [5] else ns
def lnum (ns : List Int) (ix : Int) : Int :=
  let cells := cellsOf ns
  let cell := cells.getD (ix % cells.length).toNat 0 + 13 * (ix / cells.length)
  let low := cell % 1000003
  let high := cell / 1000003 % 999983
  let total := cells.sum % 65521
  let blend := ((low + 977 * ix) * 48271 + 31 * high + total) % 2147483647
  (blend * (blend + 31 * ix + 7)) % 2147483629 * 65537 + high
theorem cells_ne (ns : List Int) : cellsOf ns ≠ [] := by
  unfold cellsOf
  split
  · simp
  · assumption
def spNum (K : PySem.W.Frag) : Sp := fun vs H Q _ => ∃ (a : Addr) (ns : List Int) (i : Int), vs = [.ref a, .int i] ∧ SqL K H a (ns.map V.int) ∧ ns.length ≤ 63 ∧ ∀ H', Same H H' → Q (.int (lnum ns i)) H'
section
variable {P : Program} {w : World} {K : PySem.W.Frag} {mg : Str → Option Value} {base : Heap}
theorem scNum : FnScope ["script", "index", "cells", "cell", "low", "high", "total", "blend"] ["script", "index"] (defScope (top 65)) := ⟨rfl, rfl, rfl, by decide +kernel, rfl, by decide +kernel, by decide +kernel⟩
theorem ok_num (B : Bf mg) (D : Df K mg "_law_number" (top 65)) : Cal P w K mg base "_law_number" 1 ["script", "index"] (spNum K) := by
  refine D.cal scNum (fun _ _ _ _ _ _ us hl => match us, hl with | [_, _], _ => rfl) (fun vs H Q E h => ?_) (fun f cdv A outer s H vs Q E hr h => ?_)
  · obtain ⟨a, ns, i, rfl, _⟩ := h
    rfl
  · obtain ⟨a, ns, i, rfl, hS, hl, q⟩ := h
    refine ⟨_, (pss_cons (ps_set (i := 2) scNum.nd rfl (by first | exact Or.inl rfl | exact Or.inr rfl) (pe_ifExp (pt_cmpR (op_neD hr.units) (pv 0) (pe_lst pa_nil) (nomark _)) (pe_slice sl_list (pv 0) po_none (po_some pe_int)) (pe_lst (pa_cons pe_int pa_nil))))
      (pss_cons (ps_set (i := 3) scNum.nd rfl (by first | exact Or.inl rfl | exact Or.inr rfl) (pe_op op_add (pe_ix ix_list (pv 2) (pe_op op_mod (pe_callTy c_int (by rfl) (B _ (by decide)) b_int (pa_cons (pv 1) pa_nil)) (pe_callB c_len (by rfl) (B _ (by decide)) b_len (pa_cons (pv 2) pa_nil))) (fun _ _ => rfl)) (pe_op op_mul pe_int (pe_op op_fdiv (pv 1) (pe_callB c_len (by rfl) (B _ (by decide)) b_len (pa_cons (pv 2) pa_nil))))))
      (pss_cons (ps_par (i := 4) (j := 5) rfl scNum.nd rfl rfl (by decide) rfl rfl (pa_cons (pe_op op_mod (pe_callTy c_int (by rfl) (B _ (by decide)) b_int (pa_cons (pv 3) pa_nil)) pe_int) (pa_cons (pe_op op_mod (pe_callTy c_int (by rfl) (B _ (by decide)) b_int (pa_cons (pe_op op_fdiv (pv 3) pe_int) pa_nil)) pe_int) pa_nil)) rfl)
      (pss_cons (ps_set (i := 6) scNum.nd rfl (by first | exact Or.inl rfl | exact Or.inr rfl) (pe_op op_mod (pe_callTy c_int (by rfl) (B _ (by decide)) b_int (pa_cons (pe_callB (cr_sum rfl) (by rfl) (B _ (by decide)) b_sum (pa_cons (pv 2) pa_nil)) pa_nil)) pe_int))
      (pss_cons (ps_set (i := 7) scNum.nd rfl (by first | exact Or.inl rfl | exact Or.inr rfl) (pe_op op_mod (pe_callTy c_int (by rfl) (B _ (by decide)) b_int (pa_cons (pe_op op_add (pe_op op_add (pe_op op_mul (pe_op op_add (pv 4) (pe_op op_mul pe_int (pv 1))) pe_int) (pe_op op_mul pe_int (pv 5))) (pv 6)) pa_nil)) pe_int))
      (pss_one (ps_ret (pe_op op_add (pe_op op_mul (pe_op op_mod (pe_callTy c_int (by rfl) (B _ (by decide)) b_int (pa_cons (pe_op op_mul (pv 7) (pe_op op_add (pe_op op_add (pv 7) (pe_op op_mul pe_int (pv 1))) pe_int)) pa_nil)) pe_int) pe_int) (pv 5))))))))), ?_⟩
    refine r_seq (r_asg ?_)
    refine r_cut (fun v H' => ∃ l, v = .ref l ∧ Same H H' ∧ SqL K H' l ((cellsOf ns).map V.int)) (fun Q' hQ => ?_) ?_
    · repeat walk_at "st"
      refine r_newL (Nat.zero_le _) fun p H1 np s1 e1 => ?_
      refine r_neD (.lst (s1.seq hS) (dpAll_ints ns)) (.lst (.of e1) .nil) (shaped_ints ns) shaped_nil ?_
      rw [eqv_ints_nil]
      refine r_exbl ?_
      cases ns with
      | nil =>
        refine iteF ?_
        repeat walk_at "st"
        refine r_newL (by show 1 ≤ sizeLine; decide) fun p2 H2 np2 s2 e2 => ?_
        exact hQ _ _ ⟨p2, rfl, s1.trans s2, .of e2⟩
      | cons n r =>
        refine iteT ?_
        repeat walk_at "st"
        refine r_slL (s1.seq hS) fun p2 H2 np2 s2 e2 => ?_
        rw [cut_to _ 63 (by rw [List.length_map]; exact Int.ofNat_le.mpr hl)] at e2
        exact hQ _ _ ⟨p2, rfl, s1.trans s2, .of e2⟩
    · rintro v H1 ⟨l, rfl, s1, hC⟩
      have hne := cells_ne ns
      have hpos : 0 < ((cellsOf ns).length : Int) := by
        have := List.length_pos_iff.mpr hne
        omega
      have hcl : (cellsOf ns).length ≤ 63 := by
        unfold cellsOf
        split
        · decide
        · exact hl
      have hm0 : 0 ≤ i % ((cellsOf ns).length : Int) := Int.emod_nonneg _ (by omega)
      have hm1 : i % ((cellsOf ns).length : Int) < (cellsOf ns).length := Int.emod_lt_of_pos _ hpos
      repeat walk_at "st"
      refine r_lenL hC (List.length_map _) (r_I hpos (r_ixL hC (atI_ints hm0 hm1) ?_))
      repeat walk_at "st"
      refine r_lenL hC (List.length_map _) (r_I ⟨hpos, by omega⟩ (r_I (.inl (by decide)) ?_))
      repeat walk_at "st"
      refine r_sum hC ?_
      repeat walk_at "st"
      generalize hbl : (_ : Int) % 2147483647 = bl
      have hb0 : 0 ≤ bl := by rw [← hbl]; exact Int.emod_nonneg _ (by decide)
      have hb1 : bl < 2147483647 := by rw [← hbl]; exact Int.emod_lt_of_pos _ (by decide)
      refine r_mulL (by omega) (by omega) ?_
      repeat walk_at "st"
      have e : lnum ns i = _ := rfl
      rw [← hbl]
      exact q _ s1
end
end K5
end

section
set_option maxHeartbeats 4000000
namespace K5
open PySem PySem.Spec L2
open PyProof.Rows hiding St
local macro_rules | `(tactic| walk_at "lf") => `(tactic| first
  | assumption
  | (refine Same.im (by assumption) ?_; walk_at "lf")
  | (refine Same.ims (by assumption) ?_; walk_at "lf")
  | (refine Same.at (by assumption) ?_; walk_at "lf")
  | (refine Same.sqT (by assumption) ?_; walk_at "lf")
  | (refine Same.seq (by assumption) ?_; walk_at "lf")
  | exact SqL.of (by walk_at "lf")
  | exact SqT.of (by walk_at "lf"))
local macro_rules | `(tactic| walk_at "st") => `(tactic| first
  | ((with_reducible refine r_var (v := ?vv) ?rv ?_); (case rv => exact rfl))
  | with_reducible first
    | refine r_seq ?_
    | refine r_asg ?_
    | refine r_gName ?_
    | refine r_c ?_
    | refine r_op ?_
    | refine r_I0 ?_
    | refine r_exbl ?_
    | refine r_cb ?_
    | refine r_nil ?_
    | refine r_cons ?_
    | refine r_test ?_
    | refine r_tB ?_
    | refine r_and ?_
    | refine r_or ?_
    | refine r_not ?_
    | refine r_if ?_
    | refine r_ret ?_
    | refine r_next ?_
    | refine r_tup ?_
    | refine r_lst ?_
    | refine r_int ?_
    | refine r_exint ?_
    | refine r_sl ?_
    | refine r_part ?_
    | refine r_nopart ?_
    | refine r_par ?_
    | refine r_ex2 ?_
    | refine r_call ?_
    | refine r_un ?_
    | refine r_U ?_
    | refine r_andV ?_
    | refine r_orV ?_
    | refine r_notV ?_
    | refine r_chain ?_
    | refine r_isN ?_
    | refine r_notN ?_
    | refine r_drop ?_
    | refine r_I (by decide) ?_
    | refine r_EqI ?_
    | refine r_NeI ?_
    | refine r_EqS ?_
    | refine r_NeS ?_
    | refine r_gSub ?_
    | refine r_gCons ?_
    | refine r_gNil ?_
    | refine r_dget ?_
    | refine r_pcons ?_
    | refine r_pnil ?_
    | refine iteT ?_
    | refine iteF ?_
    | refine iteNF ?_
    | refine iteNT ?_
    | refine r_prop ?_
    | refine r_dget2 ?_
    | refine r_din ?_
    | refine r_dput ?_
    | refine r_mk ?_
    | refine r_propG ?_
    | refine r_mtd ?_
    | refine r_bm ?_
    | refine r_si ?_
    | refine r_for ?_
    | refine r_lc ?_
    | refine r_iT ?_
    | refine r_iL ?_
    | refine r_enT ?_
    | refine r_zip ?_
    | refine r_zs ?_
    | refine r_iR1 ?_
    | refine r_yes ?_
    | refine r_fld ?_
    | refine r_star1 ?_
    | refine r_ctE ?_
    | refine r_div (by decide) (by decide) ?_
    | refine r_mulL (by decide) (by decide) ?_
    | refine r_mulR (by decide) (by decide) ?_)
local macro_rules | `(tactic| walk_at "tq") => `(tactic| ((repeat walk_at "st"); first
  | assumption
  | (refine q_decT (by omega) (by assumption))
  | (refine q_decF (by omega) (by assumption))
  | (refine q_nT (by omega) (by assumption))
  | (refine q_nF (by omega) (by assumption))
  | (refine ite_dec (fun _ => ?_) (fun _ => ?_) <;> first | (exfalso; omega) | walk_at "tq")
  | (refine ite_ndec (fun _ => ?_) (fun _ => ?_) <;> first | (exfalso; omega) | walk_at "tq")))
/-! ### trees -/
inductive Tr where
  | num (n : Int) | given | setting | col (c : Int) | kept (t : Int)
  | call (k : Nat) (t : Tr)
  | two (o : Nat) (a b : Tr)
  | cond (a b c : Tr)
  deriving DecidableEq
instance : Inhabited Tr := ⟨.given⟩
def opN : Nat → Str
  | 0 => "sum"
  | 1 => "less"
  | 2 => "times"
  | _ => "same"
def enc : Tr → PyData
  | .num n => .tuple [.str "number", .int n]
  | .given => .tuple [.str "given"]
  | .setting => .tuple [.str "setting"]
  | .col c => .tuple [.str "column", .int c]
  | .kept t => .tuple [.str "kept", .int t]
  | .call k t => .tuple [.str "call", .int k, enc t]
  | .two o a b => .tuple [.str (opN o), enc a, enc b]
  | .cond a b c => .tuple [.str "when", enc a, enc b, enc c]
theorem opN_at {j : Int} (h0 : 0 ≤ j) (h1 : j < 4) : atI [V.str "sum", V.str "less", V.str "times", V.str "same"] j = some (.str (opN j.toNat)) := by
  have h : j = 0 ∨ j = 1 ∨ j = 2 ∨ j = 3 := by omega
  rcases h with rfl | rfl | rfl | rfl <;> rfl
def pick {α : Type} [Inhabited α] (l : List α) (i : Int) : α := l.getD (i % l.length).toNat default
/-- the drawn tree -/
def ltree (ns : List Int) (leaves : List Tr) (calls : List Nat) (size : Nat) (spot : Int) : Tr :=
  if size < 2 ∨ lnum ns spot % 7 = 0 then pick leaves (lnum ns spot / 7)
  else if calls ≠ [] ∧ (lnum ns spot / 7 % 8 < 3 ∨ size < 3) then .call (pick calls (lnum ns spot / 56)) (ltree ns leaves calls (size - 1) (spot + 1))
  else if size < 3 then pick leaves (lnum ns spot / 56)
  else if lnum ns spot / 7 % 8 = 3 ∧ 3 < size then
    .cond (ltree ns leaves calls ((size - 1) / 3) (spot + 1)) (ltree ns leaves calls ((size - 1) / 3) (spot + 15)) (ltree ns leaves calls (size - 1 - 2 * ((size - 1) / 3)) (spot + 29))
  else
    .two (lnum ns spot / 56 % 4).toNat (ltree ns leaves calls (1 + (lnum ns spot / 56 / 4 % (size - 2 : Nat)).toNat) (spot + 1))
      (ltree ns leaves calls (size - 1 - (1 + (lnum ns spot / 56 / 4 % (size - 2 : Nat)).toNat)) (spot + 2 + (1 + (lnum ns spot / 56 / 4 % (size - 2 : Nat)).toNat : Nat)))
termination_by size
decreasing_by
  all_goals first | omega | skip
  all_goals
    have h1 : 0 ≤ lnum ns spot / 56 / 4 % ((size - 2 : Nat) : Int) := Int.emod_nonneg _ (by omega)
    have h2 : lnum ns spot / 56 / 4 % ((size - 2 : Nat) : Int) < ((size - 2 : Nat) : Int) := Int.emod_lt_of_pos _ (by omega)
    omega
theorem pick_at {α : Type} [Inhabited α] {l : List α} (h : l ≠ []) (i : Int) : 0 ≤ i % (l.length : Int) ∧ l[(i % (l.length : Int)).toNat]? = some (pick l i) := by
  have hp := List.length_pos_iff.mpr h
  have h0 : 0 ≤ i % (l.length : Int) := Int.emod_nonneg _ (by omega)
  have h1 : i % (l.length : Int) < l.length := Int.emod_lt_of_pos _ (by omega)
  have h2 : (i % (l.length : Int)).toNat < l.length := by omega
  refine ⟨h0, ?_⟩
  unfold pick
  rw [List.getD_eq_getElem?_getD, List.getElem?_eq_getElem h2]
  rfl
theorem pick_mem {α : Type} [Inhabited α] {l : List α} (h : l ≠ []) (i : Int) : pick l i ∈ l := List.mem_of_getElem? (pick_at h i).2
/-- an item of a list of data -/
theorem im_pick {H : Hp} {xs : List V} {l : List Tr} (a : ImAll H xs (l.map enc)) (h : l ≠ []) (i : Int) : ∃ v, atI xs (i % (l.length : Int)) = some v ∧ Im H v (enc (pick l i)) := by
  obtain ⟨h0, h1⟩ := pick_at h i
  obtain ⟨v, hv, im⟩ := a.get (i := (i % (l.length : Int)).toNat) (d := enc (pick l i)) (by rw [List.getElem?_map, h1]; rfl)
  refine ⟨v, ?_, im⟩
  have e := atI_nat hv
  rwa [Int.toNat_of_nonneg h0] at e
def spTree (K : PySem.W.Frag) (n : Nat) : Sp := fun vs H Q _ => ∃ (a L C : Addr) (ns : List Int) (spot : Int) (size : Nat) (xs : List V) (leaves : List Tr) (calls : List Nat), vs = [.ref a, .int spot, .int size, .ref L, .ref C] ∧
  SqL K H a (ns.map V.int) ∧ ns.length ≤ 63 ∧ size < n ∧ H L = some (.lst xs) ∧ ImAll H xs (leaves.map enc) ∧ leaves ≠ [] ∧ leaves.length ≤ 1000 ∧ H C = some (.lst (calls.map nI)) ∧ calls.length ≤ 1000 ∧
  ∀ v H', Same H H' → Im H' v (enc (ltree ns leaves calls size spot)) → Q v H'
theorem nat_pick {l : List Nat} (h : l ≠ []) (i : Int) : atI (l.map nI) (i % (l.length : Int)) = some (.int (pick l i : Nat)) := by
  obtain ⟨h0, h1⟩ := pick_at h i
  exact atI_map nI h0 h1
section
variable {P : Program} {w : World} {K : PySem.W.Frag} {mg : Str → Option Value} {base : Heap}
theorem r_num {a : Addr} {ns : List Int} {i : Int} {H : Hp} {Q : VK} {E : XK} (hS : SqL K H a (ns.map V.int)) (hl : ns.length ≤ 63) (q : ∀ H', Same H H' → Q (.int (lnum ns i)) H') : spNum K [.ref a, .int i] H Q E := ⟨a, ns, i, rfl, hS, hl, q⟩
theorem r_tree {n m : Nat} {a L C : Addr} {ns : List Int} {spot z : Int} {xs : List V} {leaves : List Tr} {calls : List Nat} {H : Hp} {Q : VK} {E : XK} (hS : SqL K H a (ns.map V.int)) (hl : ns.length ≤ 63) (hL : H L = some (.lst xs)) (hI : ImAll H xs (leaves.map enc)) (hne : leaves ≠ [])
    (hLl : leaves.length ≤ 1000) (hC : H C = some (.lst (calls.map nI))) (hCl : calls.length ≤ 1000) (hz : z = (m : Int)) (hm : m < n) (q : ∀ v H', Same H H' → Im H' v (enc (ltree ns leaves calls m spot)) → Q v H') : spTree K n [.ref a, .int spot, .int z, .ref L, .ref C] H Q E :=
  ⟨a, L, C, ns, spot, m, xs, leaves, calls, by rw [hz], hS, hl, hm, hL, hI, hne, hLl, hC, hCl, q⟩
theorem scTree : FnScope ["script", "at", "size", "leaves", "calls", "seed", "kind", "rest", "part", "test", "one", "left", "other"] ["script", "at", "size", "leaves", "calls"] (defScope (top 66)) := ⟨rfl, rfl, rfl, by decide +kernel, rfl, by decide +kernel, by decide +kernel⟩
theorem tree_step (B : Bf mg) (D : Df K mg "_law_tree" (top 66)) (cNum : Cal P w K mg base "_law_number" 1 ["script", "index"] (spNum K)) (n : Nat) (cTree : Cal P w K mg base "_law_tree" (n + 1) ["script", "at", "size", "leaves", "calls"] (spTree K n)) :
    Cal P w K mg base "_law_tree" (n + 1 + 1) ["script", "at", "size", "leaves", "calls"] (spTree K (n + 1)) := by
  refine D.cal scTree (fun _ _ _ _ _ _ us hl => match us, hl with | [_, _, _, _, _], _ => rfl) (fun vs H Q E h => ?_) (fun f cdv A outer s H vs Q E hr h => ?_)
  · obtain ⟨a, L, C, ns, spot, size, xs, leaves, calls, rfl, _⟩ := h
    rfl
  · obtain ⟨a, L, C, ns, spot, size, xs, leaves, calls, rfl, hS, hl, hn, hL, hI, hne, hLl, hC, hCl, q⟩ := h
    refine ⟨_, (pss_cons (ps_set (i := 5) scTree.nd rfl (by first | exact Or.inl rfl | exact Or.inr rfl) (pe_callTy c_int (by rfl) (B _ (by decide)) b_int (pa_cons (pe_cal cNum hr (by omega) (pa_cons (pv 0) (pa_cons (pv 1) pa_nil))) pa_nil)))
      (pss_cons (ps_if (pw_or (pt_cmpR op_lt (pv 2) pe_int (nomark _)) (pw_or1 (pt_cmpR op_eq (pe_op op_mod (pe_callTy c_int (by rfl) (B _ (by decide)) b_int (pa_cons (pv 5) pa_nil)) pe_int) pe_int (nomark _)))).pt
        (pss_one (ps_ret (pe_ix ix_list (pv 3) (pe_op op_mod (pe_callTy c_int (by rfl) (B _ (by decide)) b_int (pa_cons (pe_op op_fdiv (pv 5) pe_int) pa_nil)) (pe_callB c_len (by rfl) (B _ (by decide)) b_len (pa_cons (pv 3) pa_nil))) (fun _ _ => rfl))))
        pss_nil)
      (pss_cons (ps_par (i := 6) (j := 7) rfl scTree.nd rfl rfl (by decide) rfl rfl (pa_cons (pe_op op_mod (pe_callTy c_int (by rfl) (B _ (by decide)) b_int (pa_cons (pe_op op_fdiv (pv 5) pe_int) pa_nil)) pe_int) (pa_cons (pe_op op_fdiv (pv 5) pe_int) pa_nil)) rfl)
      (pss_cons (ps_if (pw_and (pt_cmpR (op_neD hr.units) (pv 4) (pe_lst pa_nil) (nomark _)) (pw_and1 (pw_or (pt_cmpR op_lt (pv 6) pe_int (nomark _)) (pw_or1 (pt_cmpR op_lt (pv 2) pe_int (nomark _)))).pt)).pt
        (pss_one (ps_ret (pe_tup (pa_cons pe_str (pa_cons (pe_ix ix_list (pv 4) (pe_op op_mod (pe_callTy c_int (by rfl) (B _ (by decide)) b_int (pa_cons (pv 7) pa_nil)) (pe_callB c_len (by rfl) (B _ (by decide)) b_len (pa_cons (pv 4) pa_nil))) (fun _ _ => rfl)) (pa_cons (pe_cal cTree hr (by omega) (pa_cons (pv 0) (pa_cons (pe_op op_add (pv 1) pe_int) (pa_cons (pe_op op_sub (pv 2) pe_int) (pa_cons (pv 3) (pa_cons (pv 4) pa_nil)))))) pa_nil))))))
        pss_nil)
      (pss_cons (ps_if (pt_cmpR op_lt (pv 2) pe_int (nomark _))
        (pss_one (ps_ret (pe_ix ix_list (pv 3) (pe_op op_mod (pe_callTy c_int (by rfl) (B _ (by decide)) b_int (pa_cons (pv 7) pa_nil)) (pe_callB c_len (by rfl) (B _ (by decide)) b_len (pa_cons (pv 3) pa_nil))) (fun _ _ => rfl))))
        pss_nil)
      (pss_cons (ps_if (pw_and (pt_cmpR op_eq (pv 6) pe_int (nomark _)) (pw_and1 (pt_cmpR op_gt (pv 2) pe_int (nomark _)))).pt
        (pss_cons (ps_set (i := 8) scTree.nd rfl (by first | exact Or.inl rfl | exact Or.inr rfl) (pe_op op_fdiv (pe_op op_sub (pv 2) pe_int) pe_int))
        (pss_cons (ps_set (i := 9) scTree.nd rfl (by first | exact Or.inl rfl | exact Or.inr rfl) (pe_cal cTree hr (by omega) (pa_cons (pv 0) (pa_cons (pe_op op_add (pv 1) pe_int) (pa_cons (pv 8) (pa_cons (pv 3) (pa_cons (pv 4) pa_nil)))))))
        (pss_cons (ps_set (i := 10) scTree.nd rfl (by first | exact Or.inl rfl | exact Or.inr rfl) (pe_cal cTree hr (by omega) (pa_cons (pv 0) (pa_cons (pe_op op_add (pv 1) pe_int) (pa_cons (pv 8) (pa_cons (pv 3) (pa_cons (pv 4) pa_nil)))))))
        (pss_one (ps_ret (pe_tup (pa_cons pe_str (pa_cons (pv 9) (pa_cons (pv 10) (pa_cons (pe_cal cTree hr (by omega) (pa_cons (pv 0) (pa_cons (pe_op op_add (pv 1) pe_int) (pa_cons (pe_op op_sub (pe_op op_sub (pv 2) pe_int) (pe_op op_mul pe_int (pv 8))) (pa_cons (pv 3) (pa_cons (pv 4) pa_nil)))))) pa_nil))))))))))
        pss_nil)
      (pss_cons (ps_set (i := 11) scTree.nd rfl (by first | exact Or.inl rfl | exact Or.inr rfl) (pe_op op_add pe_int (pe_op op_mod (pe_callTy c_int (by rfl) (B _ (by decide)) b_int (pa_cons (pe_op op_fdiv (pv 7) pe_int) pa_nil)) (pe_op op_sub (pv 2) pe_int))))
      (pss_cons (ps_set (i := 10) scTree.nd rfl (by first | exact Or.inl rfl | exact Or.inr rfl) (pe_cal cTree hr (by omega) (pa_cons (pv 0) (pa_cons (pe_op op_add (pv 1) pe_int) (pa_cons (pv 11) (pa_cons (pv 3) (pa_cons (pv 4) pa_nil)))))))
      (pss_cons (ps_set (i := 12) scTree.nd rfl (by first | exact Or.inl rfl | exact Or.inr rfl) (pe_cal cTree hr (by omega) (pa_cons (pv 0) (pa_cons (pe_op op_add (pe_op op_add (pv 1) pe_int) (pv 11)) (pa_cons (pe_op op_sub (pe_op op_sub (pv 2) pe_int) (pv 11)) (pa_cons (pv 3) (pa_cons (pv 4) pa_nil)))))))
      (pss_one (ps_ret (pe_tup (pa_cons (pe_ix ix_tup (pe_tup (pa_cons pe_str (pa_cons pe_str (pa_cons pe_str (pa_cons pe_str pa_nil))))) (pe_op op_mod (pe_callTy c_int (by rfl) (B _ (by decide)) b_int (pa_cons (pv 7) pa_nil)) pe_int) (fun _ _ => rfl)) (pa_cons (pv 10) (pa_cons (pv 12) pa_nil))))))))))))))), ?_⟩
    repeat walk_at "st"
    refine r_num hS hl fun H1 s1 => ?_
    repeat walk_at "st"
    rw [ltree] at q
    by_cases c1 : size < 2 ∨ lnum ns spot % 7 = 0
    · rw [if_pos c1] at q
      obtain ⟨v, hv, im⟩ := im_pick hI hne (lnum ns spot / 7)
      have hp : 0 < (leaves.length : Int) := by
        have := List.length_pos_iff.mpr hne
        omega
      refine t_ifY (fun Q' k => by walk_at "tq") ?_
      · repeat walk_at "st"
        refine r_lenL (.of (s1.at hL)) (by rw [hI.length, List.length_map]) (r_I hp (r_ixL (.of (s1.at hL)) hv ?_))
        exact q v H1 s1 (s1.im im)
    rw [if_neg c1] at q
    refine t_ifN (fun Q' k => by walk_at "tq") ?_
    repeat walk_at "st"
    have hcn : calls = [] ↔ calls.isEmpty = true := List.isEmpty_iff.symm
    by_cases c2 : calls ≠ [] ∧ (lnum ns spot / 7 % 8 < 3 ∨ size < 3)
    · rw [if_pos c2] at q
      refine t_ifYS (fun Q' k => ?_) fun H2 s2 => ?_
      · repeat walk_at "st"
        refine r_newL (Nat.zero_le _) fun p H2 np s2 e2 => ?_
        refine r_neD (.lst (.of (s2.at (s1.at hC))) (dpAll_nats calls)) (.lst (.of e2) .nil) (shaped_nats calls) shaped_nil ?_
        rw [eqv_nats_nil]
        have k2 := k H2 s2
        refine r_exbl ?_
        rw [if_pos (by simp [c2.1])]
        walk_at "tq"
      · have s02 := s1.trans s2
        repeat walk_at "st"
        have hp : 0 < (calls.length : Int) := by
          have := List.length_pos_iff.mpr c2.1
          omega
        refine r_lenL (.of (s02.at hC)) (List.length_map _) (r_I hp (r_ixL (.of (s02.at hC)) (nat_pick c2.1 _) ?_))
        repeat walk_at "st"
        refine r_tree (m := size - 1) (s02.seq hS) hl (s02.at hL) (s02.ims hI) hne hLl (s02.at hC) hCl (by omega) (by omega) fun v H3 s3 im => ?_
        repeat walk_at "st"
        refine r_newI (by show 3 ≤ sizeLine; decide) (.cons (.str _) (.cons (.int _) (.cons im .nil))) fun p H4 np s4 im4 => ?_
        refine q _ _ (s02.trans (s3.trans s4)) ?_
        simpa only [enc] using im4
    rw [if_neg c2] at q
    refine t_ifNS (fun Q' k => ?_) fun H2 s2 => ?_
    · repeat walk_at "st"
      refine r_newL (Nat.zero_le _) fun p H2 np s2 e2 => ?_
      refine r_neD (.lst (.of (s2.at (s1.at hC))) (dpAll_nats calls)) (.lst (.of e2) .nil) (shaped_nats calls) shaped_nil ?_
      rw [eqv_nats_nil]
      have k2 := k H2 s2
      refine r_exbl ?_
      cases hce : calls.isEmpty with
      | true => exact k2
      | false =>
        have hc' : calls ≠ [] := fun z => by
          rw [hcn.mp z] at hce
          cases hce
        have h3 : ¬ (lnum ns spot / 7 % 8 < 3 ∨ size < 3) := fun z => c2 ⟨hc', z⟩
        refine iteT ?_
        walk_at "tq"
    have s02 := s1.trans s2
    repeat walk_at "st"
    by_cases c3 : size < 3
    · rw [if_pos c3] at q
      refine t_ifY (fun Q' k => by walk_at "tq") ?_
      obtain ⟨v, hv, im⟩ := im_pick hI hne (lnum ns spot / 56)
      have hp : 0 < (leaves.length : Int) := by
        have := List.length_pos_iff.mpr hne
        omega
      repeat walk_at "st"
      refine r_lenL (.of (s02.at hL)) (by rw [hI.length, List.length_map]) (r_I hp (r_ixL (.of (s02.at hL)) hv ?_))
      exact q v H2 s02 (s02.im im)
    rw [if_neg c3] at q
    refine t_ifN (fun Q' k => by walk_at "tq") ?_
    repeat walk_at "st"
    by_cases c4 : lnum ns spot / 7 % 8 = 3 ∧ 3 < size
    · rw [if_pos c4] at q
      refine t_ifY (fun Q' k => by walk_at "tq") ?_
      repeat walk_at "st"
      refine r_tree (m := (size - 1) / 3) (s02.seq hS) hl (s02.at hL) (s02.ims hI) hne hLl (s02.at hC) hCl (by omega) (by omega) fun v1 H3 s3 im1 => ?_
      have s03 := s02.trans s3
      repeat walk_at "st"
      refine r_tree (m := (size - 1) / 3) (s03.seq hS) hl (s03.at hL) (s03.ims hI) hne hLl (s03.at hC) hCl (by omega) (by omega) fun v2 H4 s4 im2 => ?_
      have s04 := s03.trans s4
      repeat walk_at "st"
      refine r_tree (m := size - 1 - 2 * ((size - 1) / 3)) (s04.seq hS) hl (s04.at hL) (s04.ims hI) hne hLl (s04.at hC) hCl (by omega) (by omega) fun v3 H5 s5 im3 => ?_
      repeat walk_at "st"
      refine r_newI (by show 4 ≤ sizeLine; decide) (.cons (.str _) (.cons (s5.im (s4.im im1)) (.cons (s5.im im2) (.cons im3 .nil)))) fun p H6 np s6 im6 => ?_
      refine q _ _ (s04.trans (s5.trans s6)) ?_
      simpa only [enc] using im6
    rw [if_neg c4] at q
    refine t_ifN (fun Q' k => by walk_at "tq") ?_
    repeat walk_at "st"
    have e2 : ((size - 2 : Nat) : Int) = (size : Int) - 2 := by omega
    rw [e2] at q
    refine r_I (by omega) ?_
    have hr0 : 0 ≤ lnum ns spot / 56 / 4 % ((size : Int) - 2) := Int.emod_nonneg _ (by omega)
    have hr1 : lnum ns spot / 56 / 4 % ((size : Int) - 2) < (size : Int) - 2 := Int.emod_lt_of_pos _ (by omega)
    generalize lnum ns spot / 56 / 4 % ((size : Int) - 2) = r at q hr0 hr1 ⊢
    have hk0 : 0 ≤ lnum ns spot / 56 % 4 := Int.emod_nonneg _ (by decide)
    have hk1 : lnum ns spot / 56 % 4 < 4 := Int.emod_lt_of_pos _ (by decide)
    repeat walk_at "st"
    refine r_tree (m := 1 + r.toNat) (s02.seq hS) hl (s02.at hL) (s02.ims hI) hne hLl (s02.at hC) hCl (by omega) (by omega) fun v1 H3 s3 im1 => ?_
    have s03 := s02.trans s3
    repeat walk_at "st"
    refine r_tree (m := size - 1 - (1 + r.toNat)) (s03.seq hS) hl (s03.at hL) (s03.ims hI) hne hLl (s03.at hC) hCl (by omega) (by omega) fun v2 H4 s4 im2 => ?_
    have s04 := s03.trans s4
    repeat walk_at "st"
    refine r_newT (by show 4 ≤ sizeLine; decide) fun p H5 np s5 e5 => ?_
    repeat walk_at "st"
    refine r_ixT (.of e5) (opN_at hk0 hk1) ?_
    repeat walk_at "st"
    refine r_newI (by show 3 ≤ sizeLine; decide) (.cons (.str _) (.cons (s5.im (s4.im im1)) (.cons (s5.im im2) .nil))) fun p6 H6 np6 s6 im6 => ?_
    refine q _ _ (s04.trans (s5.trans s6)) ?_
    have e3 : spot + 2 + ((1 + r.toNat : Nat) : Int) = spot + 2 + (1 + r) := by omega
    rw [e3]
    simpa only [enc] using im6
theorem tree_all (B : Bf mg) (D : Df K mg "_law_tree" (top 66)) (cNum : Cal P w K mg base "_law_number" 1 ["script", "index"] (spNum K)) : ∀ n : Nat, Cal P w K mg base "_law_tree" (n + 1) ["script", "at", "size", "leaves", "calls"] (spTree K n)
  | 0 => D.never (fun _ _ _ _ _ _ us hl => match us, hl with | [_, _, _, _, _], _ => rfl) fun vs H Q E h => by
    obtain ⟨a, L, C, ns, spot, size, xs, leaves, calls, _, _, _, hn, _⟩ := h
    omega
  | n + 1 => tree_step B D cNum n (tree_all B D cNum n)
/-- trees of at most six forms -/
theorem ok_tree (B : Bf mg) (D : Df K mg "_law_tree" (top 66)) (cNum : Cal P w K mg base "_law_number" 1 ["script", "index"] (spNum K)) : Cal P w K mg base "_law_tree" 8 ["script", "at", "size", "leaves", "calls"] (spTree K 7) := tree_all B D cNum 7
end
end K5
end

section
set_option maxHeartbeats 4000000
/-! KM: what the program's objects are; what a call comes to. -/
namespace K5
open PySem PySem.Spec L2
open PyProof.Rows hiding St
/-! ### memories -/
abbrev Mem := List (List (Option Int))
def mget (m : Mem) (k : Nat) (g : Int) : Option Int := (m.getD k []).getD g.toNat none
def mset (m : Mem) (k : Nat) (g : Int) (x : Int) : Mem := m.set k ((m.getD k []).set g.toNat (some x))
def encO : Option Int → PyData
  | none => .none
  | some n => .int n
def encRow (r : List (Option Int)) : PyData := .tuple (r.map encO)
def encM (m : Mem) : PyData := .tuple (m.map encRow)
def encW (wd : List Nat) : PyData := .tuple (wd.map nD)
def encS (wd : List Nat) (m : Mem) : PyData := .tuple [encW wd, encM m]
/-- a memory of nf functions over base numbers -/
structure MemOk (nf base : Nat) (m : Mem) : Prop where
  len : m.length = nf
  row : ∀ r ∈ m, r.length = base
  val : ∀ r ∈ m, ∀ x, some x ∈ r → 0 ≤ x ∧ x < base
/-! ### what a form comes to -/
def opV (base : Nat) (o : Nat) (x y : Int) : Int := match o with
  | 0 => (x + y) % base
  | 1 => (x - y) % base
  | 2 => (x * y) % base
  | _ => if x = y then 1 else 0
/-- F: what a call comes to -/
def evT (F : Nat → Int → Mem → Int × Mem) (base : Nat) (st g : Int) : Tr → Mem → Int × Mem
  | .num n, m => (n, m)
  | .given, m => (g, m)
  | .setting, m => (st, m)
  | .col _, m => (0, m)
  | .kept _, m => (0, m)
  | .call k t, m => F k (evT F base st g t m).1 (evT F base st g t m).2
  | .two o a b, m => (opV base o (evT F base st g a m).1 (evT F base st g b (evT F base st g a m).2).1, (evT F base st g b (evT F base st g a m).2).2)
  | .cond a b c, m => if (evT F base st g a m).1 ≠ 0 then evT F base st g b (evT F base st g a m).2 else evT F base st g c (evT F base st g a m).2
/-- the body of the function k by a wording -/
def bodyOf (fns : List (List Tr)) (wd : List Nat) (k : Nat) : Tr := (fns.getD k []).getD (wd.getD k 0) default
def evC (fns : List (List Tr)) (base : Nat) (wd : List Nat) (st : Int) : Nat → Nat → Int → Mem → Int × Mem
  | 0, _, _, m => (0, m)
  | n + 1, k, g, m => match mget m k g with
    | some x => (x, m)
    | none => ((evT (evC fns base wd st n) base st g (bodyOf fns wd k) m).1, mset (evT (evC fns base wd st n) base st g (bodyOf fns wd k) m).2 k g (evT (evC fns base wd st n) base st g (bodyOf fns wd k) m).1)
/-- a body of the function k -/
def okB (base k : Nat) : Tr → Prop
  | .num n => 0 ≤ n ∧ n < base
  | .given => True
  | .setting => True
  | .col _ => False
  | .kept _ => False
  | .call j t => j < k ∧ okB base k t
  | .two o a b => o < 4 ∧ okB base k a ∧ okB base k b
  | .cond a b c => okB base k a ∧ okB base k b ∧ okB base k c
def dep : Tr → Nat
  | .call _ t => dep t + 1
  | .two _ a b => max (dep a) (dep b) + 1
  | .cond a b c => max (dep a) (max (dep b) (dep c)) + 1
  | _ => 0
def cnt : Tr → Nat
  | .call _ t => cnt t + 1
  | .two _ a b => cnt a + cnt b + 1
  | .cond a b c => cnt a + cnt b + cnt c + 1
  | _ => 1
theorem dep_cnt : ∀ t : Tr, dep t < cnt t
  | .call _ t => by have := dep_cnt t; simp only [dep, cnt]; omega
  | .two _ a b => by have := dep_cnt a; have := dep_cnt b; simp only [dep, cnt]; omega
  | .cond a b c => by have := dep_cnt a; have := dep_cnt b; have := dep_cnt c; simp only [dep, cnt]; omega
  | .num _ => by simp only [dep, cnt]; omega
  | .given => by simp only [dep, cnt]; omega
  | .setting => by simp only [dep, cnt]; omega
  | .col _ => by simp only [dep, cnt]; omega
  | .kept _ => by simp only [dep, cnt]; omega
/-- the functions of a book -/
structure FnsOk (fns : List (List Tr)) (base : Nat) : Prop where
  base2 : 2 ≤ base
  base3 : base ≤ 3
  len1 : 1 ≤ fns.length
  len3 : fns.length ≤ 3
  row1 : ∀ r ∈ fns, 1 ≤ r.length
  row3 : ∀ r ∈ fns, r.length ≤ 3
  body : ∀ (k : Nat) (r : List Tr), fns[k]? = some r → ∀ t ∈ r, okB base k t ∧ cnt t ≤ 6
/-- a wording of them -/
structure WdOk (fns : List (List Tr)) (wd : List Nat) : Prop where
  len : wd.length = fns.length
  at_ : ∀ (k b : Nat), wd[k]? = some b → ∀ r, fns[k]? = some r → b < r.length
/-! ### the mathematics of a call -/
theorem mset_ok {nf base k : Nat} {m : Mem} {g x : Int} (h : MemOk nf base m) (h0 : 0 ≤ x) (h1 : x < base) : MemOk nf base (mset m k g x) := by
  unfold mset
  have inj : ∀ r, r ∈ m.set k ((m.getD k []).set g.toNat (some x)) → r ∈ m ∨ (k < m.length ∧ r = (m.getD k []).set g.toNat (some x)) := fun r hr => by
    obtain ⟨i, hi⟩ := List.mem_iff_getElem?.mp hr
    rw [List.getElem?_set] at hi
    split at hi
    · split at hi
      · exact .inr ⟨by omega, (Option.some.inj hi).symm⟩
      · cases hi
    · exact .inl (List.mem_of_getElem? hi)
  have kr : k < m.length → m.getD k [] ∈ m := fun hk => by
    rw [List.getD_eq_getElem?_getD, List.getElem?_eq_getElem hk]
    exact List.getElem_mem hk
  refine ⟨by rw [List.length_set]; exact h.len, fun r hr => ?_, fun r hr y hy => ?_⟩
  · rcases inj r hr with z | ⟨hk, rfl⟩
    · exact h.row r z
    · rw [List.length_set]
      exact h.row _ (kr hk)
  · rcases inj r hr with z | ⟨hk, rfl⟩
    · exact h.val r z y hy
    · rcases List.mem_or_eq_of_mem_set hy with z | z
      · exact h.val _ (kr hk) y z
      · cases z
        exact ⟨h0, h1⟩
theorem opV_ok {base o : Nat} {x y : Int} (hb : 2 ≤ base) : 0 ≤ opV base o x y ∧ opV base o x y < base := by
  unfold opV
  split
  · exact ⟨Int.emod_nonneg _ (by omega), Int.emod_lt_of_pos _ (by omega)⟩
  · exact ⟨Int.emod_nonneg _ (by omega), Int.emod_lt_of_pos _ (by omega)⟩
  · exact ⟨Int.emod_nonneg _ (by omega), Int.emod_lt_of_pos _ (by omega)⟩
  · split <;> omega
/-- what F keeps, evT keeps -/
theorem evT_ok {F : Nat → Int → Mem → Int × Mem} {base k nf : Nat} {st g : Int} (hb : 2 ≤ base) (hs0 : 0 ≤ st) (hs1 : st < base) (hg0 : 0 ≤ g) (hg1 : g < base)
    (hF : ∀ (j : Nat) (x : Int) (m : Mem), j < k → 0 ≤ x → x < (base : Int) → MemOk nf base m → 0 ≤ (F j x m).1 ∧ (F j x m).1 < base ∧ MemOk nf base (F j x m).2) :
    ∀ (t : Tr) (m : Mem), okB base k t → MemOk nf base m → 0 ≤ (evT F base st g t m).1 ∧ (evT F base st g t m).1 < base ∧ MemOk nf base (evT F base st g t m).2
  | .num n, m, h, hm => ⟨h.1, h.2, hm⟩
  | .given, m, _, hm => ⟨hg0, hg1, hm⟩
  | .setting, m, _, hm => ⟨hs0, hs1, hm⟩
  | .col _, _, h, _ => h.elim
  | .kept _, _, h, _ => h.elim
  | .call j t, m, h, hm => by
    obtain ⟨a, b, c⟩ := evT_ok hb hs0 hs1 hg0 hg1 hF t m h.2 hm
    exact hF j _ _ h.1 a b c
  | .two o a b, m, h, hm => by
    obtain ⟨_, _, m1⟩ := evT_ok hb hs0 hs1 hg0 hg1 hF a m h.2.1 hm
    obtain ⟨_, _, m2⟩ := evT_ok hb hs0 hs1 hg0 hg1 hF b _ h.2.2 m1
    obtain ⟨p, q⟩ := opV_ok (o := o) (x := (evT F base st g a m).1) (y := (evT F base st g b (evT F base st g a m).2).1) hb
    exact ⟨p, q, m2⟩
  | .cond a b c, m, h, hm => by
    obtain ⟨_, _, m1⟩ := evT_ok hb hs0 hs1 hg0 hg1 hF a m h.1 hm
    unfold evT
    split
    · exact evT_ok hb hs0 hs1 hg0 hg1 hF b _ h.2.1 m1
    · exact evT_ok hb hs0 hs1 hg0 hg1 hF c _ h.2.2 m1
theorem mget_ok {nf base k : Nat} {m : Mem} {g x : Int} (h : MemOk nf base m) (e : mget m k g = some x) : 0 ≤ x ∧ x < base := by
  unfold mget at e
  rw [List.getD_eq_getElem?_getD, List.getD_eq_getElem?_getD] at e
  cases hr : m[k]? with
  | none =>
    rw [hr] at e
    simp at e
  | some r =>
    rw [hr] at e
    cases hx : r[g.toNat]? with
    | none =>
      rw [Option.getD_some, hx] at e
      cases e
    | some o =>
      rw [Option.getD_some, hx] at e
      have e' : o = some x := e
      subst e'
      exact h.val r (List.mem_of_getElem? hr) x (List.mem_of_getElem? hx)
theorem body_ok {fns : List (List Tr)} {base k : Nat} {wd : List Nat} (F : FnsOk fns base) (W : WdOk fns wd) (hk : k < fns.length) : ∃ r b, fns[k]? = some r ∧ wd[k]? = some b ∧ r[b]? = some (bodyOf fns wd k) ∧ okB base k (bodyOf fns wd k) ∧ cnt (bodyOf fns wd k) ≤ 6 := by
  have h1 := List.getElem?_eq_getElem hk
  have hk2 : k < wd.length := by rw [W.len]; exact hk
  have h2 := List.getElem?_eq_getElem hk2
  have h3 := W.at_ _ _ h2 _ h1
  have h4 : fns[k][wd[k]]? = some (bodyOf fns wd k) := by
    unfold bodyOf
    rw [List.getD_eq_getElem?_getD, List.getD_eq_getElem?_getD, List.getD_eq_getElem?_getD, h1, h2, Option.getD_some, Option.getD_some, List.getElem?_eq_getElem h3]
    rfl
  obtain ⟨a, b⟩ := F.body k _ h1 _ (List.mem_of_getElem? h4)
  exact ⟨_, _, h1, h2, h4, a, b⟩
theorem evC_ok {fns : List (List Tr)} {base : Nat} {wd : List Nat} {st : Int} (F : FnsOk fns base) (W : WdOk fns wd) (hs0 : 0 ≤ st) (hs1 : st < base) : ∀ (n k : Nat) (g : Int) (m : Mem), k < n → k < fns.length → 0 ≤ g → g < base → MemOk fns.length base m →
    0 ≤ (evC fns base wd st n k g m).1 ∧ (evC fns base wd st n k g m).1 < base ∧ MemOk fns.length base (evC fns base wd st n k g m).2
  | 0, _, _, _, h, _, _, _, _ => by omega
  | n + 1, k, g, m, hn, hk, hg0, hg1, hm => by
    unfold evC
    cases e : mget m k g with
    | some x => exact ⟨(mget_ok hm e).1, (mget_ok hm e).2, hm⟩
    | none =>
      obtain ⟨r, b, _, _, _, ok, _⟩ := body_ok F W hk
      obtain ⟨a, b, c⟩ := evT_ok (F := evC fns base wd st n) (k := k) F.base2 hs0 hs1 hg0 hg1 (fun j x m' hj h0 h1 hm' => evC_ok F W hs0 hs1 n j x m' (by omega) (by omega) h0 h1 hm') (bodyOf fns wd k) m ok hm
      exact ⟨a, b, mset_ok c a b⟩
end K5
end

section
set_option maxHeartbeats 4000000
/-! KO: the program's objects in the heap; properties that read self.parts[i]; len(o), o[i], x in o by own methods. -/
namespace K5
open PySem PySem.Spec L2
open PyProof.Rows hiding St
/-! ### what no store of ours touches -/
def Stat : HO → Bool
  | .tup _ => true
  | .ins _ _ _ => true
  | .dK _ => true
  | .dT _ => true
  | _ => false
/-- tuples, instances, dicts are as they were -/
def Isn (H H' : Hp) : Prop := ∀ b o, Stat o = true → H b = some o → H' b = some o
theorem Isn.refl (H : Hp) : Isn H H := fun _ _ _ h => h
theorem Isn.trans {H H1 H2 : Hp} (a : Isn H H1) (b : Isn H1 H2) : Isn H H2 := fun c o z h => b c o z (a c o z h)
theorem Isn.ts {H H' : Hp} (a : Isn H H') : Tsm H H' := fun b xs h => a b _ rfl h
theorem Isn.im {H H' : Hp} {v : V} {d : PyData} (s : Isn H H') (h : Im H v d) : Im H' v d := Im.ts s.ts _ _ h
theorem Isn.ims {H H' : Hp} {v : List V} {d : List PyData} (s : Isn H H') (h : ImAll H v d) : ImAll H' v d := ImAll.ts s.ts _ _ h
theorem _root_.L2.Same.isn {H H' : Hp} (s : Same H H') : Isn H H' := fun b o _ h => s b o h
theorem Mv.isn {l : Addr} {H H' : Hp} (m : Mv l H H') : Isn H H' := fun b o z h => m.at h fun xs e => by
  rw [e] at z
  cases z
theorem _root_.LamX.ExtN.isn {H H' : Hp} (e : LamX.ExtN H H') : Isn H H' := fun b o z h => e b o h fun ps q => by
  rw [q] at z
  cases z
/-! ### forms, books, plans -/
def FormAt (CF : Addr) (H : Hp) (v : V) (t : Tr) : Prop := ∃ a dx u, v = .ref a ∧ H a = some (.ins CF dx [("tree", u)]) ∧ Im H u (enc t)
inductive Each {α β : Type} (R : α → β → Prop) : List α → List β → Prop
  | nil : Each R [] []
  | cons {a : α} {b : β} {as : List α} {bs : List β} : R a b → Each R as bs → Each R (a :: as) (b :: bs)
theorem Each.length {α β : Type} {R : α → β → Prop} : ∀ {as : List α} {bs : List β}, Each R as bs → as.length = bs.length
  | _, _, .nil => rfl
  | _, _, .cons _ t => congrArg Nat.succ t.length
theorem Each.get {α β : Type} {R : α → β → Prop} : ∀ {as : List α} {bs : List β} {i : Nat} {b : β}, Each R as bs → bs[i]? = some b → ∃ a, as[i]? = some a ∧ R a b
  | _, _, _, _, .nil, h => by simp at h
  | _, _, 0, _, .cons r _, h => ⟨_, rfl, by rw [← Option.some.inj h]; exact r⟩
  | _, _, i + 1, _, .cons _ t, h => Each.get (i := i) t h
theorem Each.get' {α β : Type} {R : α → β → Prop} : ∀ {as : List α} {bs : List β} {i : Nat} {a : α}, Each R as bs → as[i]? = some a → ∃ b, bs[i]? = some b ∧ R a b
  | _, _, _, _, .nil, h => by simp at h
  | _, _, 0, _, .cons r _, h => ⟨_, rfl, by rw [← Option.some.inj h]; exact r⟩
  | _, _, i + 1, _, .cons _ t, h => Each.get' (i := i) t h
theorem Each.imp {α β : Type} {R S : α → β → Prop} (f : ∀ a b, R a b → S a b) : ∀ {as : List α} {bs : List β}, Each R as bs → Each S as bs
  | _, _, .nil => .nil
  | _, _, .cons r t => .cons (f _ _ r) (Each.imp f t)
theorem Each.snoc {α β : Type} {R : α → β → Prop} {a : α} {b : β} (r : R a b) : ∀ {as : List α} {bs : List β}, Each R as bs → Each R (as ++ [a]) (bs ++ [b])
  | _, _, .nil => .cons r .nil
  | _, _, .cons q t => .cons q (Each.snoc r t)
/-- a tuple of Forms -/
def RowAt (CF : Addr) (H : Hp) (v : V) (r : List Tr) : Prop := ∃ b ys, v = .ref b ∧ H b = some (.tup ys) ∧ Each (FormAt CF H) ys r
structure Book where
  base : Nat
  settings : Nat
  fns : List (List Tr)
def BookAt (CB CF : Addr) (H : Hp) (v : V) (B : Book) : Prop := ∃ a dx t f xs, v = .ref a ∧ H a = some (.ins CB dx [("parts", .ref t)]) ∧ H t = some (.tup [.int B.base, .int B.settings, .ref f]) ∧ H f = some (.tup xs) ∧ Each (RowAt CF H) xs B.fns
def PlanAt (CP CB CF : Addr) (H : Hp) (v : V) (B : Book) (free : List Nat) : Prop := ∃ a dx t k c th f wr as_, v = .ref a ∧ H a = some (.ins CP dx [("parts", .ref t)]) ∧ H t = some (.tup [k, c, th, .ref f, wr, as_]) ∧ BookAt CB CF H k B ∧ H f = some (.tup (free.map nI))
theorem FormAt.isn {CF : Addr} {H H' : Hp} {v : V} {t : Tr} (s : Isn H H') (h : FormAt CF H v t) : FormAt CF H' v t := by
  obtain ⟨a, dx, u, e, h1, h2⟩ := h
  exact ⟨a, dx, u, e, s _ _ rfl h1, s.im h2⟩
theorem RowAt.isn {CF : Addr} {H H' : Hp} {v : V} {r : List Tr} (s : Isn H H') (h : RowAt CF H v r) : RowAt CF H' v r := by
  obtain ⟨b, ys, e, h1, h2⟩ := h
  exact ⟨b, ys, e, s _ _ rfl h1, h2.imp fun _ _ z => z.isn s⟩
theorem BookAt.isn {CB CF : Addr} {H H' : Hp} {v : V} {B : Book} (s : Isn H H') (h : BookAt CB CF H v B) : BookAt CB CF H' v B := by
  obtain ⟨a, dx, t, f, xs, e, h1, h2, h3, h4⟩ := h
  exact ⟨a, dx, t, f, xs, e, s _ _ rfl h1, s _ _ rfl h2, s _ _ rfl h3, h4.imp fun _ _ z => z.isn s⟩
theorem PlanAt.isn {CP CB CF : Addr} {H H' : Hp} {v : V} {B : Book} {free : List Nat} (s : Isn H H') (h : PlanAt CP CB CF H v B free) : PlanAt CP CB CF H' v B free := by
  obtain ⟨a, dx, t, k, c, th, f, wr, as_, e, h1, h2, h3, h4⟩ := h
  exact ⟨a, dx, t, k, c, th, f, wr, as_, e, s _ _ rfl h1, s _ _ rfl h2, h3.isn s, s _ _ rfl h4⟩
/-! ### properties: return self.parts[i] -/
def spPart (C : Addr) (i : Nat) : Sp := fun vs H Q _ => ∃ a dx fs t xs v, vs = [.ref a] ∧ H a = some (.ins C dx fs) ∧ fs.lookup ("parts" : Str) = some (.ref t) ∧ H t = some (.tup xs) ∧ xs[i]? = some v ∧ Q v H
/-- the class at C has the name f as such a property -/
def Prp (P : Program) (w : World) (K : PySem.W.Frag) (mg : Str → Option Value) (base : Heap) (C : Addr) (f : Str) (i : Nat) : Prop :=
  ∃ p g fd, PropOf K C f p g ∧ FnOk P w K mg base CX0 1 g fd ["self"] (spPart C i) ∧ Binds K fd ["self"] []
def rPart (C : Addr) (i : Nat) (x : V) (H : Hp) (Q : VK) : Prop := ∃ a dx fs, x = .ref a ∧ H a = some (.ins C dx fs) ∧ spPart C i [.ref a] H Q E0
theorem r_prop {σ : St} {H : Hp} {Q : VK} {C : Addr} {i : Nat} {ta : TE} (q : ta σ H fun x H1 => rPart C i x H1 Q) : tProp C (spPart C i) [] E0 ta σ H Q := q
theorem r_partI {H : Hp} {Q : VK} {C a dx t : Addr} {i : Nat} {xs : List V} {v : V} (h : H a = some (.ins C dx [("parts", .ref t)])) (ht : H t = some (.tup xs)) (e : xs[i]? = some v) (q : Q v H) : rPart C i (.ref a) H Q := ⟨a, dx, _, rfl, h, a, dx, _, t, xs, v, rfl, h, rfl, ht, e, q⟩
section
variable {X : Cx} {C f : Addr} {fd : FuncData} {i j k : Nat} {nm : Str} {ps : List Str} {sp : Sp} {ta tb : TE} {e a b : Expr} {pos : Pos}
theorem pe_part (h : Prp X.prog X.w X.K X.mg X.base C nm i) (c : Cls X.K C) (hr : Room j X.A) (hj : 2 ≤ j) (he : PE X e ta) (hab : attributeBase e nm X.env (eval e X.env) = eval e X.env := by rfl) : PE X (.Attribute e nm pos) (tProp C (spPart C i) [] E0 ta) := by
  obtain ⟨p, g, fd, hp, F, hb⟩ := h
  exact pe_prop he c hp F (hr.mono hj) hb .nil pass0 hab
end
/-! ### len(o), o[i], x in o -/
/-- an own method of the class at C -/
def Mtd (P : Program) (w : World) (K : PySem.W.Frag) (mg : Str → Option Value) (base : Heap) (C : Addr) (m : Str) (k : Nat) (ps : List Str) (sp : Sp) : Prop :=
  ∃ f fd, Meth K C m f ∧ FnOk P w K mg base CX0 k f fd ps sp ∧ Binds K fd ps [] ∧ PySem.W.fnIn K f = true
def rLenO (C : Addr) (sp : Sp) : List V → Hp → VK → Prop := fun xs H Q => ∃ a dx fs, xs = [.ref a] ∧ H a = some (.ins C dx fs) ∧ sp [.ref a] H (fun v H' => ∃ n : Nat, v = .int n ∧ n < 2 ^ 63 ∧ Q (.int n) H') E0
def rIxO (C : Addr) (sp : Sp) : R2 := fun x y H Q => ∃ a dx fs, x = .ref a ∧ H a = some (.ins C dx fs) ∧ sp [.ref a, y] H Q E0
def rInO (C : Addr) (sp : Sp) : R2 := fun x y H Q => ∃ a dx fs, y = .ref a ∧ H a = some (.ins C dx fs) ∧ sp [.ref a, x] H (fun v H' => ∃ b, v = .bl b ∧ Q (.bl b) H') E0
section
variable {X : Cx} {C f : Addr} {fd : FuncData} {i j k : Nat} {nm : Str} {ps : List Str} {sp : Sp} {ta tb : TE} {e a b : Expr} {pos : Pos}
/-- the method runs -/
theorem run_mtd {A : Around} {pins : List (Addr × Obj)} {σ : L2.St} {H : Hp} {s : Shared} {Q : VK} {us : List Value} {vs : List V} {E' : Value → Shared → Prop} {R : Value → Shared → Prop} (F : FnOk X.prog X.w X.K X.mg X.base CX0 k f fd ps sp) (hb : Binds X.K fd ps []) (hr : Room k A) (ha : A.frames = X.A.frames) (I : Inv X pins σ H s) (r : Vals vs us)
    (h : sp vs H Q E0) (hR : ∀ v u H' s', Inv X pins σ H' s' → RelV v u → Q v H' → R u s') : wpAny (model X.prog X.w) A (call (.ref f) us) R E' s := by
  have hl : (us ++ []).length = ps.length := by rw [List.append_nil, ← r.length]; exact F.len _ _ _ _ h
  have hbs := hb s us I.kIn hl
  rw [List.append_nil] at hbs
  have e0 : Env0 X.prog X.w X.K X.mg X.base A X.stack s H := ⟨ha.trans I.env0.frames, I.env0.mod, I.env0.bs, I.env0.bsz, I.env0.funs, I.env0.frf, I.env0.hok, I.env0.bare⟩
  refine wpAny_call (codeAny_mono (F.run A X.stack s H ⟨us, []⟩ us vs Q E0 hr e0 hbs r h) fun z s' hq => ?_)
  cases z with
  | error er => exact False.elim hq
  | ok fl =>
    cases fl with
    | ret u =>
      obtain ⟨v, H', I3, rv, q3⟩ := I.after hq
      exact hR v u H' s' I3 rv q3
    | next => exact False.elim hq
    | brk => exact False.elim hq
    | cont => exact False.elim hq
theorem ins_inst {pins : List (Addr × Obj)} {σ : L2.St} {H : Hp} {s : Shared} {x C dx : Addr} {fs : List (Str × V)} (I : Inv X pins σ H s) (h : H x = some (.ins C dx fs)) : ∃ od, PySem.W.InstAt s.heap x (PySem.W.instObj C dx) C (some od) := by
  obtain ⟨mA, O, _⟩ := ins_get I.hok h
  obtain ⟨od, J, _⟩ := O.look
  exact ⟨od, J⟩
theorem c_lenO (M : Mtd X.prog X.w X.K X.mg X.base C "__len__" k ps sp) (hr : Room j X.A) (hj : k + 1 ≤ j) : CallR X (.builtin "len") (rLenO C sp) := by
  intro pins s σ H xs us Q I r h
  obtain ⟨f, fd, m, F, hb, _⟩ := M
  obtain ⟨a, dx, fs, rfl, ha, q⟩ := h
  obtain rfl := Vals.ref1 r
  obtain ⟨od, J⟩ := ins_inst I ha
  obtain ⟨mf, Fr⟩ := I.fr
  refine PySem.W.len_K Fr I.mod.kin J m.at_ m.fn (run_mtd F hb (hr.mono hj).in1 rfl I (.cons (show RelV (.ref a) (.ref a) from rfl) .nil) q fun v u H' s' I' rv hq => ?_)
  obtain ⟨n, rfl, hn, hq⟩ := hq
  obtain ⟨t, rfl⟩ := rv
  exact ⟨⟨by omega, by omega⟩, .int n, H', I'.tok _, ⟨_, rfl⟩, hq⟩
theorem pe_ixO (M : Mtd X.prog X.w X.K X.mg X.base C "__getitem__" k ps sp) (hr : Room j X.A) (hj : k + 1 ≤ j) (ha : PE X a ta) (hb' : PE X b tb)
    (hsl : ∀ (x : Addr) (i : Value), subscripted b true (.ref x) i = runValue (.builtin "lifetime.subscript" ⟨[.ref x, i], []⟩) := by intro _ _; with_unfolding_all rfl) : PE X (.Subscript a b pos) (tOp (rIxO C sp) ta tb) := by
  refine ⟨fun pins s σ H Q I h => ?_⟩
  refine Subscript_ (binT ha hb' I h fun v u s2 x y H2 I2 rx ry q => ?_)
  obtain ⟨f, fd, m, F, hb, hfn⟩ := M
  obtain ⟨o, dx, fs, rfl, ho, q⟩ := q
  obtain rfl := rx
  obtain ⟨od, J⟩ := ins_inst I2 ho
  obtain ⟨mf, Fr⟩ := I2.fr
  exact PySem.W.sub_K Fr I2.mod.kin J m.at_ hfn m.fn (run_mtd F hb (hr.mono hj).in1 rfl I2 (.cons (show RelV (.ref o) (.ref o) from rfl) (.cons ry .nil)) q fun v u H' s' I' rv hq => ⟨v, H', I', rv, hq⟩) (hsl _ _)
theorem op_inO (M : Mtd X.prog X.w X.K X.mg X.base C "__contains__" k ps sp) (hr : Room j X.A) (hj : k + 1 ≤ j) : OpR X (compareOp .In) (rInO C sp) := by
  intro pins s σ H x y v u Q I rx ry h
  obtain ⟨f, fd, m, F, hb, _⟩ := M
  obtain ⟨a, dx, fs, rfl, ha, q⟩ := h
  obtain rfl := ry
  obtain ⟨od, J⟩ := ins_inst I ha
  obtain ⟨mf, Fr⟩ := I.fr
  refine PySem.W.in_K Fr I.mod.kin J m.at_ m.fn (run_mtd F hb (hr.mono (Nat.le_of_succ_le hj)) rfl I (.cons (show RelV (.ref a) (.ref a) from rfl) (.cons rx .nil)) q fun v u H' s' I' rv hq => ?_)
  obtain ⟨b, rfl, hq⟩ := hq
  cases rv
  exact wpAny_truthy_bool ⟨.bl b, H', I', rfl, hq⟩
end
end K5
end

section
set_option maxHeartbeats 4000000
/-! KN: a nested def with a star parameter, handed to a module's def and called there. -/
namespace K5
open PySem PySem.Spec L2 NdefX LamX
open PyProof.Rows hiding St
/-- what a call of the nested function F at f comes to -/
def AskOk (P : Program) (w : World) (K : PySem.W.Frag) (mg : Str → Option Value) (base : Heap) (k : Nat) (f : Addr) (F : NF) (fr : List Str) (sp : List (Option V) → Sp) : Prop :=
  ∀ (A : Around) (outer : List Env) (s : Shared) (H : Hp) (us : List Value) (vs : List V) (ws : List (Option V)) (Q : VK), Room k A → Env0 P w K mg base A outer s H → H f = some (FnO f F) → H F.c = some (CodeO F.c F.qual) →
    CellsAt F.cl fr ws s.heap H → Vals vs us → sp ws vs H Q E0 → codeAny (model P w) A (.call (.ref f) ⟨us, []⟩) (CR CX0 outer P w H s Q E0) s
section
variable {P : Program} {w : World} {K : PySem.W.Frag} {mg : Str → Option Value} {base : Heap} {N ps fr : List Str} {pv : Str} {F : NF} {f : Addr} {k : Nat} {sp : List (Option V) → Sp}
theorem AskOk.mono {j : Nat} (o : AskOk P w K mg base j f F fr sp) (h : j ≤ k) : AskOk P w K mg base k f F fr sp := fun A outer s H us vs ws Q hr => o A outer s H us vs ws Q (hr.mono h)
/-- what is left over of the arguments is a new tuple -/
def starSp (ps : List Str) (sp : List (Option V) → Sp) : List (Option V) → Sp := fun ws vs H Q E => ∃ us rest, vs = us ++ rest ∧ us.length = ps.length ∧ rest.length ≤ sizeLine ∧ ∀ p, H p = none → sp ws (us ++ [V.ref p]) (upd H p (.tup rest)) Q E
theorem ask_of (S : NScope N (ps ++ [pv]) fr F.scope)
    (hb : ∀ (doc pm ctv : Value) (us rest : List Value), us.length = ps.length → bindArgs (F.fd doc pm ctv) ⟨us ++ rest, []⟩ = (newTuple rest >>= fun t => pure (ps.zip us ++ [(pv, t)])))
    (hbody : ∀ (A : Around) (outer : List Env) (s : Shared) (H : Hp) (vs : List V) (ws : List (Option V)) (Q : VK), Room k (A.deeper (envF F f s.heap.objs.size)) → H f = some (FnO f F) → H F.c = some (CodeO F.c F.qual) → ws.length = fr.length → vs.length = ps.length + 1 → sp ws vs H Q E0 →
      ∃ t, PSs (ncx CX0 P w K mg base N F f A outer s H E0) F.body t ∧ t { nx := fun _ H' => Q .non H', rt := Q } (startF N vs ws) H) :
    AskOk P w K mg base (k + 1) f F fr (starSp ps sp) := by
  intro A outer s H us vs ws Q hr e0 hf hc C r hsp
  obtain ⟨vs1, rest, rfl, hl, hz, hq⟩ := hsp
  obtain ⟨u1, u2, rfl, r1, r2⟩ := StX.vals_split r
  have hn : H s.heap.objs.size = Option.none := e0.hok.fresh (Nat.le_refl _)
  have hl1 : u1.length = ps.length := by rw [← r1.length]; exact hl
  have hl2 : u2.length ≤ sizeLine := by rw [← r2.length]; exact hz
  obtain ⟨od, sl, doc, pm, ctv, ho⟩ := fnO_at e0.hok hf
  refine codeAny_call_function hr.depth ho rfl S.co S.gen rfl (codeO_at e0.hok hc) ?_
  rw [hb doc pm ctv u1 u2 hl1]
  refine wpAny_bind (wpAny_newTuple (wpAny_pure ?_) hl2)
  have new : ObjOk P w (upd H s.heap.objs.size (.tup rest)) (s.heap.push ({ cls := .type "tuple", data := .seq u2.toArray } : Obj)) s.heap.objs.size (.tup rest) := ⟨hz, u2, r2, ⟨_, Heap.get?_push_size _ rfl, rfl, _, rfl⟩⟩
  have kp0 : ∀ b o, s.heap.get? b = some o → (s.heap.push ({ cls := .type "tuple", data := .seq u2.toArray } : Obj)).get? b = some o := fun b o e => Heap.get?_push_of_some _ e
  have un := StX.un_laid (fs := frs outer) (s := s) (o := ({ cls := .type "tuple", data := .seq u2.toArray } : Obj)) (u := .tup rest) hn
  have e2 := StX.env0_laid e0 new
  have hsp2 := hq _ hn
  generalize hH2 : upd H s.heap.objs.size (.tup rest) = H2 at *
  generalize hs2 : ({ s with heap := s.heap.push ({ cls := .type "tuple", data := .seq u2.toArray } : Obj) } : Shared) = s2 at *
  have ehp : s2.heap = s.heap.push ({ cls := .type "tuple", data := .seq u2.toArray } : Obj) := by rw [← hs2]
  have eos : s2.os = s.os := by rw [← hs2]
  have up : ∀ b, H b ≠ none → H2 b = H b := fun b hb => by
    rw [← hH2, upd_ne fun z => hb (by rw [z, hn])]
  have C2 : CellsAt F.cl fr ws s2.heap H2 := by
    have cellK : ∀ {c : Addr} {v : Option Value}, s.heap.IsCell c v → s2.heap.IsCell c v := fun {c v} ⟨o, h1, h2⟩ => ⟨o, by rw [ehp]; exact kp0 _ _ h1, h2⟩
    refine ⟨C.len, fun y c e => ?_, C.inj, fun i y e => ?_⟩
    · obtain ⟨n, v, z⟩ := C.all y c e
      refine ⟨?_, v, cellK z⟩
      obtain ⟨o, h1, _⟩ := z
      rw [← hH2, upd_ne (Nat.ne_of_lt (Heap.lt_size h1))]
      exact n
    · obtain ⟨c, hc, hv⟩ := C.has i y e
      exact ⟨c, hc, fun v e2 => (hv v e2).elim fun u z => ⟨u, z.1, cellK z.2⟩⟩
  have lim : s2.heap.NoLimit := e0.mod.nolimit.keeps fun b o e => (e2.bs b o e).1
  have rr : Vals (vs1 ++ [V.ref s.heap.objs.size]) (u1 ++ [Value.ref s.heap.objs.size]) := r1.append (.cons rfl .nil)
  have hl3 : (vs1 ++ [V.ref s.heap.objs.size]).length = (ps ++ [pv]).length := by
    rw [List.length_append, List.length_append, hl]
    rfl
  have ez : ps.zip u1 ++ [(pv, Value.ref s.heap.objs.size)] = (ps ++ [pv]).zip (u1 ++ [Value.ref s.heap.objs.size]) := by
    rw [List.zip_append hl1.symm]
    rfl
  rw [ez]
  refine wpAny_newFunctionEnv (s := s2) S.nocell (fun y hy => S.par y.1 (List.of_mem_zip hy).1) (fun h₁ hns hsb => ⟨lim.fresh _ hsb, ?_⟩) S.kind
  show codeAny _ _ (.func F.body (envF F f s2.heap.objs.size)) _ _
  refine codeAny_func ?_
  have kp : ∀ b o, s2.heap.get? b = some o → h₁.get? b = some o := fun b o e => hsb.extBut b o (Nat.ne_of_lt (Heap.lt_size e)) (Heap.get?_push_of_some _ e)
  obtain ⟨t, ht, hq2⟩ := hbody A outer s2 H2 (vs1 ++ [V.ref s.heap.objs.size]) ws Q (hr.deeper _) (by rw [up _ (by rw [hf]; simp)]; exact hf) (by rw [up _ (by rw [hc]; simp)]; exact hc) C.len (by rw [hl3, List.length_append]; rfl) hsp2
  have I : Inv (ncx CX0 P w K mg base N F f A outer s2 H2 E0) [] (startF N (vs1 ++ [V.ref s.heap.objs.size]) ws) H2 { s2 with heap := h₁, toks := s2.toks + ((ps ++ [pv]).zip (u1 ++ [Value.ref s.heap.objs.size])).length } := inv_startN S hr.hd e2 hl3 rr C2 hns kp
  refine wpAny_mono (ht.run [] _ _ H2 _ I hq2) (fun fl s' hs => ?_) fun e s' hs => ?_
  · have fin : ∀ {σ' : L2.St} {H' : Hp} {v : V} {u : Value}, Inv (ncx CX0 P w K mg base N F f A outer s2 H2 E0) [] σ' H' s' → L2.RelV v u → Q v H' → CE outer P w H s Q u s' :=
      fun {σ' H' v u} J rv q => ⟨v, H', J.os.trans eos, J.bare, by
        have b := J.base
        have un2 : Un (frs outer) [] H H2 s.heap s2.heap := by
          rw [ehp]
          exact un
        exact un2.trans b, J.hok, rv, q⟩
    cases fl with
    | ret u =>
      obtain ⟨v, σ', H', J, rv, q⟩ := hs
      exact fin J rv q
    | next =>
      obtain ⟨σ', H', J, q⟩ := hs
      exact fin (v := V.non) (u := Value.none) J rfl q
    | brk =>
      obtain ⟨_, _, _, q⟩ := hs
      exact False.elim q
    | cont =>
      obtain ⟨_, _, _, q⟩ := hs
      exact False.elim q
  · exact hs
end
/-! ### calls of it in a def that was handed the function -/
section
variable {X : Cx} {F : NF} {fr : List Str} {f : Addr} {ws : List (Option V)} {i j k : Nat} {x : Str} {sp : List (Option V) → Sp} {t : TA} {te : TE} {e : Expr} {es : List Expr} {p pos sp_ : Pos}
theorem run_ask {pins : List (Addr × Obj)} {σ : L2.St} {H : Hp} {s : Shared} {Q : VK} {us : List Value} {vs : List V} (Ak : AskOk X.prog X.w X.K X.mg X.base k f F fr sp) (hr : Room j X.A) (hk : k ≤ j) (I : Inv X pins σ H s)
    (hf : H f = some (FnO f F)) (hc : H F.c = some (CodeO F.c F.qual)) (C : CellsAt F.cl fr ws s.heap H) (r : Vals vs us) (q : sp ws vs H Q E0) : wpAny (model X.prog X.w) X.A (call (.ref f) us) (EP X pins σ Q) X.xe s := by
  refine wpAny_call (codeAny_mono (Ak X.A X.stack s H us vs ws Q (hr.mono hk) I.env0 hf hc C r q) fun r s' hq => ?_)
  cases r with
  | error e => exact False.elim hq
  | ok fl =>
    cases fl with
    | ret u => exact I.after hq
    | next => exact False.elim hq
    | brk => exact False.elim hq
    | cont => exact False.elim hq
/-- the i-th slot holds the function: f(..) -/
def tAsk (i : Nat) (f : Addr) (F : NF) (ws : List (Option V)) (sp : List (Option V) → Sp) (t : TA) : TE := fun σ H Q => σ[i]? = some (some (.ref f)) ∧ H f = some (FnO f F) ∧ t σ H fun vs H1 => H1 f = some (FnO f F) ∧ H1 F.c = some (CodeO F.c F.qual) ∧ sp ws vs H1 Q E0
/-- .. f(*y) -/
def tAskS (K : PySem.W.Frag) (i : Nat) (f : Addr) (F : NF) (ws : List (Option V)) (sp : List (Option V) → Sp) (te : TE) : TE := fun σ H Q => σ[i]? = some (some (.ref f)) ∧ te σ H fun y H1 => ∃ a xs, y = V.ref a ∧ SqT K H1 a xs ∧ H1 f = some (FnO f F) ∧ H1 F.c = some (CodeO F.c F.qual) ∧ sp ws xs H1 Q E0
theorem pe_ask (Ak : AskOk X.prog X.w X.K X.mg X.base k f F fr sp) (C0 : CellsAt F.cl fr ws X.s_0.heap X.H_0) (nf : ∀ y c, F.cl.lookup y = some c → c ∉ X.fs) (hx : ∀ y c, F.cl.lookup y = some c → c ∉ X.ex) (hr : Room j X.A) (hk : k ≤ j) (ha : PA X (e :: es) t)
    (hN : X.N[i]? = some x := by rfl) (hv : Vis X.env.scope x := by first | exact Or.inl rfl | exact Or.inr (Or.inl rfl) | exact Or.inr (Or.inr rfl)) (hd : (x == ("__debug__" : Str)) = false := by decide) (hcd : (x == ("__classdict__" : Str)) = false := by decide)
    (he : starEach (e :: es) X.env = (false, eval e X.env) :: starEach es X.env := by rfl) (hpl : (backTo pos (starEach es X.env)).any (·.1) = false := by rfl) : PE X (.Call (.Name x p) (e :: es) [] pos) (tAsk i f F ws sp t) := by
  refine ⟨fun pins s σ H Q I h => ?_⟩
  obtain ⟨hs, hf, ht⟩ := h
  refine wpAny_Call_Name_kw (thn ((pe_var (pos := p) hN hv hd hcd).run pins s σ H (fun v H1 => v = .ref f ∧ H1 = H) I ⟨.ref f, hs, rfl, rfl⟩) fun u s1 ⟨v, H1, I1, r1, q1⟩ => ?_)
  obtain ⟨ev, eH⟩ := q1
  subst ev
  rw [eH] at I1
  obtain rfl : u = Value.ref f := r1
  refine PySem.W.callWith_F (first := []) (fnAt_of I1 hf) (thn (ha.run pos pins s1 σ H _ I1 ht) fun us s2 ⟨vs, H2, I2, r, h1, h2, q⟩ => ⟨fnAt_of I2 h1, ?_⟩) he hpl
  show wpAny _ _ (call (.ref f) us) _ _ _
  exact run_ask Ak hr hk I2 h1 h2 (C0.later nf hx I2) r q
theorem pe_askS (Ak : AskOk X.prog X.w X.K X.mg X.base k f F fr sp) (C0 : CellsAt F.cl fr ws X.s_0.heap X.H_0) (nf : ∀ y c, F.cl.lookup y = some c → c ∉ X.fs) (hx : ∀ y c, F.cl.lookup y = some c → c ∉ X.ex) (hr : Room j X.A) (hk : k ≤ j) (he : PE X e te)
    (hN : X.N[i]? = some x := by rfl) (hv : Vis X.env.scope x := by first | exact Or.inl rfl | exact Or.inr (Or.inl rfl) | exact Or.inr (Or.inr rfl)) (hd : (x == ("__debug__" : Str)) = false := by decide) (hcd : (x == ("__classdict__" : Str)) = false := by decide)
    (hst : starEach [.Starred e sp_] X.env = [(true, eval e X.env)] := by rfl) : PE X (.Call (.Name x p) [.Starred e sp_] [] pos) (tAskS X.K i f F ws sp te) := by
  refine ⟨fun pins s σ H Q I h => ?_⟩
  obtain ⟨hs, ht⟩ := h
  refine wpAny_Call_Name_kw (thn ((pe_var (pos := p) hN hv hd hcd).run pins s σ H (fun v H1 => v = .ref f ∧ H1 = H) I ⟨.ref f, hs, rfl, rfl⟩) fun u s1 ⟨v, H1, I1, r1, q1⟩ => ?_)
  obtain ⟨ev, eH⟩ := q1
  subst ev
  rw [eH] at I1
  obtain rfl : u = Value.ref f := r1
  rw [hst]
  refine PySem.W.ks_call (P := PySem.W.FnAt f) rfl (fun h X => PySem.W.keeps_F h X) (PySem.W.ks_lone (thn (he.run pins s1 σ H _ I1 ht) fun v s2 ⟨y, H2, I2, ry, a, xs, ey, hxs, h1, h2, q⟩ => ?_))
  subst ey
  obtain rfl : v = Value.ref a := ry
  refine StX.star_any I2 (.inl hxs) fun us s3 I3 rv => ⟨fnAt_of I3 h1, ?_⟩
  show wpAny _ _ (call (.ref f) us) _ _ _
  exact run_ask Ak hr hk I3 h1 h2 (C0.later nf hx I3) rv q
end
end K5
end

section
set_option maxHeartbeats 4000000
/-! KP: comes_to, called and its ask. -/
namespace K5
open PySem PySem.Spec L2 NdefX LamX
open PyProof.Rows hiding St
local macro_rules | `(tactic| walk_at "lf") => `(tactic| first
  | assumption
  | (refine Same.im (by assumption) ?_; walk_at "lf")
  | (refine Same.ims (by assumption) ?_; walk_at "lf")
  | (refine Same.at (by assumption) ?_; walk_at "lf")
  | (refine Same.sqT (by assumption) ?_; walk_at "lf")
  | (refine Same.seq (by assumption) ?_; walk_at "lf")
  | exact SqL.of (by walk_at "lf")
  | exact SqT.of (by walk_at "lf"))
local macro_rules | `(tactic| walk_at "st") => `(tactic| first
  | ((with_reducible refine r_var (v := ?vv) ?rv ?_); (case rv => exact rfl))
  | with_reducible first
    | refine r_seq ?_
    | refine r_asg ?_
    | refine r_gName ?_
    | refine r_c ?_
    | refine r_op ?_
    | refine r_I0 ?_
    | refine r_exbl ?_
    | refine r_cb ?_
    | refine r_nil ?_
    | refine r_cons ?_
    | refine r_test ?_
    | refine r_tB ?_
    | refine r_and ?_
    | refine r_or ?_
    | refine r_not ?_
    | refine r_if ?_
    | refine r_ret ?_
    | refine r_next ?_
    | refine r_tup ?_
    | refine r_lst ?_
    | refine r_int ?_
    | refine r_exint ?_
    | refine r_sl ?_
    | refine r_part ?_
    | refine r_nopart ?_
    | refine r_par ?_
    | refine r_ex2 ?_
    | refine r_call ?_
    | refine r_un ?_
    | refine r_U ?_
    | refine r_andV ?_
    | refine r_orV ?_
    | refine r_notV ?_
    | refine r_chain ?_
    | refine r_isN ?_
    | refine r_notN ?_
    | refine r_drop ?_
    | refine r_I (by decide) ?_
    | refine r_EqI ?_
    | refine r_NeI ?_
    | refine r_EqS ?_
    | refine r_NeS ?_
    | refine r_gSub ?_
    | refine r_gCons ?_
    | refine r_gNil ?_
    | refine r_dget ?_
    | refine r_pcons ?_
    | refine r_pnil ?_
    | refine iteT ?_
    | refine iteF ?_
    | refine iteNF ?_
    | refine iteNT ?_
    | refine r_prop ?_
    | refine r_dget2 ?_
    | refine r_din ?_
    | refine r_dput ?_
    | refine r_mk ?_
    | refine r_propG ?_
    | refine r_mtd ?_
    | refine r_bm ?_
    | refine r_si ?_
    | refine r_for ?_
    | refine r_lc ?_
    | refine r_iT ?_
    | refine r_iL ?_
    | refine r_enT ?_
    | refine r_zip ?_
    | refine r_zs ?_
    | refine r_iR1 ?_
    | refine r_yes ?_
    | refine r_fld ?_
    | refine r_star1 ?_
    | refine r_ctE ?_
    | refine r_div (by decide) (by decide) ?_
    | refine r_mulL (by decide) (by decide) ?_
    | refine r_mulR (by decide) (by decide) ?_)
local macro_rules | `(tactic| walk_at "tq") => `(tactic| ((repeat walk_at "st"); first
  | assumption
  | (refine q_decT (by omega) (by assumption))
  | (refine q_decF (by omega) (by assumption))
  | (refine q_nT (by omega) (by assumption))
  | (refine q_nF (by omega) (by assumption))
  | (refine ite_dec (fun _ => ?_) (fun _ => ?_) <;> first | (exfalso; omega) | walk_at "tq")
  | (refine ite_ndec (fun _ => ?_) (fun _ => ?_) <;> first | (exfalso; omega) | walk_at "tq")))
/-! ### the nested def -/
def sAsk : Stmt := (defBody (top 59)).getD 3 (.Pass ⟨0, 0, 0, 0⟩)
def askF (cl : List (Str × Addr)) (c : Addr) : NF := NF.of sAsk "ask" (("called" : Str) ++ ".<locals>." ++ "ask") cl c
abbrev frA : List Str := ["plan", "setting", "wording", "rows", "number"]
theorem TabsN.mv {T : List NTab} {l : Addr} {H H' : Hp} (t : TabsN T H) (m : Mv l H H') : TabsN T H' := fun p hp => by
  obtain ⟨ps, h1, h2, h3⟩ := t p hp
  exact ⟨ps, m.at h1 (fun xs e => by cases e), h2, fun pos cv e => (h3 pos cv e).elim fun c z => ⟨c, z.1, m.at z.2 fun xs e => by cases e⟩⟩
/-- all but the list at r and the tables stay -/
def Xr (r : Addr) (H H' : Hp) : Prop := ∀ b o, b ≠ r → H b = some o → (∀ ps, o ≠ .tbl ps) → H' b = some o
theorem Xr.trans {r : Addr} {H H1 H2 : Hp} (a : Xr r H H1) (b : Xr r H1 H2) : Xr r H H2 := fun c o n h z => b c o n (a c o n h z) z
theorem _root_.L2.Same.xr {r : Addr} {H H' : Hp} (s : Same H H') : Xr r H H' := fun b o _ h _ => s b o h
theorem _root_.LamX.ExtN.xr {r : Addr} {H H' : Hp} (s : ExtN H H') : Xr r H H' := fun b o _ h z => s b o h z
theorem Xr.at {r a : Addr} {H H' : Hp} {o : HO} {xs : List V} (s : Xr r H H') (hr : H r = some (.lst xs)) (h : H a = some o) (h1 : ∀ ps, o ≠ .tbl ps) (h2 : ∀ xs, o ≠ .lst xs) : H' a = some o := s a o (ne_of h hr (h2 xs)) h h1
theorem Xr.isn {r : Addr} {H H' : Hp} {xs : List V} (s : Xr r H H') (hr : H r = some (.lst xs)) : Isn H H' := fun b o z h => s.at hr h (fun ps e => by rw [e] at z; cases z) (fun ys e => by rw [e] at z; cases z)
theorem fnO_lst {f : Addr} {F : NF} (xs : List V) : FnO f F ≠ .lst xs := by
  intro e
  cases e
theorem codeO_lst {c : Addr} {q : Str} (xs : List V) : CodeO c q ≠ .lst xs := by
  intro e
  cases e
/-- what ask leans on: its cells, the plan, the memory that the list at rw holds -/
structure AEnv (T : List NTab) (CP CB CF : Addr) (B : Book) (free wd : List Nat) (st g : Int) (rw : Addr) (ws : List (Option V)) (H : Hp) (M : Mem) : Prop where
  ex : ∃ pl wv mv, ws = [some pl, some (.int st), some wv, some (.ref rw), some (.int g)] ∧ PlanAt CP CB CF H pl B free ∧ Im H wv (encW wd) ∧ H rw = some (.lst [mv]) ∧ Im H mv (encM M)
  ok : MemOk B.fns.length B.base M
  tabs : TabsN T H
theorem AEnv.list {T : List NTab} {CP CB CF : Addr} {B : Book} {free wd : List Nat} {st g : Int} {rw : Addr} {ws : List (Option V)} {H : Hp} {M : Mem} (a : AEnv T CP CB CF B free wd st g rw ws H M) : ∃ xs, H rw = some (.lst xs) := by
  obtain ⟨pl, wv, mv, _, _, _, h, _⟩ := a.ex
  exact ⟨_, h⟩
/-- the plan is as the constructors made it -/
structure BookOk (B : Book) : Prop where
  fns : FnsOk B.fns B.base
  set1 : 1 ≤ B.settings
  setB : B.settings ≤ B.base
def spCalled (T : List NTab) (CP CB CF : Addr) (n : Nat) : Sp := fun vs H Q _ => ∃ (pl : V) (sc : Addr) (wv mv : V) (B : Book) (free wd : List Nat) (st g : Int) (k : Nat) (M : Mem), vs = [pl, .int st, .ref sc, .int k, .int g] ∧
  PlanAt CP CB CF H pl B free ∧ BookOk B ∧ WdOk B.fns wd ∧ 0 ≤ st ∧ st < B.base ∧ H sc = some (.tup [wv, mv]) ∧ Im H wv (encW wd) ∧ Im H mv (encM M) ∧ MemOk B.fns.length B.base M ∧ k < n ∧ k < B.fns.length ∧ 0 ≤ g ∧ g < B.base ∧ TabsN T H ∧
  ∀ p mv' H', ExtN H H' → TabsN T H' → H' p = some (.tup [.int (evC B.fns B.base wd st n k g M).1, mv']) → Im H' mv' (encM (evC B.fns B.base wd st n k g M).2) → Q (.ref p) H'
/-- what ask is asked and tells -/
def AskRes (B : Book) (wd : List Nat) (st g : Int) (n : Nat) (vs : List V) (M : Mem) (y : Int) (M' : Mem) : Prop :=
  (∃ (j : Nat) (x : Int), vs = [.str "call", .int j, .int x] ∧ j < n ∧ j < B.fns.length ∧ 0 ≤ x ∧ x < B.base ∧ (y, M') = evC B.fns B.base wd st n j x M) ∨ (vs = [.str "given"] ∧ y = g ∧ M' = M) ∨ (vs = [.str "setting"] ∧ y = st ∧ M' = M)
def spAsk (T : List NTab) (CP CB CF : Addr) (n : Nat) : List (Option V) → Sp := fun ws vs H Q _ => ∃ (B : Book) (free wd : List Nat) (st g : Int) (rw : Addr) (M : Mem) (y : Int) (M' : Mem), BookOk B ∧ WdOk B.fns wd ∧ 0 ≤ st ∧ st < B.base ∧
  AEnv T CP CB CF B free wd st g rw ws H M ∧ AskRes B wd st g n vs M y M' ∧ ∀ H', Xr rw H H' → AEnv T CP CB CF B free wd st g rw ws H' M' → Q (.int y) H'
theorem AEnv.next {T : List NTab} {CP CB CF : Addr} {B : Book} {free wd : List Nat} {st g : Int} {rw : Addr} {ws : List (Option V)} {H H' : Hp} {M M' : Mem} {mv : V} (a : AEnv T CP CB CF B free wd st g rw ws H M) (x : Xr rw H H') (t : TabsN T H') (h : H' rw = some (.lst [mv])) (im : Im H' mv (encM M'))
    (ok : MemOk B.fns.length B.base M') : AEnv T CP CB CF B free wd st g rw ws H' M' := by
  obtain ⟨pl, wv, mv0, e, h1, h2, h3, h4⟩ := a.ex
  exact ⟨⟨pl, wv, mv, e, h1.isn (x.isn h3), (x.isn h3).im h2, h, im⟩, ok, t⟩
/-- .. all but tables stay -/
theorem AEnv.same {T : List NTab} {CP CB CF : Addr} {B : Book} {free wd : List Nat} {st g : Int} {rw : Addr} {ws : List (Option V)} {H H' : Hp} {M : Mem} (a : AEnv T CP CB CF B free wd st g rw ws H M) (x : Same H H') : AEnv T CP CB CF B free wd st g rw ws H' M := by
  obtain ⟨pl, wv, mv0, e, h1, h2, h3, h4⟩ := a.ex
  exact ⟨⟨pl, wv, mv0, e, h1.isn x.isn, x.im h2, x _ _ h3, x.im h4⟩, a.ok, a.tabs.ext x⟩
section
variable {P : Program} {w : World} {K : PySem.W.Frag} {mg : Str → Option Value} {base : Heap} {T : List NTab} {CP CB CF : Addr}
theorem r_called {n : Nat} {pl : V} {sc : Addr} {wv mv : V} {B : Book} {free wd : List Nat} {st g z : Int} {k : Nat} {M : Mem} {H : Hp} {Q : VK} {E : XK} (h1 : PlanAt CP CB CF H pl B free) (h2 : BookOk B) (h3 : WdOk B.fns wd) (h4 : 0 ≤ st) (h5 : st < B.base) (h6 : H sc = some (.tup [wv, mv])) (h7 : Im H wv (encW wd))
    (h8 : Im H mv (encM M)) (h9 : MemOk B.fns.length B.base M) (h10 : k < n) (h11 : k < B.fns.length) (h12 : 0 ≤ g) (h13 : g < B.base) (h14 : TabsN T H) (hz : z = (k : Int))
    (q : ∀ p mv' H', ExtN H H' → TabsN T H' → H' p = some (.tup [.int (evC B.fns B.base wd st n k g M).1, mv']) → Im H' mv' (encM (evC B.fns B.base wd st n k g M).2) → Q (.ref p) H') : spCalled T CP CB CF n [pl, .int st, .ref sc, .int z, .int g] H Q E :=
  ⟨pl, sc, wv, mv, B, free, wd, st, g, k, M, by rw [hz], h1, h2, h3, h4, h5, h6, h7, h8, h9, h10, h11, h12, h13, h14, q⟩
theorem scAsk : NScope ["word", "rest", "plan", "setting", "wording", "rows", "number", "found"] ["word", "rest"] frA (askF [] 0).scope := nscope_by (by decide +kernel)
theorem ask_ok {n k : Nat} (cl : List (Str × Addr)) (c f : Addr) (cCalled : Cal P w K mg base "called" k ["plan", "setting", "scene", "function", "number"] (spCalled T CP CB CF n)) :
    AskOk P w K mg base (k + 1) f (askF cl c) frA (starSp ["word"] fun ws vs H Q E => ∃ (x : V) (rest : List V) (p : Addr), vs = [x, .ref p] ∧ H p = some (.tup rest) ∧ spAsk T CP CB CF n ws (x :: rest) H Q E) := by
  refine ask_of (N := ["word", "rest", "plan", "setting", "wording", "rows", "number", "found"]) (ps := ["word"]) (pv := "rest") scAsk (fun doc pm ctv => StX.bind_star1 (B := fun l => bindArgs ((askF cl c).fd doc pm ctv) ⟨l, []⟩) (fun _ => rfl) (fun _ _ _ => rfl)) fun A outer s H vs ws Q hr hf hc hwl hvl h => ?_
  obtain ⟨x, rest, p, rfl, hp, B, free, wd, st, g, rw, M, y, M', bk, wok, hs0, hs1, env, res, q⟩ := h
  refine ⟨_, (pss_cons (ps_if (pt_cmpR op_eq (pv 0) pe_str (nomark _))
        (pss_cons (ps_asg (pe_cal cCalled hr (by omega) (pa_cons (pv 2) (pa_cons (pv 3) (pa_cons (pe_tup (pa_cons (pv 4) (pa_cons (pe_ix ix_list (pv 5) pe_int (fun _ _ => rfl)) pa_nil))) (pa_cons (pe_ix ix_tup (pv 1) pe_int (fun _ _ => rfl)) (pa_cons (pe_ix ix_tup (pv 1) pe_int (fun _ _ => rfl)) pa_nil)))))) (pg_tup rfl (pgs_cons (pg_name (i := 7) scAsk.nd rfl (by first | exact Or.inl rfl | exact Or.inr rfl)) (pgs_cons (pg_sub (pv 5) pe_int set_list) pgs_nil))))
        (pss_one (ps_ret (pv 7))))
        pss_nil)
      (pss_one (ps_ret (pe_ifExp (pt_cmpR op_eq (pv 0) pe_str (nomark _)) (pv 6) (pv 3))))), ?_⟩
  obtain ⟨pl, wv, mv, ews, hpl, hwv, hrw, hmv⟩ := env.ex
  subst ews
  rcases res with ⟨j, z, e, hj, hjl, hz0, hz1, ev⟩ | ⟨e, rfl, rfl⟩ | ⟨e, rfl, rfl⟩
  · obtain ⟨rfl, rfl⟩ := List.cons.inj e
    have ey : y = _ := congrArg Prod.fst ev
    have eM : M' = _ := congrArg Prod.snd ev
    refine r_seq (t_ifY (fun Q' k => ?_) ?_)
    · repeat walk_at "st"
      exact q_decT rfl k
    repeat walk_at "st"
    refine r_ixL (.of hrw) (v := mv) rfl ?_
    repeat walk_at "st"
    refine r_newT (by show 2 ≤ sizeLine; decide) fun p1 H1 np1 s1 e1 => ?_
    repeat walk_at "st"
    refine r_ixT (.of (s1.at hp)) (v := .int j) rfl ?_
    repeat walk_at "st"
    refine r_ixT (.of (s1.at hp)) (v := .int z) rfl ?_
    repeat walk_at "st"
    refine r_called (hpl.isn s1.isn) bk wok hs0 hs1 e1 (s1.im hwv) (s1.im hmv) env.ok hj hjl hz0 hz1 (env.tabs.ext s1) rfl fun p2 mv' H2 x2 t2 e2 im2 => ?_
    have hrw2 : H2 rw = some (.lst [mv]) := x2 _ _ (s1.at hrw) fun ps e => by cases e
    refine r_gTup (.of e2) rfl ?_
    repeat walk_at "st"
    refine r_setL hrw2 (j := 0) rfl fun H3 m3 e3 => ?_
    repeat walk_at "st"
    rw [← ey]
    have x3 : Xr rw H H3 := (s1.xr.trans x2.xr).trans fun b o n h _ => m3.rest b o n h
    refine q H3 x3 (env.next (mv := mv') x3 (K5.TabsN.mv t2 m3) e3 ?_ ?_)
    · rw [eM]
      exact m3.im im2
    · rw [eM]
      exact (evC_ok bk.fns wok hs0 hs1 n j z M hj hjl hz0 hz1 env.ok).2.2
  · obtain ⟨rfl, rfl⟩ := List.cons.inj e
    refine r_seq (t_ifN (fun Q' k => ?_) ?_)
    · repeat walk_at "st"
      exact q_decF (by decide) k
    repeat walk_at "st"
    refine ite_dec (fun _ => ?_) fun z => absurd rfl z
    repeat walk_at "st"
    exact q H (fun b o _ h _ => h) env
  · obtain ⟨rfl, rfl⟩ := List.cons.inj e
    refine r_seq (t_ifN (fun Q' k => ?_) ?_)
    · repeat walk_at "st"
      exact q_decF (by decide) k
    repeat walk_at "st"
    refine ite_dec (fun z => absurd z (by decide)) fun _ => ?_
    repeat walk_at "st"
    exact q H (fun b o _ h _ => h) env
end
/-! ### comes_to -/
/-- what a call of the module's def at g comes to, while the cells cl hold ws -/
def CtOk (P : Program) (w : World) (K : PySem.W.Frag) (mg : Str → Option Value) (base : Heap) (j : Nat) (g : Addr) (cl : List (Str × Addr)) (fr : List Str) (sp : List (Option V) → Sp) : Prop :=
  ∀ (A : Around) (outer : List Env) (s : Shared) (H : Hp) (us : List Value) (vs : List V) (ws : List (Option V)) (Q : VK), Room j A → Env0 P w K mg base A outer s H → CellsAt cl fr ws s.heap H → (∀ y c, cl.lookup y = some c → c ∉ frs outer) → Vals vs us → sp ws vs H Q E0 →
    codeAny (model P w) A (.call (.ref g) ⟨us, []⟩) (CR CX0 outer P w H s Q E0) s
section
variable {X : Cx} {cl : List (Str × Addr)} {fr : List Str} {g : Addr} {i j : Nat} {x : Str} {sp : List (Option V) → Sp} {t : TA} {e : Expr} {es : List Expr} {p pos : Pos} {wf : L2.St → List (Option V)}
def tCt (sp : List (Option V) → Sp) (wf : L2.St → List (Option V)) (t : TA) : TE := fun σ H Q => t σ H fun vs H1 => sp (wf σ) vs H1 Q E0
theorem pe_ct (Ct : CtOk X.prog X.w X.K X.mg X.base j g cl fr sp) (hC : ∀ pins s σ H, Inv X pins σ H s → CellsAt cl fr (wf σ) s.heap H) (nf : ∀ pins s σ H, Inv X pins σ H s → ∀ y c, cl.lookup y = some c → c ∉ frs X.stack) (hr : Room i X.A) (hj : j ≤ i) (hg : Gl X x) (hm : X.mg x = some (.ref g))
    (hk : PySem.W.keepIn X.K (.ref g) = true) (ha : PA X (e :: es) t) (hdb : (x == ("__debug__" : Str)) = false := by decide) (he : starEach (e :: es) X.env = (false, eval e X.env) :: starEach es X.env := by rfl) (hpl : (backTo pos (starEach es X.env)).any (·.1) = false := by rfl) :
    PE X (.Call (.Name x p) (e :: es) [] pos) (tCt sp wf t) := by
  refine ⟨fun pins s σ H Q I h => ?_⟩
  refine wpAny_Call_Name_kw (ld_glob I hg hm ?_ hdb)
  refine PySem.W.callWith_K (first := []) (h₀ := X.base) I.ok.mod.kin hk (thn (ha.run pos pins s σ H _ I h) fun us s2 ⟨vs, H2, I2, r, q⟩ => ⟨I2.kIn, ?_⟩) he hpl
  show wpAny _ _ (call (.ref g) us) _ _ _
  refine wpAny_call (codeAny_mono (Ct X.A X.stack s2 H2 us vs (wf σ) Q (hr.mono hj) I2.env0 (hC _ _ _ _ I2) (nf _ _ _ _ I2) r q) fun z s' hq => ?_)
  cases z with
  | error er => exact False.elim hq
  | ok fl =>
    cases fl with
    | ret u => exact I2.after hq
    | next => exact False.elim hq
    | brk => exact False.elim hq
    | cont => exact False.elim hq
end
/-- the words' signs, as the module's SIGNS has them -/
abbrev signs : List (Str × Str) := [("number", "n"), ("given", ""), ("setting", ""), ("column", "c"), ("kept", "c"), ("call", "nf"), ("sum", "ff"), ("less", "ff"), ("times", "ff"), ("same", "ff"), ("when", "fff")]
def SgAt (K : PySem.W.Frag) (w : World) (d : Addr) (tab : List (Str × V)) : Prop := ∀ q ∈ tab, KDct K w d q.1 q.2
def wordOf : Tr → Str
  | .num _ => "number"
  | .given => "given"
  | .setting => "setting"
  | .col _ => "column"
  | .kept _ => "kept"
  | .call _ _ => "call"
  | .two o _ _ => opN o
  | .cond _ _ _ => "when"
/-- the tuple of a tree -/
theorem enc_at {H : Hp} {v : V} {t : Tr} (h : Im H v (enc t)) : ∃ a xs, v = .ref a ∧ H a = some (.tup (.str (wordOf t) :: xs)) := by
  have go : ∀ {d : Str} {ds : List PyData}, Im H v (.tuple (.str d :: ds)) → ∃ a xs, v = .ref a ∧ H a = some (.tup (.str d :: xs)) := by
    intro d ds h
    cases h with
    | tup ha hx =>
      cases hx with
      | cons h1 h2 =>
        cases h1
        exact ⟨_, _, rfl, ha⟩
  cases t <;> (simp only [enc] at h; exact go h)
theorem enc_num {H : Hp} {v : V} {n : Int} (h : Im H v (enc (.num n))) : ∃ a, v = .ref a ∧ H a = some (.tup [.str "number", .int n]) := by
  simp only [enc] at h
  cases h with
  | tup ha hx =>
    cases hx with
    | cons h1 h2 =>
      cases h1
      cases h2 with
      | cons h3 h4 =>
        cases h3
        cases h4
        exact ⟨_, rfl, ha⟩
theorem enc_w {H : Hp} {v : V} {d : Str} (h : Im H v (.tuple [.str d])) : ∃ a, v = .ref a ∧ H a = some (.tup [.str d]) := by
  cases h with
  | tup ha hx =>
    cases hx with
    | cons h1 h2 =>
      cases h1
      cases h2
      exact ⟨_, rfl, ha⟩
theorem enc_call {H : Hp} {v : V} {k : Nat} {t : Tr} (h : Im H v (enc (.call k t))) : ∃ a u, v = .ref a ∧ H a = some (.tup [.str "call", .int k, u]) ∧ Im H u (enc t) := by
  simp only [enc] at h
  cases h with
  | tup ha hx =>
    cases hx with
    | cons h1 h2 =>
      cases h1
      cases h2 with
      | cons h3 h4 =>
        cases h3
        cases h4 with
        | cons h5 h6 =>
          cases h6
          exact ⟨_, _, rfl, ha, h5⟩
theorem enc_two {H : Hp} {v : V} {d : Str} {x y : PyData} (h : Im H v (.tuple [.str d, x, y])) : ∃ a u1 u2, v = .ref a ∧ H a = some (.tup [.str d, u1, u2]) ∧ Im H u1 x ∧ Im H u2 y := by
  cases h with
  | tup ha hx =>
    cases hx with
    | cons h1 h2 =>
      cases h1
      cases h2 with
      | cons h3 h4 =>
        cases h4 with
        | cons h5 h6 =>
          cases h6
          exact ⟨_, _, _, rfl, ha, h3, h5⟩
theorem enc_three {H : Hp} {v : V} {d : Str} {x y z : PyData} (h : Im H v (.tuple [.str d, x, y, z])) : ∃ a u1 u2 u3, v = .ref a ∧ H a = some (.tup [.str d, u1, u2, u3]) ∧ Im H u1 x ∧ Im H u2 y ∧ Im H u3 z := by
  cases h with
  | tup ha hx =>
    cases hx with
    | cons h1 h2 =>
      cases h1
      cases h2 with
      | cons h3 h4 =>
        cases h4 with
        | cons h5 h6 =>
          cases h6 with
          | cons h7 h8 =>
            cases h8
            exact ⟨_, _, _, _, rfl, ha, h3, h5, h7⟩
def spCt (T : List NTab) (CP CB CF : Addr) (cl : List (Str × Addr)) (n k d : Nat) : List (Option V) → Sp := fun ws vs H Q _ => ∃ (f c : Addr) (tv : V) (t : Tr) (B : Book) (free wd : List Nat) (st g : Int) (rw : Addr) (M : Mem), vs = [tv, .int B.base, .ref f] ∧
  H f = some (FnO f (askF cl c)) ∧ H c = some (CodeO c (askF cl c).qual) ∧ BookOk B ∧ WdOk B.fns wd ∧ 0 ≤ st ∧ st < B.base ∧ 0 ≤ g ∧ g < B.base ∧ k ≤ n ∧ k ≤ B.fns.length ∧ Im H tv (enc t) ∧ okB B.base k t ∧ dep t < d ∧ AEnv T CP CB CF B free wd st g rw ws H M ∧
  ∀ H', Xr rw H H' → AEnv T CP CB CF B free wd st g rw ws H' (evT (evC B.fns B.base wd st n) B.base st g t M).2 → Q (.int (evT (evC B.fns B.base wd st n) B.base st g t M).1) H'
section
variable {P : Program} {w : World} {K : PySem.W.Frag} {mg : Str → Option Value} {base : Heap} {T : List NTab} {CP CB CF : Addr}
theorem r_ctE {sp : List (Option V) → Sp} {wf : L2.St → List (Option V)} {t : TA} {σ : L2.St} {H : Hp} {Q : VK} (q : t σ H fun vs H1 => sp (wf σ) vs H1 Q E0) : tCt sp wf t σ H Q := q
theorem r_askE {i : Nat} {f : Addr} {F : NF} {ws : List (Option V)} {sp : List (Option V) → Sp} {t : TA} {σ : L2.St} {H : Hp} {Q : VK} (h : σ[i]? = some (some (.ref f))) (hf : H f = some (FnO f F)) (q : t σ H fun vs H1 => H1 f = some (FnO f F) ∧ H1 F.c = some (CodeO F.c F.qual) ∧ sp ws vs H1 Q E0) : tAsk i f F ws sp t σ H Q := ⟨h, hf, q⟩
theorem r_star {n : Nat} {ws : List (Option V)} {x : V} {rest : List V} {H : Hp} {Q : VK} {E : XK} (hl : rest.length ≤ sizeLine) (q : ∀ H', Same H H' → spAsk T CP CB CF n ws (x :: rest) H' Q E) :
    starSp ["word"] (fun ws vs H Q E => ∃ (x : V) (rest : List V) (p : Addr), vs = [x, .ref p] ∧ H p = some (.tup rest) ∧ spAsk T CP CB CF n ws (x :: rest) H Q E) ws (x :: rest) H Q E := ⟨[x], rest, rfl, rfl, hl, fun p hp => ⟨x, rest, p, rfl, upd_same, q _ (same_upd hp)⟩⟩
theorem opN_ne {o : Nat} : opN o ≠ "number" ∧ opN o ≠ "call" ∧ opN o ≠ "when" ∧ (opN o, ("ff" : Str)) ∈ signs := by
  unfold opN
  split <;> refine ⟨by decide, by decide, by decide, by decide⟩
theorem opN_same {o : Nat} (h : o < 4) : opN o = "same" ↔ o = 3 := by
  have z : o = 0 ∨ o = 1 ∨ o = 2 ∨ o = 3 := by omega
  rcases z with rfl | rfl | rfl | rfl <;> decide
theorem scCt : FnScope ["tree", "base", "ask", "word", "one", "other"] ["tree", "base", "ask"] (defScope (top 27)) := ⟨rfl, rfl, rfl, by decide +kernel, rfl, by decide +kernel, by decide +kernel⟩
theorem ct_step {n k d l : Nat} {dS : Addr} (B : Bf mg) (gSg : mg "SIGNS" = some (.ref dS)) (sg : SgAt K w dS (signs.map fun q => (q.1, V.str q.2))) {gc : Addr} {fd : FuncData} (D : FunD K "comes_to" "comes_to" (defArgs (top 27)) (defBody (top 27)) (defScope (top 27)) [] [] gc fd) (gCt : mg "comes_to" = some (.ref gc))
    (cl : List (Str × Addr)) (Ak : ∀ f c, AskOk P w K mg base l f (askF cl c) frA (starSp ["word"] fun ws vs H Q E => ∃ (x : V) (rest : List V) (p : Addr), vs = [x, .ref p] ∧ H p = some (.tup rest) ∧ spAsk T CP CB CF n ws (x :: rest) H Q E))
    (Ct : CtOk P w K mg base (l + d) gc cl frA (spCt T CP CB CF cl n k d)) : CtOk P w K mg base (l + d + 1) gc cl frA (spCt T CP CB CF cl n k (d + 1)) := by
  intro A outer s H us vs ws Q hr e0 C0 nf0 r h
  have kCt := D.kp
  obtain ⟨oc, od, dV, kV, doc, pm, an, cdv, ct, osl, rfl, lk, hcd, dfl, kwd⟩ := D.ex
  obtain ⟨f, c, tv, t, Bk, free, wd, st, g, rw, M, rfl, hf, hc, bk, wok, hs0, hs1, hg0, hg1, hkn, hkl, im, ok, hd, env, q⟩ := h
  obtain rfl : dV = .none := by
    rcases dfl with z | z
    · exact z.2
    · exact absurd rfl z.1
  have Ak := Ak f c
  have nf : ∀ y c, cl.lookup y = some c → c ∉ (cxOf CX0 P w K mg base ["tree", "base", "ask", "word", "one", "other"] "comes_to" (defScope (top 27)) gc cdv A outer s H E0).fs := nf0
  refine LamX.run_ofS (N := ["tree", "base", "ask", "word", "one", "other"]) (ps := ["tree", "base", "ask"]) lk hcd scCt hr e0 ?_ r rfl fun hr => ?_
  · have hl : us.length = 3 := by
      rw [← r.length]
      rfl
    match us, hl with
    | [_, _, _], _ => exact .of_eq rfl
  · have hC : ∀ pins s' σ H', Inv (cxOf CX0 P w K mg base ["tree", "base", "ask", "word", "one", "other"] "comes_to" (defScope (top 27)) gc cdv A outer s H E0) pins σ H' s' → CellsAt cl frA ((fun _ => ws) σ) s'.heap H' := fun pins s' σ H' I => CellsAt.later (X := cxOf CX0 P w K mg base ["tree", "base", "ask", "word", "one", "other"] "comes_to" (defScope (top 27)) gc cdv A outer s H E0) C0 nf (fun _ _ _ => List.not_mem_nil) I
    have nfs : ∀ pins s' σ H', Inv (cxOf CX0 P w K mg base ["tree", "base", "ask", "word", "one", "other"] "comes_to" (defScope (top 27)) gc cdv A outer s H E0) pins σ H' s' → ∀ y c, cl.lookup y = some c → c ∉ frs (cxOf CX0 P w K mg base ["tree", "base", "ask", "word", "one", "other"] "comes_to" (defScope (top 27)) gc cdv A outer s H E0).stack := fun pins s' σ H' I y c e hm => by
      obtain ⟨_, v, o, ho, _⟩ := C0.all y c e
      have hm2 : c ∈ s.heap.objs.size :: frs outer := hm
      rcases List.mem_cons.mp hm2 with z | z
      · exact absurd (Heap.lt_size ho) (by rw [z]; exact Nat.lt_irrefl _)
      · exact nf0 y c e z
    refine ⟨_, (pss_cons (ps_set (i := 3) scCt.nd rfl (by first | exact Or.inl rfl | exact Or.inr rfl) (pe_ix ix_tup (pv 0) pe_int (fun _ _ => rfl)))
      (pss_cons (ps_if (pt_cmpR op_eq (pv 3) pe_str (nomark _))
        (pss_one (ps_ret (pe_ix ix_tup (pv 0) pe_int (fun _ _ => rfl))))
        pss_nil)
      (pss_cons (ps_if (pt_cmpR op_eq (pv 3) pe_str (nomark _))
        (pss_one (ps_ret (pe_ask (i := 2) Ak C0 nf (fun _ _ _ => List.not_mem_nil) hr (by omega) (pa_cons pe_str (pa_cons (pe_ix ix_tup (pv 0) pe_int (fun _ _ => rfl)) (pa_cons (pe_ct Ct hC nfs hr (by omega) (by rfl) gCt kCt (pa_cons (pe_ix ix_tup (pv 0) pe_int (fun _ _ => rfl)) (pa_cons (pv 1) (pa_cons (pv 2) pa_nil)))) pa_nil))))))
        pss_nil)
      (pss_cons (ps_if (pt_cmpR op_in_seq (pe_ix ix_kdict (pe_globR gSg) (pv 3) (fun _ _ => rfl)) (pe_tup (pa_cons pe_str (pa_cons pe_str pa_nil))) (by with_unfolding_all rfl))
        (pss_one (ps_ret (pe_askS (i := 2) Ak C0 nf (fun _ _ _ => List.not_mem_nil) hr (by omega) (pv 0))))
        pss_nil)
      (pss_cons (ps_if (pt_cmpR op_eq (pv 3) pe_str (nomark _))
        (pss_one (ps_ret (pe_ct Ct hC nfs hr (by omega) (by rfl) gCt kCt (pa_cons (pe_ifExp (pt_cmpR op_ne (pe_ct Ct hC nfs hr (by omega) (by rfl) gCt kCt (pa_cons (pe_ix ix_tup (pv 0) pe_int (fun _ _ => rfl)) (pa_cons (pv 1) (pa_cons (pv 2) pa_nil)))) pe_int (nomark _)) (pe_ix ix_tup (pv 0) pe_int (fun _ _ => rfl)) (pe_ix ix_tup (pv 0) pe_int (fun _ _ => rfl))) (pa_cons (pv 1) (pa_cons (pv 2) pa_nil))))))
        pss_nil)
      (pss_cons (ps_par (i := 4) (j := 5) rfl scCt.nd rfl rfl (by decide) rfl rfl (pa_cons (pe_ct Ct hC nfs hr (by omega) (by rfl) gCt kCt (pa_cons (pe_ix ix_tup (pv 0) pe_int (fun _ _ => rfl)) (pa_cons (pv 1) (pa_cons (pv 2) pa_nil)))) (pa_cons (pe_ct Ct hC nfs hr (by omega) (by rfl) gCt kCt (pa_cons (pe_ix ix_tup (pv 0) pe_int (fun _ _ => rfl)) (pa_cons (pv 1) (pa_cons (pv 2) pa_nil)))) pa_nil)) rfl)
      (pss_cons (ps_if (pt_cmpR op_eq (pv 3) pe_str (nomark _))
        (pss_one (ps_ret (pe_ifExp (pt_cmpR op_eq (pv 4) (pv 5) (nomark _)) pe_int pe_int)))
        pss_nil)
      (pss_one (ps_ret (pe_op op_mod (pe_dget (hu_of hr) (pe_disp (pps_cons pe_str (pe_op op_add (pv 4) (pv 5)) (pps_cons pe_str (pe_op op_sub (pv 4) (pv 5)) (pps_cons pe_str (pe_op op_mul (pv 4) (pv 5)) pps_nil))) (by rfl) (by rfl) (fun z => by cases z) (by decide)) (pv 3) (fun _ _ => rfl)) (pv 1))))))))))), ?_⟩
    obtain ⟨ys, hrw⟩ := env.list
    have fAt : ∀ {H1 : Hp}, Xr rw H H1 → H1 f = some (FnO f (askF cl c)) := fun x => x.at hrw hf (fun ps => fnO_ne ps) (fun xs => fnO_lst xs)
    have cAt : ∀ {H1 : Hp}, Xr rw H H1 → H1 (askF cl c).c = some (CodeO (askF cl c).c (askF cl c).qual) := fun x => x.at hrw hc (fun ps => codeO_ne ps) (fun xs => codeO_lst xs)
    have sub : ∀ (u : V) (t' : Tr) (H1 : Hp) (M1 : Mem) (Q1 : VK), Xr rw H H1 → AEnv T CP CB CF Bk free wd st g rw ws H1 M1 → Im H u (enc t') → okB Bk.base k t' → dep t' < d →
        (∀ H2, Xr rw H1 H2 → AEnv T CP CB CF Bk free wd st g rw ws H2 (evT (evC Bk.fns Bk.base wd st n) Bk.base st g t' M1).2 → Q1 (.int (evT (evC Bk.fns Bk.base wd st n) Bk.base st g t' M1).1) H2) → spCt T CP CB CF cl n k d ws [u, .int Bk.base, .ref f] H1 Q1 E0 :=
      fun u t' H1 M1 Q1 x a iu ou du q1 => ⟨f, c, u, t', Bk, free, wd, st, g, rw, M1, rfl, fAt x, cAt x, bk, wok, hs0, hs1, hg0, hg1, hkn, hkl, (x.isn hrw).im iu, ou, du, a, q1⟩
    have refl : Xr rw H H := fun b o _ h _ => h
    have sig : ∀ (z y : Str), (z, y) ∈ signs → KDct K w dS z (.str y) := fun z y hz => sg (z, .str y) (List.mem_map.mpr ⟨(z, y), hz, rfl⟩)
    have okF : ∀ (j : Nat) (x : Int) (m : Mem), j < k → 0 ≤ x → x < (Bk.base : Int) → MemOk Bk.fns.length Bk.base m → 0 ≤ (evC Bk.fns Bk.base wd st n j x m).1 ∧ (evC Bk.fns Bk.base wd st n j x m).1 < Bk.base ∧ MemOk Bk.fns.length Bk.base (evC Bk.fns Bk.base wd st n j x m).2 :=
      fun j x m hj h0 h1 hm => evC_ok bk.fns wok hs0 hs1 n j x m (by omega) (by omega) h0 h1 hm
    have vOk : ∀ (t' : Tr) (m : Mem), okB Bk.base k t' → MemOk Bk.fns.length Bk.base m → 0 ≤ (evT (evC Bk.fns Bk.base wd st n) Bk.base st g t' m).1 ∧ (evT (evC Bk.fns Bk.base wd st n) Bk.base st g t' m).1 < Bk.base ∧ MemOk Bk.fns.length Bk.base (evT (evC Bk.fns Bk.base wd st n) Bk.base st g t' m).2 :=
      fun t' m => evT_ok bk.fns.base2 hs0 hs1 hg0 hg1 okF t' m
    cases t with
    | num m =>
      obtain ⟨a, rfl, ha⟩ := enc_num im
      repeat walk_at "st"
      refine r_ixT (.of ha) (v := .str "number") rfl ?_
      repeat walk_at "st"
      refine t_ifY (fun Q' k => ?_) ?_
      · repeat walk_at "st"
        exact q_decT rfl k
      repeat walk_at "st"
      refine r_ixT (.of ha) (v := .int m) rfl ?_
      exact q H refl env
    | given =>
      obtain ⟨a, rfl, ha⟩ := enc_w (by simpa only [enc] using im)
      repeat walk_at "st"
      refine r_ixT (.of ha) (v := .str "given") rfl ?_
      repeat walk_at "st"
      refine t_ifN (fun Q' k => ?_) ?_
      · repeat walk_at "st"
        exact q_decF (by decide) k
      repeat walk_at "st"
      refine t_ifN (fun Q' k => ?_) ?_
      · repeat walk_at "st"
        exact q_decF (by decide) k
      repeat walk_at "st"
      refine t_ifYS (fun Q' k => ?_) fun H1 s1 => ?_
      · repeat walk_at "st"
        refine r_ixD (sig "given" "" (by decide)) ?_
        repeat walk_at "st"
        refine r_newT (by show 2 ≤ sizeLine; decide) fun p H1 np s1 e1 => ?_
        refine r_inT (.of e1) rfl rfl ?_
        exact r_exbl (k H1 s1)
      repeat walk_at "st"
      refine ⟨rfl, ?_⟩
      repeat walk_at "st"
      refine ⟨a, _, rfl, .of (s1.at ha), fAt s1.xr, cAt s1.xr, r_star (Nat.zero_le _) fun H3 s3 => ?_⟩
      refine ⟨Bk, free, wd, st, g, rw, M, _, _, bk, wok, hs0, hs1, (env.same s1).same s3, .inr (.inl ⟨rfl, rfl, rfl⟩), fun H4 x4 a4 => ?_⟩
      exact q H4 ((s1.xr.trans s3.xr).trans x4) a4
    | setting =>
      obtain ⟨a, rfl, ha⟩ := enc_w (by simpa only [enc] using im)
      repeat walk_at "st"
      refine r_ixT (.of ha) (v := .str "setting") rfl ?_
      repeat walk_at "st"
      refine t_ifN (fun Q' k => ?_) ?_
      · repeat walk_at "st"
        exact q_decF (by decide) k
      repeat walk_at "st"
      refine t_ifN (fun Q' k => ?_) ?_
      · repeat walk_at "st"
        exact q_decF (by decide) k
      repeat walk_at "st"
      refine t_ifYS (fun Q' k => ?_) fun H1 s1 => ?_
      · repeat walk_at "st"
        refine r_ixD (sig "setting" "" (by decide)) ?_
        repeat walk_at "st"
        refine r_newT (by show 2 ≤ sizeLine; decide) fun p H1 np s1 e1 => ?_
        refine r_inT (.of e1) rfl rfl ?_
        exact r_exbl (k H1 s1)
      repeat walk_at "st"
      refine ⟨rfl, ?_⟩
      repeat walk_at "st"
      refine ⟨a, _, rfl, .of (s1.at ha), fAt s1.xr, cAt s1.xr, r_star (Nat.zero_le _) fun H3 s3 => ?_⟩
      refine ⟨Bk, free, wd, st, g, rw, M, _, _, bk, wok, hs0, hs1, (env.same s1).same s3, .inr (.inr ⟨rfl, rfl, rfl⟩), fun H4 x4 a4 => ?_⟩
      exact q H4 ((s1.xr.trans s3.xr).trans x4) a4
    | col _ => exact ok.elim
    | kept _ => exact ok.elim
    | call j t =>
      obtain ⟨a, u, rfl, ha, iu⟩ := enc_call im
      repeat walk_at "st"
      refine r_ixT (.of ha) (v := .str "call") rfl ?_
      repeat walk_at "st"
      refine t_ifN (fun Q' k => ?_) ?_
      · repeat walk_at "st"
        exact q_decF (by decide) k
      repeat walk_at "st"
      refine t_ifY (fun Q' k => ?_) ?_
      · repeat walk_at "st"
        exact q_decT rfl k
      repeat walk_at "st"
      refine r_askE rfl hf ?_
      repeat walk_at "st"
      refine r_ixT (.of ha) (v := .int j) rfl ?_
      repeat walk_at "st"
      refine r_ctE ?_
      repeat walk_at "st"
      refine r_ixT (.of ha) (v := u) rfl ?_
      repeat walk_at "st"
      have hdt : dep t < d := by
        simp only [dep] at hd
        omega
      refine sub u t H M _ refl env iu ok.2 hdt fun H2 x2 a2 => ?_
      obtain ⟨v0, v1, _⟩ := vOk t M ok.2 env.ok
      refine ⟨fAt x2, cAt x2, r_star (by show 2 ≤ sizeLine; decide) fun H3 s3 => ?_⟩
      refine ⟨Bk, free, wd, st, g, rw, _, _, _, bk, wok, hs0, hs1, a2.same s3, .inl ⟨j, _, rfl, by have := ok.1; omega, by have := ok.1; omega, v0, v1, rfl⟩, fun H4 x4 a4 => ?_⟩
      exact q H4 ((x2.trans s3.xr).trans x4) a4
    | two o x y =>
      obtain ⟨a, u1, u2, rfl, ha, i1, i2⟩ := enc_two (by simpa only [enc] using im)
      obtain ⟨ne1, ne2, ne3, msg⟩ := @opN_ne o
      have hd' : dep x < d ∧ dep y < d := by
        simp only [dep] at hd
        omega
      repeat walk_at "st"
      refine r_ixT (.of ha) (v := .str (opN o)) rfl ?_
      repeat walk_at "st"
      refine t_ifN (fun Q' k => ?_) ?_
      · repeat walk_at "st"
        exact q_decF ne1 k
      repeat walk_at "st"
      refine t_ifN (fun Q' k => ?_) ?_
      · repeat walk_at "st"
        exact q_decF ne2 k
      repeat walk_at "st"
      refine t_ifNS (fun Q' k => ?_) fun H1 s1 => ?_
      · repeat walk_at "st"
        refine r_ixD (sig (opN o) "ff" msg) ?_
        repeat walk_at "st"
        refine r_newT (by show 2 ≤ sizeLine; decide) fun p H1 np s1 e1 => ?_
        refine r_inT (.of e1) rfl rfl ?_
        exact r_exbl (k H1 s1)
      have a1 := env.same s1
      repeat walk_at "st"
      refine t_ifN (fun Q' k => ?_) ?_
      · repeat walk_at "st"
        exact q_decF ne3 k
      repeat walk_at "st"
      refine r_ctE ?_
      repeat walk_at "st"
      refine r_ixT (.of (s1.at ha)) (v := u1) rfl ?_
      repeat walk_at "st"
      refine sub u1 x H1 M _ s1.xr a1 i1 ok.2.1 hd'.1 fun H2 x2 a2 => ?_
      have x02 := s1.xr.trans x2
      have ha2 := x02.at hrw ha (fun ps e => by cases e) (fun xs e => by cases e)
      repeat walk_at "st"
      refine r_ctE ?_
      repeat walk_at "st"
      refine r_ixT (.of ha2) (v := u2) rfl ?_
      repeat walk_at "st"
      refine sub u2 y H2 _ _ x02 a2 i2 ok.2.2 hd'.2 fun H3 x3 a3 => ?_
      have x03 := x02.trans x3
      obtain ⟨v0, v1, m1⟩ := vOk x M ok.2.1 env.ok
      obtain ⟨v2, v3, _⟩ := vOk y _ ok.2.2 m1
      simp only [evT] at q
      generalize (evT (evC Bk.fns Bk.base wd st n) Bk.base st g x M).1 = p1 at q v0 v1 ⊢
      generalize hp2 : (evT (evC Bk.fns Bk.base wd st n) Bk.base st g y (evT (evC Bk.fns Bk.base wd st n) Bk.base st g x M).2).1 = p2 at q v2 v3 ⊢
      have b3 := bk.fns.base3
      repeat walk_at "st"
      by_cases h3 : o = 3
      · refine t_ifY (fun Q' k => ?_) ?_
        · repeat walk_at "st"
          exact q_decT ((opN_same ok.1).mpr h3) k
        subst h3
        repeat walk_at "st"
        refine ite_dec (fun e => ?_) fun e => ?_
        · repeat walk_at "st"
          have z := q H3 x03 a3
          rwa [show opV Bk.base 3 p1 p2 = 1 from if_pos e] at z
        · repeat walk_at "st"
          have z := q H3 x03 a3
          rwa [show opV Bk.base 3 p1 p2 = 0 from if_neg e] at z
      · refine t_ifN (fun Q' k => ?_) ?_
        · repeat walk_at "st"
          exact q_decF (fun z => h3 ((opN_same ok.1).mp z)) k
        repeat walk_at "st"
        refine r_disp fun pd H4 np s4 e4 => ?_
        repeat walk_at "st"
        refine r_mulL (by omega) (by omega) ?_
        repeat walk_at "st"
        refine ⟨e4, [(.inr "sum", .int (p1 + p2)), (.inr "less", .int (p1 - p2)), (.inr "times", .int (p1 * p2))], rfl, by show 3 ≤ 15; decide, ?_⟩
        obtain ⟨H5, eH5, s5, e5⟩ : ∃ H5, upd H4 pd (.dK (mergeK [] [((.inr "sum" : Key), V.int (p1 + p2)), (.inr "less", .int (p1 - p2)), (.inr "times", .int (p1 * p2))])) = H5 ∧ Same H3 H5 ∧ H5 pd = some (.dK (mergeK [] [((.inr "sum" : Key), V.int (p1 + p2)), (.inr "less", .int (p1 - p2)), (.inr "times", .int (p1 * p2))])) :=
          ⟨_, rfl, fun b o h => by rw [upd_ne (ne_of_none h np)]; exact s4 _ _ h, upd_same⟩
        rw [eH5]
        repeat walk_at "st"
        obtain ⟨val, hval, hop⟩ : ∃ val : Int, valV (mergeK [] [((.inr "sum" : Key), V.int (p1 + p2)), (.inr "less", .int (p1 - p2)), (.inr "times", .int (p1 * p2))]) (.inr (opN o)) = some (.int val) ∧ opV Bk.base o p1 p2 = val % Bk.base := by
          have z : o = 0 ∨ o = 1 ∨ o = 2 := by
            have := ok.1
            omega
          rcases z with rfl | rfl | rfl
          · exact ⟨p1 + p2, rfl, rfl⟩
          · exact ⟨p1 - p2, rfl, rfl⟩
          · exact ⟨p1 * p2, rfl, rfl⟩
        refine ⟨pd, .int val, rfl, ?_, ?_⟩
        · rw [← hval]
          exact DGet.k (k := .inr (opN o)) e5
        repeat walk_at "st"
        have b2 := bk.fns.base2
        refine r_I (by omega) ?_
        have z := q H5 (x03.trans s5.xr) (a3.same s5)
        rwa [hop] at z
    | cond x y z =>
      obtain ⟨a, u1, u2, u3, rfl, ha, i1, i2, i3⟩ := enc_three (by simpa only [enc] using im)
      have hd' : dep x < d ∧ dep y < d ∧ dep z < d := by
        simp only [dep] at hd
        omega
      repeat walk_at "st"
      refine r_ixT (.of ha) (v := .str "when") rfl ?_
      repeat walk_at "st"
      refine t_ifN (fun Q' k => ?_) ?_
      · repeat walk_at "st"
        exact q_decF (by decide) k
      repeat walk_at "st"
      refine t_ifN (fun Q' k => ?_) ?_
      · repeat walk_at "st"
        exact q_decF (by decide) k
      repeat walk_at "st"
      refine t_ifNS (fun Q' k => ?_) fun H1 s1 => ?_
      · repeat walk_at "st"
        refine r_ixD (sig "when" "fff" (by decide)) ?_
        repeat walk_at "st"
        refine r_newT (by show 2 ≤ sizeLine; decide) fun p H1 np s1 e1 => ?_
        refine r_inT (.of e1) rfl rfl ?_
        exact r_exbl (k H1 s1)
      have a1 := env.same s1
      repeat walk_at "st"
      refine t_ifY (fun Q' k => ?_) ?_
      · repeat walk_at "st"
        exact q_decT rfl k
      repeat walk_at "st"
      refine r_ctE ?_
      repeat walk_at "st"
      refine r_ctE ?_
      repeat walk_at "st"
      refine r_ixT (.of (s1.at ha)) (v := u1) rfl ?_
      repeat walk_at "st"
      refine sub u1 x H1 M _ s1.xr a1 i1 ok.1 hd'.1 fun H2 x2 a2 => ?_
      have x02 := s1.xr.trans x2
      have ha2 := x02.at hrw ha (fun ps e => by cases e) (fun xs e => by cases e)
      repeat walk_at "st"
      unfold evT at q
      refine ite_ndec (fun hz => ?_) fun hz => ?_
      · rw [if_pos hz] at q
        repeat walk_at "st"
        refine r_ixT (.of ha2) (v := u2) rfl ?_
        repeat walk_at "st"
        exact sub u2 y H2 _ _ x02 a2 i2 ok.2.1 hd'.2.1 fun H3 x3 a3 => q H3 (x02.trans x3) a3
      · rw [if_neg (fun h => h hz)] at q
        repeat walk_at "st"
        refine r_ixT (.of ha2) (v := u3) rfl ?_
        repeat walk_at "st"
        exact sub u3 z H2 _ _ x02 a2 i3 ok.2.2 hd'.2.2 fun H3 x3 a3 => q H3 (x02.trans x3) a3
theorem ct_all {n k l : Nat} {dS : Addr} (B : Bf mg) (gSg : mg "SIGNS" = some (.ref dS)) (sg : SgAt K w dS (signs.map fun q => (q.1, V.str q.2))) {gc : Addr} {fd : FuncData} (D : FunD K "comes_to" "comes_to" (defArgs (top 27)) (defBody (top 27)) (defScope (top 27)) [] [] gc fd) (gCt : mg "comes_to" = some (.ref gc))
    (cl : List (Str × Addr)) (Ak : ∀ f c, AskOk P w K mg base l f (askF cl c) frA (starSp ["word"] fun ws vs H Q E => ∃ (x : V) (rest : List V) (p : Addr), vs = [x, .ref p] ∧ H p = some (.tup rest) ∧ spAsk T CP CB CF n ws (x :: rest) H Q E)) :
    ∀ d : Nat, CtOk P w K mg base (l + d) gc cl frA (spCt T CP CB CF cl n k d)
  | 0 => by
    intro A outer s H us vs ws Q hr e0 C0 nf0 r h
    obtain ⟨f, c, tv, t, Bk, free, wd, st, g, rw, M, _, _, _, _, _, _, _, _, _, _, _, _, _, hd, _⟩ := h
    omega
  | d + 1 => ct_step B gSg sg D gCt cl Ak (ct_all B gSg sg D gCt cl Ak d)
end
end K5
end

section
set_option maxHeartbeats 4000000
/-! KQ: slices, stars, fields, memories. -/
namespace K5
open PySem PySem.Spec L2 NdefX LamX
open PyProof.Rows hiding St
/-! ### slices, stars, fields -/
theorem cut_take (xs : List V) (k : Int) (n : Nat) (h : k = n) : cutV xs none (some k) = xs.take n := by
  subst h
  have e : HT.sIx xs.length xs.length (some (n : Int)) = min n xs.length := by
    unfold HT.sIx
    dsimp only
    rw [if_neg (by omega)]
    simp only [Int.toNat_natCast]
  unfold cutV
  rw [HT.sIx_none, e, List.drop_zero, Nat.sub_zero]
  rcases Nat.le_total n xs.length with z | z
  · rw [Nat.min_eq_left z]
  · rw [Nat.min_eq_right z, List.take_length, List.take_of_length_le z]
theorem cut_drop (xs : List V) (k : Int) (n : Nat) (h : k = n) : cutV xs (some k) none = xs.drop n := by
  subst h
  have e : HT.sIx xs.length 0 (some (n : Int)) = min n xs.length := by
    unfold HT.sIx
    dsimp only
    rw [if_neg (by omega)]
    simp only [Int.toNat_natCast]
  unfold cutV
  rw [HT.sIx_none, e]
  rcases Nat.le_total n xs.length with z | z
  · rw [Nat.min_eq_left z]
    exact List.take_of_length_le (by rw [List.length_drop]; exact Nat.le_refl _)
  · rw [Nat.min_eq_right z, List.drop_eq_nil_of_le (Nat.le_refl _), List.drop_eq_nil_of_le z, List.take_nil]
section
variable {σ : L2.St} {H : Hp} {Q : VK} {K : PySem.W.Frag}
theorem r_slT {a : Addr} {xs : List V} {lo hi : Option Int} (h : H a = some (.tup xs)) (q : ∀ p H', Same H H' → H' p = some (.tup (cutV xs lo hi)) → Q (.ref p) H') : rSlA K (.ref a) lo hi H Q := by
  refine ⟨a, xs, rfl, .of h, fun z => q a H (fun _ _ e => e) ?_, fun _ p hp => q p _ (same_upd hp) upd_same⟩
  have e : cutV xs lo hi = xs := by
    unfold cutV
    rw [z.1, z.2, List.drop_zero, Nat.sub_zero, List.take_length]
  rw [e]
  exact h
def StarAt (K : PySem.W.Frag) (x : V) (H : Hp) (C : List V → Prop) : Prop := ∃ p xs, x = V.ref p ∧ (SqT K H p xs ∨ SqL K H p xs) ∧ C xs
theorem r_star1 {te : TE} {t : TA} {Q : List V → Hp → Prop} (q : te σ H fun x H1 => StarAt K x H1 fun xs => t σ H1 fun ys H2 => Q (xs ++ ys) H2) : StX.tStar K te t σ H Q := q
theorem r_starT {p : Addr} {xs : List V} {C : List V → Prop} (h : H p = some (.tup xs)) (q : C xs) : StarAt K (.ref p) H C := ⟨p, xs, rfl, .inl (.of h), q⟩
def FldOf (K : PySem.W.Frag) (f : Str) (x : V) (H : Hp) (Q : VK) : Prop := ∃ a C dx fs v, x = .ref a ∧ H a = some (.ins C dx fs) ∧ Cls K C ∧ NoAttr K C f ∧ fs.lookup f = some v ∧ Q v H
theorem r_fld {ta : TE} {f : Str} (q : ta σ H fun x H1 => FldOf K f x H1 Q) : tFld K ta f σ H Q := q
theorem r_treeF {CF : Addr} {v : V} {t : Tr} (c : Cls K CF) (n : NoAttr K CF "tree") (h : FormAt CF H v t) (q : ∀ u, Im H u (enc t) → Q u H) : FldOf K "tree" v H Q := by
  obtain ⟨a, dx, u, rfl, h1, h2⟩ := h
  exact ⟨a, CF, dx, _, u, rfl, h1, c, n, rfl, q u h2⟩
variable {CP CB CF : Addr} {B : Book} {free : List Nat} {pl bk : V}
theorem r_bBase (h : BookAt CB CF H bk B) (q : Q (.int B.base) H) : rPart CB 0 bk H Q := by
  obtain ⟨a, dx, t, f, xs, rfl, h1, h2, h3, h4⟩ := h
  exact r_partI h1 h2 rfl q
theorem r_bSet (h : BookAt CB CF H bk B) (q : Q (.int B.settings) H) : rPart CB 1 bk H Q := by
  obtain ⟨a, dx, t, f, xs, rfl, h1, h2, h3, h4⟩ := h
  exact r_partI h1 h2 rfl q
theorem r_bFns (h : BookAt CB CF H bk B) (q : ∀ f xs, H f = some (.tup xs) → Each (RowAt CF H) xs B.fns → Q (.ref f) H) : rPart CB 2 bk H Q := by
  obtain ⟨a, dx, t, f, xs, rfl, h1, h2, h3, h4⟩ := h
  exact r_partI h1 h2 rfl (q f xs h3 h4)
theorem r_pBook (h : PlanAt CP CB CF H pl B free) (q : ∀ bk, BookAt CB CF H bk B → Q bk H) : rPart CP 0 pl H Q := by
  obtain ⟨a, dx, t, k, c, th, f, wr, as_, rfl, h1, h2, h3, h4⟩ := h
  exact r_partI h1 h2 rfl (q _ h3)
theorem r_pFree (h : PlanAt CP CB CF H pl B free) (q : ∀ f, H f = some (.tup (free.map nI)) → Q (.ref f) H) : rPart CP 3 pl H Q := by
  obtain ⟨a, dx, t, k, c, th, f, wr, as_, rfl, h1, h2, h3, h4⟩ := h
  exact r_partI h1 h2 rfl (q _ h4)
end
/-! ### memories as tuples -/
theorem im_tup {H : Hp} {v : V} {ds : List PyData} (h : Im H v (.tuple ds)) : ∃ a xs, v = .ref a ∧ H a = some (.tup xs) ∧ ImAll H xs ds := by
  cases h with
  | tup ha hx => exact ⟨_, _, rfl, ha, hx⟩
theorem im_O {H : Hp} {v : V} : ∀ {o : Option Int}, Im H v (encO o) → v = (match o with | none => .non | some n => .int n)
  | none, h => by
    cases h
    rfl
  | some n, h => by
    cases h
    rfl
theorem MemOk.rowAt {nf base k : Nat} {M : Mem} (ok : MemOk nf base M) (hk : k < nf) : ∃ r, M[k]? = some r ∧ r.length = base ∧ M.getD k [] = r := by
  have hk2 : k < M.length := by rw [ok.len]; exact hk
  refine ⟨M[k], List.getElem?_eq_getElem hk2, ok.row _ (List.getElem_mem hk2), ?_⟩
  rw [List.getD_eq_getElem?_getD, List.getElem?_eq_getElem hk2]
  rfl
/-- the tuple of a memory and the tuple of its row k -/
theorem im_row {H : Hp} {mv : V} {nf base k : Nat} {M : Mem} (ok : MemOk nf base M) (hk : k < nf) (h : Im H mv (encM M)) : ∃ a xs b ys, mv = .ref a ∧ H a = some (.tup xs) ∧ ImAll H xs (M.map encRow) ∧ xs[k]? = some (.ref b) ∧ H b = some (.tup ys) ∧ ImAll H ys ((M.getD k []).map encO) := by
  obtain ⟨r, e1, e2, e3⟩ := ok.rowAt hk
  obtain ⟨a, xs, rfl, ha, hx⟩ := im_tup h
  obtain ⟨v, hv, iv⟩ := hx.get (i := k) (d := encRow r) (by rw [List.getElem?_map, e1]; rfl)
  obtain ⟨b, ys, rfl, hb, hy⟩ := im_tup iv
  exact ⟨a, xs, b, ys, rfl, ha, hx, hv, hb, by rw [e3]; exact hy⟩
theorem im_cell {H : Hp} {nf base k : Nat} {g : Int} {M : Mem} {ys : List V} (ok : MemOk nf base M) (hk : k < nf) (h0 : 0 ≤ g) (h1 : g < base) (h : ImAll H ys ((M.getD k []).map encO)) : atI ys g = some (match mget M k g with | none => .non | some n => .int n) := by
  obtain ⟨r, e1, e2, e3⟩ := ok.rowAt hk
  unfold mget
  rw [e3] at h ⊢
  have hg : g.toNat < r.length := by omega
  obtain ⟨v, hv, iv⟩ := h.get (i := g.toNat) (d := encO r[g.toNat]) (by rw [List.getElem?_map, List.getElem?_eq_getElem hg]; rfl)
  have e := atI_nat hv
  rw [Int.toNat_of_nonneg h0] at e
  rw [e, im_O iv, List.getD_eq_getElem?_getD, List.getElem?_eq_getElem hg]
  rfl
theorem enc_set {M : Mem} {k base : Nat} {g x : Int} {nf : Nat} (ok : MemOk nf base M) (hk : k < nf) (h0 : 0 ≤ g) (h1 : g < base) :
    encM (mset M k g x) = .tuple ((M.map encRow).take k ++ (.tuple (((M.getD k []).map encO).take g.toNat ++ (.int x :: ((M.getD k []).map encO).drop (g.toNat + 1))) :: (M.map encRow).drop (k + 1))) := by
  obtain ⟨r, e1, e2, e3⟩ := ok.rowAt hk
  unfold encM mset
  rw [e3, List.set_eq_take_append_cons_drop, if_pos (by rw [ok.len]; exact hk), List.map_append, List.map_cons, List.map_take, List.map_drop]
  unfold encRow
  rw [List.set_eq_take_append_cons_drop, if_pos (by omega), List.map_append, List.map_cons, List.map_take, List.map_drop]
  rfl
end K5
end

section
set_option maxHeartbeats 4000000
/-! KR: called. -/
namespace K5
open PySem PySem.Spec L2 NdefX LamX
open PyProof.Rows hiding St
local macro_rules | `(tactic| walk_at "lf") => `(tactic| first
  | assumption
  | (refine Same.im (by assumption) ?_; walk_at "lf")
  | (refine Same.ims (by assumption) ?_; walk_at "lf")
  | (refine Same.at (by assumption) ?_; walk_at "lf")
  | (refine Same.sqT (by assumption) ?_; walk_at "lf")
  | (refine Same.seq (by assumption) ?_; walk_at "lf")
  | exact SqL.of (by walk_at "lf")
  | exact SqT.of (by walk_at "lf"))
local macro_rules | `(tactic| walk_at "st") => `(tactic| first
  | ((with_reducible refine r_var (v := ?vv) ?rv ?_); (case rv => exact rfl))
  | with_reducible first
    | refine r_seq ?_
    | refine r_asg ?_
    | refine r_gName ?_
    | refine r_c ?_
    | refine r_op ?_
    | refine r_I0 ?_
    | refine r_exbl ?_
    | refine r_cb ?_
    | refine r_nil ?_
    | refine r_cons ?_
    | refine r_test ?_
    | refine r_tB ?_
    | refine r_and ?_
    | refine r_or ?_
    | refine r_not ?_
    | refine r_if ?_
    | refine r_ret ?_
    | refine r_next ?_
    | refine r_tup ?_
    | refine r_lst ?_
    | refine r_int ?_
    | refine r_exint ?_
    | refine r_sl ?_
    | refine r_part ?_
    | refine r_nopart ?_
    | refine r_par ?_
    | refine r_ex2 ?_
    | refine r_call ?_
    | refine r_un ?_
    | refine r_U ?_
    | refine r_andV ?_
    | refine r_orV ?_
    | refine r_notV ?_
    | refine r_chain ?_
    | refine r_isN ?_
    | refine r_notN ?_
    | refine r_drop ?_
    | refine r_I (by decide) ?_
    | refine r_EqI ?_
    | refine r_NeI ?_
    | refine r_EqS ?_
    | refine r_NeS ?_
    | refine r_gSub ?_
    | refine r_gCons ?_
    | refine r_gNil ?_
    | refine r_dget ?_
    | refine r_pcons ?_
    | refine r_pnil ?_
    | refine iteT ?_
    | refine iteF ?_
    | refine iteNF ?_
    | refine iteNT ?_
    | refine r_prop ?_
    | refine r_dget2 ?_
    | refine r_din ?_
    | refine r_dput ?_
    | refine r_mk ?_
    | refine r_propG ?_
    | refine r_mtd ?_
    | refine r_bm ?_
    | refine r_si ?_
    | refine r_for ?_
    | refine r_lc ?_
    | refine r_iT ?_
    | refine r_iL ?_
    | refine r_enT ?_
    | refine r_zip ?_
    | refine r_zs ?_
    | refine r_iR1 ?_
    | refine r_yes ?_
    | refine r_fld ?_
    | refine r_star1 ?_
    | refine r_ctE ?_
    | refine r_div (by decide) (by decide) ?_
    | refine r_mulL (by decide) (by decide) ?_
    | refine r_mulR (by decide) (by decide) ?_)
local macro_rules | `(tactic| walk_at "tq") => `(tactic| ((repeat walk_at "st"); first
  | assumption
  | (refine q_decT (by omega) (by assumption))
  | (refine q_decF (by omega) (by assumption))
  | (refine q_nT (by omega) (by assumption))
  | (refine q_nF (by omega) (by assumption))
  | (refine ite_dec (fun _ => ?_) (fun _ => ?_) <;> first | (exfalso; omega) | walk_at "tq")
  | (refine ite_ndec (fun _ => ?_) (fun _ => ?_) <;> first | (exfalso; omega) | walk_at "tq")))
/-! ### called -/
section
variable {P : Program} {w : World} {K : PySem.W.Frag} {mg : Str → Option Value} {base : Heap} {T : List NTab} {CP CB CF : Addr}
def nmA : Nat → Nat → Str := fun _ _ => ("called" : Str) ++ ".<locals>." ++ "ask"
/-- what must be seen of the classes -/
structure Kcl (P : Program) (w : World) (K : PySem.W.Frag) (mg : Str → Option Value) (base : Heap) (CP CB CF : Addr) : Prop where
  clP : Cls K CP
  clB : Cls K CB
  clF : Cls K CF
  tree : NoAttr K CF "tree"
  pBook : Prp P w K mg base CP "book" 0
  pFree : Prp P w K mg base CP "free" 3
  bBase : Prp P w K mg base CB "base" 0
  bSet : Prp P w K mg base CB "settings" 1
  bFns : Prp P w K mg base CB "functions" 2
theorem scCalled : FnScope ["plan", "setting", "scene", "function", "number", "wording", "memory", "rows", "ask", "told_now", "row", "late"] ["plan", "setting", "scene", "function", "number"] (defScope (top 59)) := ⟨rfl, rfl, rfl, by decide +kernel, rfl, by decide +kernel, by decide +kernel⟩
theorem called_step {n l : Nat} {dS : Addr} (B : Bf mg) (Kc : Kcl P w K mg base CP CB CF) (gSg : mg "SIGNS" = some (.ref dS)) (sg : SgAt K w dS (signs.map fun q => (q.1, V.str q.2)))
    {gc : Addr} {fdc : FuncData} (Dc : FunD K "comes_to" "comes_to" (defArgs (top 27)) (defBody (top 27)) (defScope (top 27)) [] [] gc fdc) (gCt : mg "comes_to" = some (.ref gc))
    {f cc Pc : Addr} {fd : FuncData} (D : FunD K "called" "called" (defArgs (top 59)) (defBody (top 59)) (defScope (top 59)) [] [] f fd) (gC : mg "called" = some (.ref f)) (hcc : fd.code = .ref cc) (TB : TabB base mg cc Pc) (hm : (Pc, nmA) ∈ T) (hu : ∀ p ∈ T, p.1 = Pc → p.2 = nmA)
    (hl2 : 2 ≤ l) (cCalled : Cal P w K mg base "called" l ["plan", "setting", "scene", "function", "number"] (spCalled T CP CB CF n)) : Cal P w K mg base "called" (l + 8) ["plan", "setting", "scene", "function", "number"] (spCalled T CP CB CF (n + 1)) := by
  have kCt := Dc.kp
  have bN := D.bindsN (ps := ["plan", "setting", "scene", "function", "number"]) (fun _ _ _ _ _ _ us hl => match us, hl with | [_, _, _, _, _], _ => rfl)
  have kC := D.kp
  obtain ⟨oc, od, dV, kV, doc, pm, an, cdv, ct, osl, rfl, lk, hcd, dfl, kwd⟩ := D.ex
  obtain rfl : cdv = .ref cc := hcc
  refine ⟨f, _, gC, kC, bN, fn_of lk hcd scCalled (fun vs H Q E h => ?_) fun A outer s H vs Q E hr h => ?_⟩
  · obtain ⟨pl, sc, wv, mv, Bk, free, wd, st, g, k, M, rfl, _⟩ := h
    rfl
  · obtain ⟨pl, sc, wv, mv, Bk, free, wd, st, g, k, M, rfl, hpl, bk, wok, hs0, hs1, hsc, hwv, hmv, mok, hkn, hk, hg0, hg1, tabs, q⟩ := h
    have pBook := Kc.pBook
    have pBase := Kc.bBase
    have pFns := Kc.bFns
    have clP := Kc.clP
    have clB := Kc.clB
    have fr1 : ∀ y ∈ (C8.fnScope sAsk).names, y.2 = NameKind.free → (defScope (top 59)).names.lookup y.1 = some .cell ∨ (defScope (top 59)).names.lookup y.1 = some .free := ndef_free (fr := frA) (by decide +kernel)
    have fr2 : ∀ y ∈ frA, (y, NameKind.free) ∈ (C8.fnScope sAsk).names := ndef_fr (sc := defScope (top 59)) (by decide +kernel)
    generalize hX : cxOf CX0 P w K mg base ["plan", "setting", "scene", "function", "number", "wording", "memory", "rows", "ask", "told_now", "row", "late"] "called" (defScope (top 59)) f (.ref cc) A outer s H E = X
    have capsX : ∀ ok : X.Ok, Caps X (cloFrom X.env.cells (C8.fnScope sAsk).names []) frA [0, 1, 5, 7, 4] := by
      subst hX
      exact fun ok => Caps.made ok fr1 fr2 rfl
    generalize hcl : cloFrom X.env.cells (C8.fnScope sAsk).names [] = cl at capsX
    have Ak : ∀ f c, AskOk P w K mg base (l + 1) f (askF cl c) frA (starSp ["word"] fun ws vs H Q E => ∃ (x : V) (rest : List V) (p : Addr), vs = [x, .ref p] ∧ H p = some (.tup rest) ∧ spAsk T CP CB CF n ws (x :: rest) H Q E) := fun f c => ask_ok cl c f cCalled
    have Ct := ct_all (k := k) B gSg sg Dc gCt cl Ak 6
    have hC : ∀ pins s' σ H', Inv X pins σ H' s' → CellsAt cl frA ((fun σ => [0, 1, 5, 7, 4].map (NdefX.slotAt σ)) σ) s'.heap H' := fun pins s' σ H' I => cells_of I (capsX I.ok)
    have hfn : ∀ y, X.fn y = true := by
      subst hX
      exact fun _ => rfl
    have hfs : X.stack = X.env :: X.outer ∧ X.env.frame = some X.env.locals := by
      subst hX
      exact ⟨rfl, rfl⟩
    have nfs : ∀ pins s' σ H', Inv X pins σ H' s' → ∀ y c, cl.lookup y = some c → c ∉ frs X.stack := fun pins s' σ H' I y c e hm => by
      have ec := (capsX I.ok).sub y c e
      rw [hfs.1] at hm
      unfold frs at hm
      rw [List.filterMap_cons, hfs.2] at hm
      rcases List.mem_cons.mp hm with z | z
      · exact I.cne _ _ ec z
      · obtain ⟨_, o, ho, _⟩ := I.ok.funs.mem z
        exact absurd (Nat.lt_of_lt_of_le (Heap.lt_size ho) (I.ok.cab y c (hfn y) ec)) (Nat.lt_irrefl _)
    obtain ⟨r, b, e1, e2, e3, okb, cb⟩ := body_ok bk.fns wok hk
    have dcb := dep_cnt (bodyOf Bk.fns wd k)
    subst hX
    refine ⟨_, (pss_cons (ps_asg (pv 2) (pg_tup rfl (pgs_cons (pg_name (i := 5) scCalled.nd rfl (by first | exact Or.inl rfl | exact Or.inr rfl)) (pgs_cons (pg_name (i := 6) scCalled.nd rfl (by first | exact Or.inl rfl | exact Or.inr rfl)) pgs_nil))))
      (pss_cons (ps_if (pt_cmp (pc_notN (pe_ix ix_tup (pe_ix ix_tup (pv 6) (pv 3) (fun _ _ => rfl)) (pv 4) (fun _ _ => rfl))))
        (pss_one (ps_ret (pe_tup (pa_cons (pe_ix ix_tup (pe_ix ix_tup (pv 6) (pv 3) (fun _ _ => rfl)) (pv 4) (fun _ _ => rfl)) (pa_cons (pv 6) pa_nil)))))
        pss_nil)
      (pss_cons (ps_set (i := 7) scCalled.nd rfl (by first | exact Or.inl rfl | exact Or.inr rfl) (pe_lst (pa_cons (pv 6) pa_nil)))
      (pss_cons (ps_ndefMS (st := sAsk) (i := 8) rfl TB rfl hm rfl hu fr1 rfl rfl rfl scCalled.nd rfl (.inl rfl) (.inl rfl))
      (pss_cons (ps_set (i := 9) scCalled.nd rfl (by first | exact Or.inl rfl | exact Or.inr rfl) (pe_ct Ct hC nfs hr (by omega) (by rfl) gCt kCt (pa_cons (pe_fld (pe_ix ix_tup (pe_ix ix_tup (pe_part pFns clB hr (by omega) (pe_part pBook clP hr (by omega) (pv 0))) (pv 3) (fun _ _ => rfl)) (pe_ix ix_tup (pv 5) (pv 3) (fun _ _ => rfl)) (fun _ _ => rfl)) rfl) (pa_cons (pe_part pBase clB hr (by omega) (pe_part pBook clP hr (by omega) (pv 0))) (pa_cons (pv 8) pa_nil)))))
      (pss_cons (ps_set (i := 10) scCalled.nd rfl (by first | exact Or.inl rfl | exact Or.inr rfl) (pe_ix ix_tup (pe_ix ix_list (pv 7) pe_int (fun _ _ => rfl)) (pv 3) (fun _ _ => rfl)))
      (pss_cons (ps_set (i := 11) scCalled.nd rfl (by first | exact Or.inl rfl | exact Or.inr rfl) (pe_tup (StX.pa_star (pe_slice sl_tupA (pv 10) po_none (po_some (pv 4))) (pa_cons (pv 9) (StX.pa_star (pe_slice sl_tupA (pv 10) (po_some (pe_op op_add (pv 4) pe_int)) po_none) pa_nil)))))
      (pss_one (ps_ret (pe_tup (pa_cons (pv 9) (pa_cons (pe_tup (StX.pa_star (pe_slice sl_tupA (pe_ix ix_list (pv 7) pe_int (fun _ _ => rfl)) po_none (po_some (pv 3))) (pa_cons (pv 11) (StX.pa_star (pe_slice sl_tupA (pe_ix ix_list (pv 7) pe_int (fun _ _ => rfl)) (po_some (pe_op op_add (pv 3) pe_int)) po_none) pa_nil)))) pa_nil)))))))))))), ?_⟩
    obtain ⟨ma, mxs, mb, mys, rfl, hma, hmx, hmk, hmb, hmy⟩ := im_row mok hk hmv
    refine r_seq ?_
    repeat walk_at "st"
    refine r_gTup (.of hsc) rfl ?_
    repeat walk_at "st"
    cases eg : mget M k g with
    | some x =>
      refine t_ifY (fun Q' kk => ?_) ?_
      · repeat walk_at "st"
        refine r_ixT (.of hma) (atI_nat hmk) ?_
        repeat walk_at "st"
        refine r_ixT (.of hmb) (im_cell mok hk hg0 hg1 hmy) ?_
        rw [eg]
        exact r_exbl (by exact kk)
      · repeat walk_at "st"
        refine r_ixT (.of hma) (atI_nat hmk) ?_
        repeat walk_at "st"
        refine r_ixT (.of hmb) (im_cell mok hk hg0 hg1 hmy) ?_
        rw [eg]
        repeat walk_at "st"
        refine r_newT (by show 2 ≤ sizeLine; decide) fun p1 H1 np1 s1 e1 => ?_
        unfold evC at q
        rw [eg] at q
        exact q p1 _ H1 (fun b o h _ => s1 b o h) (tabs.ext s1) e1 (s1.im hmv)
    | none =>
      refine t_ifN (fun Q' kk => ?_) ?_
      · repeat walk_at "st"
        refine r_ixT (.of hma) (atI_nat hmk) ?_
        repeat walk_at "st"
        refine r_ixT (.of hmb) (im_cell mok hk hg0 hg1 hmy) ?_
        rw [eg]
        exact r_exbl (by exact kk)
      repeat walk_at "st"
      refine r_newL (by show 1 ≤ sizeLine; decide) fun rl H1 nrl s1 erl => ?_
      repeat walk_at "st"
      refine ⟨tabs.ext s1, fun fa c' H2 x2 _ t2 hfa0 hfa hc' => ?_⟩
      have x12 : ∀ b o, H b = some o → (∀ ps, o ≠ .tbl ps) → H2 b = some o := fun b o h n => x2 b o (s1 b o h) n
      have i2 : Isn H H2 := fun b o z h => x12 b o h fun ps e => by rw [e] at z; cases z
      have erl2 : H2 rl = some (.lst [.ref ma]) := x2 _ _ erl fun ps e => by cases e
      repeat walk_at "st"
      refine r_pBook (hpl.isn i2) fun bk2 hbk2 => ?_
      refine r_bFns hbk2 fun fa2 fxs hfa2 hfxs => ?_
      repeat walk_at "st"
      obtain ⟨rv, hrv, rat⟩ := hfxs.get e1
      obtain ⟨rb, rys, rfl, hrb, hrys⟩ := rat
      refine r_ixT (.of hfa2) (atI_nat hrv) ?_
      repeat walk_at "st"
      obtain ⟨wa, wxs, rfl, hwa, hwx⟩ := im_tup (i2.im hwv)
      obtain ⟨wb, hwb, iwb⟩ := hwx.get (i := k) (d := nD b) (by rw [List.getElem?_map, e2]; rfl)
      cases iwb
      refine r_ixT (.of hwa) (atI_nat hwb) ?_
      obtain ⟨fv, hfv, fat⟩ := hrys.get e3
      refine r_ixT (.of hrb) (atI_nat hfv) ?_
      refine r_treeF Kc.clF Kc.tree fat fun u iu => ?_
      repeat walk_at "st"
      refine r_pBook (hpl.isn i2) fun bk3 hbk3 => ?_
      refine r_bBase hbk3 ?_
      repeat walk_at "st"
      refine ⟨fa, c', u, bodyOf Bk.fns wd k, Bk, free, wd, st, g, rl, M, rfl, by rw [← hcl]; exact hfa, hc', bk, wok, hs0, hs1, hg0, hg1, by omega, by omega, iu, okb, by omega, ⟨⟨pl, _, _, rfl, hpl.isn i2, i2.im hwv, erl2, i2.im hmv⟩, mok, t2⟩, fun H3 x3 a3 => ?_⟩
      obtain ⟨_, _, mv3, ews, hpl3, hwv3, hrl3, hmv3⟩ := a3.ex
      have mok3 := a3.ok
      have t3 := a3.tabs
      have x03 : ∀ b o, H b = some o → (∀ ps, o ≠ .tbl ps) → H3 b = some o := fun b o h n => x3 b o (ne_of_none h nrl) (x12 b o h n) n
      unfold evC at q
      rw [eg] at q
      dsimp only at q
      have v0 := (evT_ok (F := evC Bk.fns Bk.base wd st n) (k := k) bk.fns.base2 hs0 hs1 hg0 hg1 (fun j x m hj h0 h1 hm => evC_ok bk.fns wok hs0 hs1 n j x m (by omega) (by omega) h0 h1 hm) (bodyOf Bk.fns wd k) M okb mok)
      generalize (evT (evC Bk.fns Bk.base wd st n) Bk.base st g (bodyOf Bk.fns wd k) M).2 = M3 at *
      generalize (evT (evC Bk.fns Bk.base wd st n) Bk.base st g (bodyOf Bk.fns wd k) M).1 = y3 at *
      obtain ⟨na, nxs, nb, nys, rfl, hna, hnx, hnk, hnb, hny⟩ := im_row mok3 hk hmv3
      repeat walk_at "st"
      refine r_ixL (.of hrl3) (v := .ref na) rfl ?_
      repeat walk_at "st"
      refine r_ixT (.of hna) (atI_nat hnk) ?_
      repeat walk_at "st"
      refine r_slT hnb fun p4 H4 s4 e4 => ?_
      repeat walk_at "st"
      refine r_starT e4 ?_
      repeat walk_at "st"
      refine r_slT (s4.at hnb) fun p5 H5 s5 e5 => ?_
      repeat walk_at "st"
      refine r_starT e5 ?_
      repeat walk_at "st"
      rw [cut_take _ g g.toNat (by omega), cut_drop _ (g + 1) (g.toNat + 1) (by omega)]
      have yl := hny.length
      obtain ⟨rr, rr1, rr2, rr3⟩ := mok3.rowAt hk
      have xl := hnx.length
      have b3 := bk.fns.base3
      have l3 := bk.fns.len3
      have ml := mok3.len
      rw [rr3, List.length_map] at yl
      rw [List.length_map] at xl
      refine r_newT (by
        rw [List.length_append, List.length_cons, List.length_append, List.length_take, List.length_drop, List.length_nil]
        have hsz : 8 ≤ sizeLine := by decide
        omega) fun p6 H6 np6 s6 e6 => ?_
      repeat walk_at "st"
      have s36 := (s4.trans s5).trans s6
      refine r_ixL (.of (s36.at hrl3)) (v := .ref na) rfl ?_
      repeat walk_at "st"
      refine r_slT (s36.at hna) fun p7 H7 s7 e7 => ?_
      repeat walk_at "st"
      refine r_starT e7 ?_
      repeat walk_at "st"
      have s37 := s36.trans s7
      refine r_ixL (.of (s37.at hrl3)) (v := .ref na) rfl ?_
      repeat walk_at "st"
      refine r_slT (s37.at hna) fun p8 H8 s8 e8 => ?_
      repeat walk_at "st"
      refine r_starT e8 ?_
      repeat walk_at "st"
      rw [cut_take _ (k : Int) k rfl, cut_drop _ ((k : Int) + 1) (k + 1) rfl]
      refine r_newT (by
        rw [List.length_append, List.length_cons, List.length_append, List.length_take, List.length_drop, List.length_nil]
        have hsz : 8 ≤ sizeLine := by decide
        omega) fun p9 H9 np9 s9 e9 => ?_
      repeat walk_at "st"
      refine r_newT (by show 2 ≤ sizeLine; decide) fun pz Hz npz sz ez => ?_
      have s6z := ((s7.trans s8).trans s9).trans sz
      have s3z := s36.trans s6z
      refine q pz (.ref p9) Hz (fun b o h n => s3z _ _ (x03 b o h n)) (t3.ext s3z) ez ?_
      rw [enc_set mok3 hk hg0 hg1]
      have iR : Im Hz (.ref p6) (.tuple (((M3.getD k []).map encO).take g.toNat ++ (.int y3 :: ((M3.getD k []).map encO).drop (g.toNat + 1)))) :=
        .tup (s6z.at e6) ((s3z.ims (hny.take _)).app (.cons (.int y3) (by rw [List.append_nil]; exact s3z.ims (hny.drop _))))
      exact .tup (sz.at e9) ((s3z.ims (hnx.take _)).app (.cons iR (by rw [List.append_nil]; exact s3z.ims (hnx.drop _))))
end
end K5
end

section
set_option maxHeartbeats 4000000
/-! KT: enumerate over a tuple; zip of a text and a tuple. -/
namespace K5
open PySem PySem.Spec L2
open PySem.Sem (wp)
open PyProof.Rows hiding St
/-! ### enumerate(v), v any that begins -/
theorem meets_en {v : Value} {o : Obj} {G : Heap → Prop} (B : Begins v o G) :
    Meets (Builtin.«enumerate.__new__» ⟨[.type "enumerate", v], []⟩) (fun _ R s => G s.heap ∧
      R (.ok (.ret (.ref (s.heap.push o).objs.size))) { s with heap := (s.heap.push o).push { cls := .type "enumerate", data := .fields #[.none, .bool false, .ref s.heap.objs.size, rawInt 0, .none, .none] } }) :=
  .of_wp fun pr wo Ar Rr sh hh => by
    obtain ⟨hp, g, d, tk, os⟩ := sh
    obtain ⟨hG, hR⟩ := hh
    have sub := sub_enumerate
    have q1 : ∀ {A' : Around} {E : Value → Shared → Prop} {Q : Value → Shared → Prop}, Q (.ref hp.objs.size) ⟨hp.push o, g, d, tk, os⟩ → wpAny (model pr wo) A' (pyIter v) Q E ⟨hp, g, d, tk, os⟩ :=
      fun q => B.iter pr wo _ _ ⟨hp, g, d, tk, os⟩ _ (B.keeps _ _ hG fun b o' e => e) q
    wp_walk using q1
    refine wpAny_stack_any fun st => wpAny_pure ?_
    split
    · rename_i c _ _ _ _ _
      cases (c == Value.type "enumerate")
      · wp_walk using q1
        exact ⟨_, rfl, hR⟩
      · wp_walk using q1
        exact ⟨_, rfl, hR⟩
    · wp_walk using q1
      exact ⟨_, rfl, hR⟩
theorem call_en {pr : Program} {wo : World} {A : Around} {E : Value → Shared → Prop} {s : Shared} {v : Value} {o : Obj} {G : Heap → Prop} {Q : Value → Shared → Prop} (B : Begins v o G) (hG : G s.heap)
    (h : ∀ h', IsEnum h' (s.heap.objs.size + 1) s.heap.objs.size 0 .none → h'.get? s.heap.objs.size = some o → (∀ b x, s.heap.get? b = some x → h'.get? b = some x) → Q (.ref (s.heap.objs.size + 1)) { s with heap := h' }) :
    wpAny (model pr wo) A (call (.type "enumerate") [v]) Q E s := by
  refine callType_new F.called_enumerate (by decide) (F.typeCall_enumerate_1 _) (F.newCall_enumerate_1 _) (fun obj => F.args_object_init_2 obj _) F.entry_enumerate_new (meets_en B) ⟨hG, ?_⟩
  have z1 : (s.heap.push o).objs.size = s.heap.objs.size + 1 := Heap.size_push ..
  show _ ∧ _
  rw [z1]
  have q := Heap.get?_push_size (s.heap.push o) (o := { cls := .type "enumerate", data := .fields #[.none, .bool false, .ref s.heap.objs.size, rawInt 0, .none, .none] }) rfl
  rw [z1] at q
  exact ⟨⟨_, q, rfl⟩, h _ q (Heap.get?_push_of_some _ (Heap.get?_push_size _ B.free)) fun b x e => Heap.get?_push_of_some _ (Heap.get?_push_of_some _ e)⟩
/-- the tuple at a, each item in a new pair -/
def ItEn (K : PySem.W.Frag) (a : Addr) : It :=
  ⟨fun i H => ∃ xs x, SqT K H a xs ∧ xs[i]? = some x, fun i H v H' => ∃ T x, v = .ref T ∧ H T = none ∧ H' = upd H T (.tup [.int (i : Nat), x]) ∧ ∀ xs, SqT K H a xs → xs[i]? = some x, fun i H => ∃ xs, SqT K H a xs ∧ xs.length = i⟩
theorem apart_en {h : Heap} {e it a : Addr} {i : Int} {old : Value} {its : Array Value} (he : IsEnum h e it i old) (p : h.IsTuple a its) : e ≠ a := fun z => by
  obtain ⟨o, ho, hc, _⟩ := p
  rw [← z, he] at ho
  cases ho
  injection hc with q
  exact absurd q (by decide)
theorem apart_it {h : Heap} {it a : Addr} {i : Nat} {its : Array Value} {l : Addr} (hi : h.IsTupleIter it l i) (p : h.IsTuple a its) : a ≠ it := fun z => by
  obtain ⟨o, ho, hc, _⟩ := p
  obtain ⟨o', ho', hc', _⟩ := hi
  rw [z, ho'] at ho
  cases ho
  rw [hc'] at hc
  injection hc with q
  exact absurd q (by decide)
theorem turn_en {P : Program} {w : World} {K : PySem.W.Frag} {elts : List Expr} {kk : Nat} {tpos : Pos} (a e it : Addr) :
    Turn P w K (.Tuple elts kk tpos) (ItEn K a) [e, it] e (fun i h => (∃ old, IsEnum h e it ((i : Nat) : Int) old) ∧ h.IsTupleIter it a i ∧ e ≠ it) where
  mem := by simp
  obj := fun i h st b hb => by
    obtain ⟨⟨old, he⟩, ⟨o, ho, hc, hd⟩, _⟩ := st
    rcases (show b = e ∨ b = it by simpa using hb) with rfl | rfl
    · exact ⟨_, he, fun v q => nomatch q⟩
    · exact ⟨o, ho, fun v q => by
        rw [hd] at q
        cases q⟩
  keep := fun i h h' st k => ⟨st.1.elim fun old he => ⟨old, k e (by simp) _ he⟩, st.2.1.at fun o q => k it (by simp) o q, st.2.2⟩
  item := by
    intro X hP hw hK hc i pins s σ H E I hf st hg
    subst hP hw hK
    obtain ⟨⟨old, he⟩, hit, hne⟩ := st
    obtain ⟨xs, x, hq, hx⟩ := hg
    obtain ⟨its, rv, p, _⟩ := I.tuple hq
    obtain ⟨u, hu, ru⟩ := rv.get hx
    have p : s.heap.IsTuple a its.toArray := p
    have hel : e < s.heap.objs.size := Heap.lt_size he
    have hil : it < s.heap.objs.size := hit.elim fun _ q => Heap.lt_size q.1
    have hea := apart_en he p
    have lt : i < its.toArray.size := by
      rw [List.size_toArray]
      exact (List.getElem?_eq_some_iff.mp hu).1
    refine wpAny_pyNext_enum_itemD (Draws.tuple (A := X.A.in1) (show X.A.in1.handled = none from I.ok.hd hc) it a (apart_it hit p) its.toArray) he ⟨hit, p⟩ lt hne (by simp [hne, hea]) fun y h1 tk hy ho st1 hT hsz hk => ?_
    obtain rfl : u = y := by
      have z : its.toArray[i]? = some y := hy
      rw [List.getElem?_toArray, hu] at z
      exact Option.some.inj z
    refine ⟨_, rfl, wpAny_letOwnedTupleGo_enum (s := { s with heap := h1, toks := tk + 1 }) ho fun h2 he2 sb => ?_⟩
    have hT2 := (sb.2 _ (Nat.ne_of_gt hel)).trans hT
    have I1 : Inv X pins σ (upd H s.heap.objs.size (.tup [.int (i : Nat), x])) { s with heap := h2, toks := tk + 1 } :=
      I.turnedNew (ch := [e, it]) (fun b ob hb q => (sb.2 b fun z => hb (by simp [z])).trans (hk b ob (fun z => hb (by simp [z])) (fun z => hb (by simp [z])) q)) hf (Nat.le_refl _)
        ⟨by show 2 ≤ sizeLine; decide, [.int i tk, u], .cons ⟨_, rfl⟩ (.cons ru .nil), ⟨_, hT2, rfl, _, rfl⟩⟩
    refine ⟨.ref s.heap.objs.size, _, I1, rfl, ⟨_, x, rfl, I.hok.fresh (Nat.le_refl _), rfl, fun ys hy => by rw [I.tuple_inj hy hq]; exact hx⟩, ⟨⟨u, ?_⟩, st1.1.at fun o q => (sb.2 it (Ne.symm hne)).trans q, hne⟩, fun b hb => ?_⟩
    · rw [show ((i + 1 : Nat) : Int) = (i : Int) + 1 by omega]
      exact he2
    · have hb' : b < s.heap.objs.size := by
        rcases (show b = e ∨ b = it by simpa using hb) with rfl | rfl
        · exact hel
        · exact hil
      rw [upd_ne (Nat.ne_of_lt hb')]
      exact (hf b hb).1
  done := by
    intro X hP hw hK hc i pins s σ H E I hf st hg
    subst hP hw hK
    obtain ⟨⟨old, he⟩, hit, hne⟩ := st
    obtain ⟨xs, hq, hx⟩ := hg
    obtain ⟨its, rv, p, _⟩ := I.tuple hq
    have p : s.heap.IsTuple a its.toArray := p
    obtain ⟨f0, f1, f2, f3, f4, f5⟩ := hf it (by simp)
    have hl := rv.length
    have en : its.toArray.size = i := by
      rw [List.size_toArray]
      omega
    exact wpAny_pyNext_enum_endD (Draws.tuple (A := X.A.in1) (show X.A.in1.handled = none from I.ok.hd hc) it a (apart_it hit p) its.toArray) he ⟨by rw [en]; exact hit, p⟩ fun h' eb => ⟨rfl, I.turned (t' := s.toks) (fun b o hb q => eb b o hb q) f0 f1 f3 f4 f5⟩
  self := fun A i s Q E st h => st.1.elim fun _ he => wpAny_pyIter_enum he h
def iEnT (K : PySem.W.Frag) (ta : TA) : TI := fun σ H R => ta σ H fun vs H1 => ∃ a xs, vs = [.ref a] ∧ SqT K H1 a xs ∧ R (ItEn K a) H1
theorem pi_enumT {X : Cx} {e : Expr} {ta : TA} {p pos tpos : Pos} {elts : List Expr} {kk : Nat} (hg : Gl X "enumerate") (hm : X.mg "enumerate" = none) (ha : PA X [e] ta) (hs : starEach [e] X.env = [(false, eval e X.env)] := by rfl) :
    PI X (.Tuple elts kk tpos) (.Call (.Name "enumerate" p) [e] [] pos) (iEnT X.K ta) := by
  refine ⟨fun pins s σ H R I h => ?_⟩
  refine Call_ (ld_blt I hg hm boot_enumerate (PyProof.Rows.callWith_type1 (thn (ha.run pos pins s σ H _ I h) fun us s1 ⟨vs, H1, I1, r1, q1⟩ => ?_) hs rfl))
  obtain ⟨a, xs, rfl, hq, q⟩ := q1
  obtain rfl := Vals.ref1 r1
  obtain ⟨its, rv, p', _⟩ := I1.tuple hq
  have p' : s1.heap.IsTuple a its.toArray := p'
  refine call_en (begins_tuple a its.toArray) p' fun h' he hit hk => wpAny_pyIter_enum he ?_
  have I2 : Inv X pins σ H1 { s1 with heap := h' } := I1.kept (t' := s1.toks) hk
  refine ⟨s1.heap.objs.size + 1, [s1.heap.objs.size + 1, s1.heap.objs.size], _, _, H1, rfl, I2, turn_en a (s1.heap.objs.size + 1) s1.heap.objs.size, ⟨⟨.none, he⟩, ⟨_, hit, rfl, rfl⟩, Nat.succ_ne_self _⟩, fun b hb => ?_, q⟩
  have hle : s1.heap.objs.size ≤ b := by
    rcases (show b = s1.heap.objs.size + 1 ∨ b = s1.heap.objs.size by simpa using hb) with z | z <;> rw [z]
    · exact Nat.le_add_right _ _
    · exact Nat.le_refl _
  exact I1.fpOk hle (I1.hok.fresh hle)
theorem walk_en {K : PySem.W.Frag} {a : Addr} {xs : List V} : Walk (ItEn K a) xs.length (fun H => SqT K H a xs) (YPair (fun i => some (.int (i : Nat))) (fun i => xs[i]?)) :=
  ⟨fun i _ hi q => ⟨xs, xs[i], q, by simp [hi]⟩, fun _ q => ⟨xs, q, rfl⟩, fun i H v H' _ q y => by
    obtain ⟨T, x, h1, h2, h3, h4⟩ := y
    exact ⟨T, .int (i : Nat), x, h1, h2, h3, rfl, h4 xs q⟩⟩
theorem walk_zT {K : PySem.W.Frag} {a b : Addr} {xs ys : List V} {n : Nat} (hn : n = min xs.length ys.length) : Walk (RZ.ItzT K a b) n (fun H => SqT K H a xs ∧ SqT K H b ys) (YPair (fun i => xs[i]?) (fun i => ys[i]?)) := by
  subst hn
  refine ⟨fun i _ hi q => ?_, fun _ q => ⟨xs, ys, q.1, q.2, by omega⟩, fun i H v H' _ q y => ?_⟩
  · have h1 : i < xs.length := by omega
    have h2 : i < ys.length := by omega
    exact ⟨xs, ys, xs[i], ys[i], q.1, q.2, by simp [h1], by simp [h2]⟩
  · obtain ⟨T, x, z, h1, h2, h3, h4, h5⟩ := y
    exact ⟨T, x, z, h1, h2, h3, h4 xs q.1, h5 ys q.2⟩
/-! ### zip(text, tuple) -/
/-- the signs of z and the items of the tuple at a, in new pairs -/
def ItZs (K : PySem.W.Frag) (z : Str) (a : Addr) : It :=
  ⟨fun i H => ∃ xs x, SqT K H a xs ∧ xs[i]? = some x ∧ i < z.cps.size, fun i H v H' => ∃ T c x, v = .ref T ∧ H T = none ∧ H' = upd H T (.tup [.str ⟨#[c]⟩, x]) ∧ z.cps[i]? = some c ∧ ∀ xs, SqT K H a xs → xs[i]? = some x,
    fun i H => ∃ xs, SqT K H a xs ∧ i ≤ xs.length ∧ i ≤ z.cps.size ∧ (i = z.cps.size ∨ i = xs.length)⟩
theorem turn_zs {P : Program} {w : World} {K : PySem.W.Frag} {elts : List Expr} {kk : Nat} {tpos : Pos} {zz : Str} {tok : Tok} {a z TI TO i1 i2 : Addr} (D : ZipSep2 z TI TO i1 i2 [i1] [i2, a]) :
    Turn P w K (.Tuple elts kk tpos) (ItZs K zz a) [z, TI, TO, i1, i2] z (fun i h => IsZip h z TI TO .none ∧ IsTupOf2 h TI (.ref i1) (.ref i2) ∧ (∃ x y, IsTupOf2 h TO x y) ∧ h.IsStrIter i1 (strIterType zz) zz tok i ∧ h.IsTupleIter i2 a i) where
  mem := by simp
  obj := fun i h st c hc => by
    obtain ⟨hz, hTI, ⟨x, y, hTO⟩, ⟨o1, e1, _, d1⟩, ⟨o2, e2, _, d2⟩⟩ := st
    rcases (show c = z ∨ c = TI ∨ c = TO ∨ c = i1 ∨ c = i2 by simpa using hc) with q | q | q | q | q
    · rw [q]; exact ⟨_, hz, fun v q => nomatch q⟩
    · rw [q]; exact ⟨_, hTI, fun v q => nomatch q⟩
    · rw [q]; exact ⟨_, hTO, fun v q => nomatch q⟩
    · rw [q]; exact ⟨o1, e1, fun v q => by rw [d1] at q; cases q⟩
    · rw [q]; exact ⟨o2, e2, fun v q => by rw [d2] at q; cases q⟩
  keep := fun i h h' st k => by
    obtain ⟨hz, hTI, ⟨x, y, hTO⟩, ⟨o1, e1, r1⟩, h2⟩ := st
    exact ⟨k z (by simp) _ hz, k TI (by simp) _ hTI, ⟨x, y, k TO (by simp) _ hTO⟩, ⟨o1, k i1 (by simp) _ e1, r1⟩, h2.at fun o q => k i2 (by simp) o q⟩
  item := by
    intro X hP hw hK hc i pins s σ H E I hf st hg
    subst hP hw hK
    obtain ⟨hz, hTI, ⟨x0, y0, hTO⟩, h1, h2⟩ := st
    obtain ⟨xs, x, hq, hx, hlt⟩ := hg
    obtain ⟨its, rv, p, _⟩ := I.tuple hq
    obtain ⟨u, hu, ru⟩ := rv.get hx
    have p : s.heap.IsTuple a its.toArray := p
    have hzl : z < s.heap.objs.size := Heap.lt_size hz
    have lt : i < its.toArray.size := by
      rw [List.size_toArray]
      exact (List.getElem?_eq_some_iff.mp hu).1
    have hh : X.A.in1.handled = none := I.ok.hd hc
    refine wpAny_pyNext_zipD2_item D (Draws.text (A := X.A.in1) hh i1 zz tok) (Draws.tuple (A := X.A.in1) hh i2 a (apart_it h2 p) its.toArray) hz hTI hTO h1 ⟨h2, p⟩ hlt lt fun y1 y2 h' tk p1 p2 z' TO' g1 g2 hT hsz hk => ?_
    obtain ⟨c, t1, hcc, rfl⟩ := p1
    obtain rfl : u = y2 := by
      have zq : its.toArray[i]? = some y2 := p2
      rw [List.getElem?_toArray, hu] at zq
      exact Option.some.inj zq
    refine ⟨_, rfl, wpAny_letOwnedTupleGo_zip (s := { s with heap := h', toks := tk }) z' fun h'' z'' sb => ?_⟩
    have hT2 := (sb.2 _ (Nat.ne_of_gt hzl)).trans hT
    have I1 : Inv X pins σ (upd H s.heap.objs.size (.tup [.str ⟨#[c]⟩, x])) { s with heap := h'', toks := tk } :=
      I.turnedNew (ch := [z, TI, TO, i1, i2]) (fun c o hb q => (sb.2 c (fun q' => hb (by simp [q']))).trans (hk c o (fun q' => hb (by simp [q'])) (fun q' => hb (by simp [q'])) (fun q' => hb (by simp [q'])) (fun q' => hb (by simp [q'])) q)) hf (Nat.le_refl _)
        ⟨by show 2 ≤ sizeLine; decide, [.str ⟨#[c]⟩ t1, u], .cons ⟨_, rfl⟩ (.cons ru .nil), ⟨_, hT2, rfl, _, rfl⟩⟩
    refine ⟨.ref s.heap.objs.size, _, I1, rfl, ⟨_, c, x, rfl, I.hok.fresh (Nat.le_refl _), rfl, hcc, fun l hl => by rw [I.tuple_inj hl hq]; exact hx⟩, ⟨z'', ?_, ⟨.str ⟨#[c]⟩ t1, u, ?_⟩, ?_, ?_⟩, fun c hcm => ?_⟩
    · have nTI : TI ≠ i2 := D.TIi2
      exact (sb.2 _ D.TIz).trans (hk _ _ D.TIz D.TITO D.TIi1 nTI hTI)
    · exact (sb.2 _ D.TOz).trans TO'
    · obtain ⟨o, e, r⟩ := g1
      exact ⟨o, (sb.2 _ D.zi1.symm).trans e, r⟩
    · exact g2.1.at fun o q => (sb.2 _ D.zi2.symm).trans q
    · have hltc : c < s.heap.objs.size := by
        rcases (show c = z ∨ c = TI ∨ c = TO ∨ c = i1 ∨ c = i2 by simpa using hcm) with q | q | q | q | q
        · rw [q]; exact hzl
        · rw [q]; exact Heap.lt_size hTI
        · rw [q]; exact Heap.lt_size hTO
        · rw [q]; obtain ⟨_, e1, _⟩ := h1; exact Heap.lt_size e1
        · rw [q]; obtain ⟨_, e2, _⟩ := h2; exact Heap.lt_size e2
      rw [upd_ne (Nat.ne_of_lt hltc)]
      exact (hf c hcm).1
  done := by
    intro X hP hw hK hc i pins s σ H E I hf st hg
    subst hP hw hK
    obtain ⟨hz, hTI, ⟨x0, y0, hTO⟩, h1, h2⟩ := st
    obtain ⟨xs, hq, l1, l2, hend⟩ := hg
    obtain ⟨its, rv, p, _⟩ := I.tuple hq
    have p : s.heap.IsTuple a its.toArray := p
    have hl := rv.length
    have hh : X.A.in1.handled = none := I.ok.hd hc
    have hsz : its.toArray.size = xs.length := by
      rw [List.size_toArray]
      omega
    exact wpAny_pyNext_zipD2_end D (Draws.text (A := X.A.in1) hh i1 zz tok) (Draws.tuple (A := X.A.in1) hh i2 a (apart_it h2 p) its.toArray) hz hTI hTO h1 ⟨h2, p⟩ l2 (by omega) (by omega) fun h' tk hk => ⟨rfl, I.turnedL (t' := tk) (ch := [z, TI, TO, i1, i2]) (fun c o hb q =>
      hk c o (fun q' => hb (by simp [q'])) (fun q' => hb (by simp [q'])) (fun q' => hb (by simp [q'])) (fun q' => hb (by simp [q'])) q) hf⟩
  self := fun A i s Q E st h => wpAny_pyIter_zip st.1 h
def iZs (K : PySem.W.Frag) (ta : TA) : TI := fun σ H R => ta σ H fun vs H1 => ∃ z a xs, vs = [.str z, .ref a] ∧ SqT K H1 a xs ∧ R (ItZs K z a) H1
theorem nm1 {a b : Nat} (h : a ≠ b) : a ∉ [b] := fun z => h (List.mem_singleton.mp z)
theorem nm2 {a b c : Nat} (h : a ≠ b) (h2 : a ≠ c) : a ∉ [b, c] := fun z => (List.mem_cons.mp z).elim h fun z => h2 (List.mem_singleton.mp z)
theorem sep_n (n a : Nat) (h : a < n) : ZipSep2 (n + 4) (n + 2) (n + 3) n (n + 1) [n] [n + 1, a] where
  TIz := show (n + 2 : Nat) ≠ n + 4 by omega
  TOz := show (n + 3 : Nat) ≠ n + 4 by omega
  TITO := show (n + 2 : Nat) ≠ n + 3 by omega
  TIi1 := show (n + 2 : Nat) ≠ n by omega
  mem1 := List.mem_cons_self
  zf1 := nm1 (by omega)
  Tf1 := nm1 (by omega)
  TIi2 := show (n + 2 : Nat) ≠ n + 1 by omega
  mem2 := List.mem_cons_self
  zf2 := nm2 (by omega) (by omega)
  Tf2 := nm2 (by omega) (by omega)
  sep1_2 := nm2 (by omega) (by omega)
  sep2_1 := nm1 (by omega)
theorem pi_zipST {X : Cx} {e e2 : Expr} {ta : TA} {p pos tpos : Pos} {elts : List Expr} {kk : Nat} (hg : Gl X "zip") (hm : X.mg "zip" = none) (ha : PA X [e, e2] ta)
    (hs : starEach [e, e2] X.env = (false, eval e X.env) :: starEach [e2] X.env := by rfl) (hpl : (backTo pos (starEach [e2] X.env)).any (·.1) = false := by rfl) :
    PI X (.Tuple elts kk tpos) (.Call (.Name "zip" p) [e, e2] [] pos) (iZs X.K ta) := by
  refine ⟨fun pins s σ H R I h => ?_⟩
  refine Call_ (ld_blt I hg hm PyProof.Rows.boot_zip (PyProof.Rows.callWith_type1 (thn (ha.run pos pins s σ H _ I h) fun us s1 ⟨vs, H1, I1, r1, q1⟩ => ?_) hs hpl))
  obtain ⟨z, a, xs, rfl, hq, q⟩ := q1
  cases r1 with
  | cons r rr =>
    obtain rfl := Vals.ref1 rr
    obtain ⟨t, rfl⟩ := r
    obtain ⟨its, rv, p', _⟩ := I1.tuple hq
    have p' : s1.heap.IsTuple a its.toArray := p'
    have hal : a < s1.heap.objs.size := p'.elim fun _ x => Heap.lt_size x.1
    refine zip_begins2 (begins_text z t) (begins_tuple a its.toArray) trivial p' fun h' hz hTI hTO h1 h2 hsz hk => wpAny_pyIter_zip hz ?_
    have I2 : Inv X pins σ H1 { s1 with heap := h' } := I1.kept (t' := s1.toks) hk
    have D := sep_n s1.heap.objs.size a hal
    refine ⟨s1.heap.objs.size + 4, [s1.heap.objs.size + 4, s1.heap.objs.size + 2, s1.heap.objs.size + 3, s1.heap.objs.size, s1.heap.objs.size + 1], _, _, H1, rfl, I2, turn_zs (tok := t) D, ⟨hz, hTI, ⟨_, _, hTO⟩, ⟨_, h1, rfl, rfl⟩, ⟨_, h2, rfl, rfl⟩⟩, fun c hcm => ?_, q⟩
    have hle : s1.heap.objs.size ≤ c := by
      rcases (show c = s1.heap.objs.size + 4 ∨ c = s1.heap.objs.size + 2 ∨ c = s1.heap.objs.size + 3 ∨ c = s1.heap.objs.size ∨ c = s1.heap.objs.size + 1 by simpa using hcm) with q | q | q | q | q <;> rw [q] <;> first | exact Nat.le_add_right _ _ | exact Nat.le_refl _
    exact I1.fpOk hle (I1.hok.fresh hle)
theorem walk_zs {K : PySem.W.Frag} {a : Addr} {z : Str} {xs : List V} {n : Nat} (h1 : n = z.cps.size) (h2 : n = xs.length) : Walk (ItZs K z a) n (fun H => SqT K H a xs) (YPair (fun i => (z.cps[i]?).map fun c => .str ⟨#[c]⟩) (fun i => xs[i]?)) :=
  ⟨fun i _ hi q => ⟨xs, xs[i]'(by omega), q, by simp [show i < xs.length by omega], by omega⟩, fun _ q => ⟨xs, q, by omega, by omega, by omega⟩, fun i H v H' _ q y => by
    obtain ⟨T, c, x, h1, h2, h3, h4, h5⟩ := y
    exact ⟨T, _, x, h1, h2, h3, by simp only [h4, Option.map_some], h5 xs q⟩⟩
end K5
end

section
set_option maxHeartbeats 4000000
/-! KS: a set comprehension of ints (printed by mkset.py). -/
namespace K5
open PySem PySem.Spec L2 PpSet
open PyProof.Rows hiding St
section
variable {X : Cx}
theorem addI_ok {pins : List (Addr × Obj)} {σ : L2.St} {H : Hp} {s : Shared} {D : Addr} {S : Int → Bool} {n : Nat} {y : Int} {tk : Tok} {Q : Value → Shared → Prop} {E : Value → Shared → Prop} (I : Inv X pins σ H s) (hD : H D = some (SetO X.w D S n)) (room : n + 1 < scanBound) (hE : ∀ e s', X.xe e s' → E e s')
    (h : ∀ s', Inv X pins σ (upd H D (SetO X.w D (fun j => S j || decide (j = y)) (if S y = true then n else n + 1))) s' → Q .none s') : wpAny (model X.prog X.w) X.A (call (.builtin "set.add") [.ref D, .int y tk]) Q E s := by
  refine wpAny_mono (mt_sadd pins s σ H (.ref D) [.int y] (.ref D) [.int y tk] (fun v H' => v = .non ∧ H' = upd H D (SetO X.w D (fun j => S j || decide (j = y)) (if S y = true then n else n + 1))) I rfl (.cons ⟨_, rfl⟩ .nil) ⟨D, y, S, n, rfl, rfl, hD, room, rfl, rfl⟩) (fun u s' z => ?_) hE
  obtain ⟨v, H', I', rv, rfl, rfl⟩ := z
  obtain rfl : u = Value.none := rv
  exact h s' I'
def tSi (w : World) (wis : TI) (g : TG) (tt : TT) (te : TE) (vs : List Nat) : TE := fun σ H Q => wis σ H fun J H1 => ∀ D, H1 D = none → ∃ W : Nat → Nat → Hp → Prop, (∃ m, W 0 m (upd H1 D (SetO w D (fun _ => false) 0))) ∧ ∀ i m H, W i m H →
  (J.stop i H ∧ Q (.ref D) H) ∨ (J.go i H ∧ ∃ Nx : Hp → Prop, (∀ H', Nx H' → ∃ m', m' < m ∧ W (i + 1) m' H') ∧ ∀ x H', J.yld i H x H' → g x (wipe σ vs) H' fun σ2 H2 => wipe σ2 vs = wipe σ vs ∧ tt σ2 H2 fun b G3 =>
    if b = true then te σ2 G3 fun y G4 => ∃ (c : Int) (S : Int → Bool) (n : Nat), y = .int c ∧ G4 D = some (SetO w D S n) ∧ n + 1 < scanBound ∧ Nx (upd G4 D (SetO w D (fun j => S j || decide (j = c)) (if S c = true then n else n + 1))) else Nx G3)
theorem si_core {pins : List (Addr × Obj)} {s : Shared} {σ : L2.St} {H : Hp} {Q : VK} {elm tgt iter : Expr} {fs_ : List Expr} {scp : Scope} {own : List (PySem.Str × Nat)} {ps_ ps2 : Pos} {wis : TI} {g : TG} {tt : TT} {te : TE} {use : Option (Value → Sem Unit)} {Qz : Value → Shared → Prop}
    (hca : X.calm = true) (hNd : X.N.Nodup) (I : Inv X pins σ H s) (hit : PI X tgt iter wis) (ok : BlkOk X.N X.env.scope scp own)
    (hgg : ∀ (s : Shared) (H : Hp) (C : Addr) (cl_ : List (PySem.Str × Addr)) (fps : List Addr), PG (X.blk s H scp (compEnvC scp cl_ C X.env) fps) tgt g) (htt : ∀ (s : Shared) (H : Hp) (C : Addr) (cl_ : List (PySem.Str × Addr)) (fps : List Addr), PTs (X.blk s H scp (compEnvC scp cl_ C X.env) fps) fs_ tt)
    (hee : ∀ (s : Shared) (H : Hp) (C : Addr) (cl_ : List (PySem.Str × Addr)) (fps : List Addr), PE (X.blk s H scp (compEnvC scp cl_ C X.env) fps) elm te) (hs : ∀ x, foldedSetIterable iter X.env x = pure x)
    (h : tSi X.w wis g tt te (own.map (·.2)) σ H Q)
    (hR2 : ∀ D C s' m H', Inv X pins σ H' s' → Q (.ref D) H' → s'.heap.Ns C m → FpOk X pins H' C → compPost (model X.prog X.w) X.A X.xe use Qz (.ref D) C (.ok .next) s') :
    wpAny (model X.prog X.w) X.A (comprehension (.SetComp elm [⟨tgt, iter, fs_, 0⟩] scp ps_) scp X.env ps2 (newSet (.type "set")) false (eval iter X.env) use) Qz X.xe s := by
  have hfree : ∀ y ∈ scp.names, y.2 = .free → ∃ c, X.env.cells.lookup y.1 = some c := fun y hy e => by
    rcases ok.free y hy e with k | k
    · exact I.ok.has _ (.inl k)
    · exact I.ok.has _ (.inr k)
  refine wpAny_comprehension_free (use := use) rfl hs (closure_ok hfree) ok.kind (fun y hy e => by rw [ok.uniq y hy, e])
    (thn (hit.run pins s σ H _ I h) fun xv u1 hx => thn hx fun itv u2 h2 => ?_)
  obtain ⟨it, fps, tn, J, H2, e, I2, T, st2, f2, q⟩ := h2
  subst e
  refine newSet_ok (newEnv_comp ?_)
  generalize hD : u2.heap.objs.size = D
  have hDn : H2 D = none := I2.hok.fresh (Nat.le_of_eq hD)
  obtain ⟨W, ⟨m0, w0⟩, trn⟩ := q D hDn
  -- the new list
  generalize hs3 : ({ u2 with heap := u2.heap.push { cls := .type "set", dict := none, data := .set #[] 0 (.fresh 0 0 (!X.w.params.followText "set-order")) } } : Shared) = u3
  have J3 : Inv X pins σ (upd H2 D (SetO X.w D (fun _ => false) 0)) u3 := by
    rw [← hs3]
    refine I2.laid (t' := u2.toks) (fun b o e => Heap.get?_push_of_some _ e) (Nat.le_of_eq hD) ?_
    rw [← hD]
    exact setO_new (setR_fresh X.w)
  have h3 : u3.heap = u2.heap.push { cls := .type "set", dict := none, data := .set #[] 0 (.fresh 0 0 (!X.w.params.followText "set-order")) } := by rw [← hs3]
  have sz : ∀ b ∈ fps, b < u2.heap.objs.size := fun b hb => by
    obtain ⟨o, e, _⟩ := T.obj _ _ st2 b hb
    exact Heap.lt_size e
  have f3 : ∀ b ∈ fps, FpOk X pins (upd H2 D (SetO X.w D (fun _ => false) 0)) b ∧ b < u3.heap.objs.size := fun b hb => by
    have hlt := sz b hb
    refine ⟨⟨?_, (f2 b hb).2⟩, by rw [h3, Heap.size_push]; exact Nat.lt_succ_of_lt hlt⟩
    rw [upd_ne (by rw [← hD]; exact Nat.ne_of_lt hlt)]
    exact (f2 b hb).1
  have t3 : tn 0 u3.heap := T.keep _ _ _ st2 fun b _ o e => by rw [h3]; exact Heap.get?_push_of_some _ e
  have J4 := block_start J3 ok hNd f3
  have pg := hgg u3 (upd H2 D (SetO X.w D (fun _ => false) 0)) u3.heap.objs.size (cellsFrom (u3.heap.objs.size + 1) scp.names (cloFrom X.env.cells scp.names [])) fps
  have pt := htt u3 (upd H2 D (SetO X.w D (fun _ => false) 0)) u3.heap.objs.size (cellsFrom (u3.heap.objs.size + 1) scp.names (cloFrom X.env.cells scp.names [])) fps
  have pe := hee u3 (upd H2 D (SetO X.w D (fun _ => false) 0)) u3.heap.objs.size (cellsFrom (u3.heap.objs.size + 1) scp.names (cloFrom X.env.cells scp.names [])) fps
  show codeAny _ _ (.compStart (.SetComp elm [⟨tgt, iter, fs_, 0⟩] scp ps_) 0 (.ref it) (.ref D) (compEnvC scp (cellsFrom (u3.heap.objs.size + 1) scp.names (cloFrom X.env.cells scp.names [])) u3.heap.objs.size X.env)) (compPost (model X.prog X.w) X.A X.xe use Qz (.ref D) u3.heap.objs.size) { u3 with heap := pushCells (u3.heap.push { cls := .type "dict", data := .dict #[] }) scp.names }
  have nfq : ∀ b ∈ fps, (upd H2 D (SetO X.w D (fun _ => false) 0)) b = none := fun b hb => (f3 b hb).1.1
  generalize hce : compEnvC scp (cellsFrom (u3.heap.objs.size + 1) scp.names (cloFrom X.env.cells scp.names [])) u3.heap.objs.size X.env = cen at J4 pg pt pe ⊢
  have cLo : cen.locals = u3.heap.objs.size := by subst hce; rfl
  generalize hH3 : upd H2 D (SetO X.w D (fun _ => false) 0) = G3 at J3 J4 pg pt pe w0 nfq f3
  generalize hs4 : ({ u3 with heap := pushCells (u3.heap.push { cls := .type "dict", data := .dict #[] }) scp.names } : Shared) = u4 at J4 ⊢
  have t4 : tn 0 u4.heap := T.keep _ _ _ t3 fun b _ o e => by rw [← hs4]; exact pushCells_keeps _ _ _ _ (Heap.get?_push_of_some _ e)
  have sta : ∀ {σ' : L2.St} {H' : Hp} {s' : Shared}, Inv (X.blk u3 G3 scp cen fps) [] σ' H' s' → (∀ b ∈ fps, H' b = none) → ∀ b ∈ fps, FpOk (X.blk u3 G3 scp cen fps) [] H' b := fun {σ' H' s'} I' hn b hb =>
    ⟨hn b hb, (I'.ok.exf b hb).1, I'.ok.exfs b hb, .inl hb, fun x c e => (I'.ok.exf b hb).2 x c e, fun p hp => absurd (show p ∈ ([] : List (Addr × Obj)) ++ [] from hp) (by simp)⟩
  have lp : codeAny (model X.prog X.w) X.A (.compLoop (.SetComp elm [⟨tgt, iter, fs_, 0⟩] scp ps_) 0 (.ref it) (.ref D) cen) (compPost (model X.prog X.w) X.A X.xe use Qz (.ref D) u3.heap.objs.size) u4 := by
    refine compLoopS_any (fun n s' => ∃ i H', Inv (X.blk u3 G3 scp cen fps) [] (wipe σ (own.map (·.2))) H' s' ∧ tn i s'.heap ∧ (∀ b ∈ fps, H' b = none) ∧ W i n H') ?_ m0 ⟨0, G3, J4, t4, nfq, w0⟩
    rintro n u5 ⟨i, G5, J5, t5, n5, w5⟩
    rcases trn i n G5 w5 with ⟨stp, qq⟩ | ⟨goo, Nx, hNx, step⟩
    · have td := T.done (X.blk u3 G3 scp cen fps) rfl rfl rfl hca i [] u5 _ G5 (fun _ _ => False) J5 (sta J5 n5) t5 stp
      refine thnF td fun r u6 ⟨hr, J6⟩ => ?_
      subst hr
      -- back in the def's context
      have J7 : Inv X pins σ G5 u6 := J3.call' (ch := fps) J6.os J6.base J6.hok J6.bare fun b hb => ⟨(f3 b hb).1.2.2.2.1, (f3 b hb).1.2.1, (f3 b hb).1.2.2.2.2.1, (f3 b hb).1.2.2.2.2.2⟩
      have nC : G5 u3.heap.objs.size = none := by
        have z : G5 cen.locals = none := J6.free
        rw [cLo] at z
        exact z
      obtain ⟨m, hn, _⟩ := J6.loc
      have hn : u6.heap.Ns cen.locals m := hn
      rw [cLo] at hn
      exact hR2 D u3.heap.objs.size u6 m G5 J7 qq hn (J3.fpOk (Nat.le_refl _) nC)
    · have ti := T.item (X.blk u3 G3 scp cen fps) rfl rfl rfl hca i [] u5 _ G5 (fun _ _ => False) J5 (sta J5 n5) t5 goo
      refine thnF ti fun r u6 ⟨u, hr, h6⟩ => ?_
      subst hr
      refine thnF h6 fun _ u7 ⟨x, G7, J7, r7, y7, t7, n7⟩ => ?_
      have I7' := J7.pinned (sta J7 n7) (T.obj _ _ t7)
      refine thnF (pg.run _ u7 _ G7 x u _ I7' r7 (step x G7 y7)) fun _ u8 ⟨τ8, G8, J8, hw8, q8⟩ => ?_
      refine thnF (pt.run _ u8 τ8 G8 _ J8 q8) fun b u9 ⟨G9, J9, q9⟩ => ?_
      -- the turn's end
      have fi_ : ∀ {s' : Shared} {H' : Hp}, Inv (X.blk u3 G3 scp cen fps) ([] ++ pinsAt fps u7.heap) τ8 H' s' → Nx H' → ∃ m, m < n ∧ ∃ i H', Inv (X.blk u3 G3 scp cen fps) [] (wipe σ (own.map (·.2))) H' s' ∧ tn i s'.heap ∧ (∀ b ∈ fps, H' b = none) ∧ W i m H' := fun {s' H'} I' nx => by
        obtain ⟨m', hm, w'⟩ := hNx H' nx
        have pin' : ∀ b ∈ fps, ∀ o, u7.heap.get? b = some o → s'.heap.get? b = some o ∧ H' b = none := fun b hb o e =>
          let z := I'.pin (b, o) (List.mem_append_right _ (List.mem_append_right _ (mem_pinsAt hb e)))
          ⟨z.1, z.2.1⟩
        have hl : (wipe σ (own.map (·.2))).length = τ8.length := by rw [← hw8, wipe_length]
        refine ⟨m', hm, i + 1, H', (I'.unpinned (pins := [])).weak hl (fun j v e => ?_), T.keep _ _ _ t7 fun b hb o e => (pin' b hb o e).1, fun b hb => ?_, w'⟩
        · rw [← hw8] at e
          exact (wipe_some e).1
        · obtain ⟨o, e, _⟩ := T.obj _ _ t7 b hb
          exact (pin' b hb o e).2
      cases b with
      | false =>
        simp only [Bool.false_eq_true, if_false] at q9 ⊢
        exact fi_ J9 q9
      | true =>
        simp only [if_true] at q9 ⊢
        refine thnF (pe.run _ u9 τ8 G9 _ J9 q9) fun z s10 ⟨yv, G10, J10, r10, cb, S0, n0, ey, hD10, hz10, nx⟩ => ?_
        subst ey
        obtain ⟨tk, rfl⟩ : ∃ tk, z = Value.int cb tk := r10
        exact addI_ok (X := X.blk u3 G3 scp cen fps) J10 hD10 hz10 (fun _ _ z => z.elim) fun s11 I11 => fi_ I11 nx
  exact codeAny_compStart_set lp (T.self X.A 0 _ _ _ t4 lp)
theorem pe_si {elm tgt iter : Expr} {fs_ : List Expr} {scp : Scope} {own : List (PySem.Str × Nat)} {ps_ : Pos} {wis : TI} {g : TG} {tt : TT} {te : TE} (hca : X.calm = true) (hNd : X.N.Nodup) (hit : PI X tgt iter wis) (ok : BlkOk X.N X.env.scope scp own)
    (hgg : ∀ (s : Shared) (H : Hp) (C : Addr) (cl_ : List (PySem.Str × Addr)) (fps : List Addr), PG (X.blk s H scp (compEnvC scp cl_ C X.env) fps) tgt g) (htt : ∀ (s : Shared) (H : Hp) (C : Addr) (cl_ : List (PySem.Str × Addr)) (fps : List Addr), PTs (X.blk s H scp (compEnvC scp cl_ C X.env) fps) fs_ tt)
    (hee : ∀ (s : Shared) (H : Hp) (C : Addr) (cl_ : List (PySem.Str × Addr)) (fps : List Addr), PE (X.blk s H scp (compEnvC scp cl_ C X.env) fps) elm te) (hs : ∀ x, foldedSetIterable iter X.env x = pure x := by intro _; rfl) :
    PE X (.SetComp elm [⟨tgt, iter, fs_, 0⟩] scp ps_) (tSi X.w wis g tt te (own.map (·.2))) := by
  refine ⟨fun pins s σ H Q I h => ?_⟩
  rw [eval_SetComp]
  refine si_core hca hNd I hit ok hgg htt hee hs h fun D C s' m H' I' q hn f => ⟨m, hn, fun h'' sb => ?_⟩
  obtain ⟨f0, f1, f2, f3, f4, f5⟩ := f
  exact ⟨.ref D, H', I'.turned (t' := s'.toks) (fun b o hb e => (sb.2 b hb).trans e) f0 f1 f3 f4 f5, rfl, q⟩
end
end K5
end

section
set_option maxHeartbeats 4000000
/-! KU: what follows the reading of walks, comprehensions, isinstance. -/
namespace K5
open PySem PySem.Spec L2
open PyProof.Rows hiding St
section
variable {X : Cx} {K : PySem.W.Frag}
theorem c_lenK (h : X.K = K) : CallR X (.builtin "len") (rLenS K) := h ▸ c_len
theorem c_isi : CallR X (.builtin "isinstance") (rIsi X.K) := call_isi
theorem c_isiK (h : X.K = K) : CallR X (.builtin "isinstance") (rIsi K) := h ▸ call_isi
theorem ix_tupK (h : X.K = K) : IxR X (rIxT K) := h ▸ ix_tup
theorem ix_listK (h : X.K = K) : IxR X (rIxL K) := h ▸ ix_list
theorem op_eqDK (h : X.K = K) (hu : X.A.units + 64 < cLine) : OpR X (compareOp .Eq) (rEqD K) := h ▸ op_eqD hu
theorem op_ltTK (h : X.K = K) (hu : X.A.units < cLine) : OpR X (compareOp .Lt) (rLtT K) := h ▸ op_ltT hu
theorem op_in_seqK (h : X.K = K) : OpR X (compareOp .In) (rIn K false) := h ▸ op_in_seq
theorem op_notIn_seqK (h : X.K = K) : OpR X (compareOp .NotIn) (rIn K true) := h ▸ op_notIn_seq
theorem u65 {k : Nat} {A : Around} (r : Room k A) : A.units + 65 < cLine := by have := r.un; omega
/-! ### x in a tuple of data -/
def rInTD (K : PySem.W.Frag) : R2 := fun x y H Q => ∃ d ds, Dp K H x d ∧ Dp K H y (.tuple ds) ∧ SeqAt.shaped d = true ∧ SeqAt.shaped (.tuple ds) = true ∧ Q (.bl (ds.any fun z => PyData.eqv z d)) H
theorem op_inTD (hu : X.A.units + 65 < cLine) : OpR X (compareOp .In) (rInTD X.K) := by
  intro pins s σ H x y v u Q I rx ry h
  obtain ⟨d, ds, hd, he, sd, se, q⟩ := h
  obtain ⟨as, r1⟩ := Dp.reads I d x v hd rx
  obtain ⟨bs, r2⟩ := Dp.reads I (.tuple ds) y u he ry
  exact SeqAt.in_tuple_reads r2 r1 (SeqAt.canLay_of_shaped se) (SeqAt.canLay_of_shaped sd) (PyProof.Rows.room_in_shaped sd hu) ⟨.bl _, H, I, rfl, q⟩
theorem op_inTDK (h : X.K = K) (hu : X.A.units + 65 < cLine) : OpR X (compareOp .In) (rInTD K) := h ▸ op_inTD hu
end
theorem r_inTD {K : PySem.W.Frag} {H : Hp} {Q : VK} {x y : V} {d : PyData} {ds : List PyData} (hx : Im H x d) (hy : Im H y (.tuple ds)) (s1 : SeqAt.shaped d = true) (s2 : SeqAt.shaped (.tuple ds) = true) (q : Q (.bl (ds.any fun z => PyData.eqv z d)) H) : rInTD K x y H Q :=
  ⟨d, ds, Im.dp _ _ hx, Im.dp _ _ hy, s1, s2, q⟩
theorem iteNF {A B : Prop} (h : A) : if (!false) = true then A else B := h
theorem iteNT {A B : Prop} (h : B) : if (!true) = true then A else B := h
/-! ### isinstance -/
theorem Im.ty {K : PySem.W.Frag} {H : Hp} {v : V} {d : PyData} (h : Im H v d) : ∃ a, TyX K H v (.type a) ∧ a = (match d with | .none => "NoneType" | .bool _ => "bool" | .int _ => "int" | .str _ => "str" | _ => "tuple") := by
  cases h with
  | non => exact ⟨_, .base .non, rfl⟩
  | bl b => exact ⟨_, .base (.bl b), rfl⟩
  | int i => exact ⟨_, .base (.int i), rfl⟩
  | str x => exact ⟨_, .base (.str x), rfl⟩
  | tup h _ => exact ⟨_, .base (.tup h), rfl⟩
section
variable {K : PySem.W.Frag} {w : World} {H : Hp} {Q : VK} {σ : L2.St}
theorem r_isi {x : V} {a T : String} {b : Bool} (ty : TyX K H x (.type a)) (h : kitB a T = some b) (q : Q (.bl b) H) : rIsi K [x, .ty T] H Q := ⟨x, .ty T, _, _, b, rfl, .ty T, ty, kit_ty h, q⟩
theorem r_isiT {x : V} {tp : Addr} {a : String} {b : Bool} (ht : H tp = some (.tup [.ty "list", .ty "tuple"])) (ty : TyX K H x (.type a)) (h : kitB a "list" = some b) (h2 : kitB a "tuple" = some c) (q : Q (.bl (b || c)) H) : rIsiT K [x, .ref tp] H Q :=
  ⟨x, tp, _, _, _, b || c, rfl, ht, .cons (.ty _) (.cons (.ty _) .nil), ty, kitAny_cons (kit_ty h) (fun e => by
    subst e
    exact kitAny_cons (kit_ty h2) (fun e => by subst e; exact kitAny_nil) (fun e => by subst e; rfl)) (fun e => by subst e; rfl), q⟩
/-- isinstance of the own class at C -/
def InsOf (C : Addr) : List V → Hp → VK → Prop := fun xs H Q => ∃ a dx fs, xs = [.ref a, .ref C] ∧ H a = some (.ins C dx fs) ∧ Q (.bl true) H
theorem c_ins {X : Cx} {C : Addr} (c : C8.InsC X.K C) : CallR X (.builtin "isinstance") (InsOf C) := C8.call_isC c
/-! ### loops -/
def ForW (J : It) (g : TG) (tb : TS) (D : Ends) (σ : L2.St) (H : Hp) : Prop := ∃ W : Nat → Nat → L2.St → Hp → Prop, (∃ m, W 0 m σ H) ∧ ∀ i m σ H, W i m σ H →
  (J.stop i H ∧ D.nx σ H) ∨ (J.go i H ∧ ∃ N : L2.St → Hp → Prop, (∀ σ' H', N σ' H' → ∃ m', m' < m ∧ W (i + 1) m' σ' H') ∧ ∀ x H', J.yld i H x H' → g x σ H' fun σ2 H2 => tb { D with nx := N, ct := N, bk := D.nx } σ2 H2)
theorem r_for {wi : TI} {g : TG} {tb : TS} {D : Ends} (q : wi σ H fun J H1 => ForW J g tb D σ H1) : tFor wi g tb D σ H := q
theorem for_w {J : It} {n : Nat} {G : Hp → Prop} {Y : Nat → Hp → V → Hp → Prop} (w : Walk J n G Y) {g : TG} {tb : TS} {D : Ends} (Pv : Nat → L2.St → Hp → Prop) (h0 : Pv 0 σ H) (hG : ∀ i σ H, i ≤ n → Pv i σ H → G H)
    (hs : ∀ i x σ H H', i < n → Pv i σ H → Y i H x H' → g x σ H' fun σ2 H2 => tb { D with nx := Pv (i + 1), ct := Pv (i + 1), bk := D.nx } σ2 H2) (hd : ∀ σ H, Pv n σ H → D.nx σ H) : ForW J g tb D σ H := for_it w Pv h0 hG hs hd
def LcW (J : It) (g : TG) (tt : TT) (te : TE) (vs : List Nat) (σ : L2.St) (H1 : Hp) (D : Addr) (Q : VK) : Prop := ∃ W : Nat → Nat → Hp → Prop, (∃ m, W 0 m (upd H1 D (.lst []))) ∧ ∀ i m H, W i m H →
  (J.stop i H ∧ Q (.ref D) H) ∨ (J.go i H ∧ ∃ Nx : Hp → Prop, (∀ H', Nx H' → ∃ m', m' < m ∧ W (i + 1) m' H') ∧ ∀ x H', J.yld i H x H' → g x (wipe σ vs) H' fun σ2 H2 => wipe σ2 vs = wipe σ vs ∧ tt σ2 H2 fun b H3 =>
    if b = true then te σ2 H3 fun y H4 => ∃ acc, H4 D = some (.lst acc) ∧ acc.length < sizeLine ∧ Nx (upd H4 D (.lst (acc ++ [y]))) else Nx H3)
theorem r_lc {wi : TI} {g : TG} {tt : TT} {te : TE} {vs : List Nat} (q : wi σ H fun J H1 => ∀ D, H1 D = none → LcW J g tt te vs σ H1 D Q) : tLc wi g tt te vs σ H Q := q
/-- a comprehension that makes objects only: P by the turn and what is collected -/
theorem lc_w {J : It} {n : Nat} {G : Hp → Prop} {Y : Nat → Hp → V → Hp → Prop} (wk : Walk J n G Y) {g : TG} {tt : TT} {te : TE} {vs : List Nat} {D : Addr} (nD : H D = none) (P : Nat → List V → Hp → Prop)
    (isn : ∀ i acc H H', Isn H H' → P i acc H → P i acc H') (hl : n ≤ 100000) (hG : ∀ H', Same H H' → G H') (h0 : P 0 [] H)
    (hs : ∀ i x acc H1 H' (Kt : VK) (Kf : Hp → Prop), i < n → Same H H1 → P i acc H1 → Y i H1 x H' → (∀ y H4, Same H1 H4 → P (i + 1) (acc ++ [y]) H4 → Kt y H4) → (∀ H3, Same H1 H3 → P (i + 1) acc H3 → Kf H3) →
      g x (wipe σ vs) H' fun σ2 H2 => wipe σ2 vs = wipe σ vs ∧ tt σ2 H2 fun b H3 => if b = true then te σ2 H3 Kt else Kf H3)
    (hd : ∀ acc H', Same H H' → H' D = some (.lst acc) → acc.length ≤ n → P n acc H' → Q (.ref D) H') : LcW J g tt te vs σ H D Q := by
  have szl : (100000 : Nat) < sizeLine := by decide
  have put : ∀ {H4 : Hp} {acc acc' : List V}, Same H H4 → H4 D = some (.lst acc) → Same H (upd H4 D (.lst acc')) ∧ Isn H4 (upd H4 D (.lst acc')) := fun {H4 acc acc'} s e =>
    ⟨fun b o h => by rw [upd_ne (ne_of_none h nD)]; exact s b o h, fun b o z h => by
      have nb : b ≠ D := fun q => by
        rw [q, e] at h
        cases h
        cases z
      rw [upd_ne nb]
      exact h⟩
  refine lc_it wk (fun i H' => ∃ acc, Same H H' ∧ H' D = some (.lst acc) ∧ acc.length ≤ i ∧ P i acc H') ⟨[], fun b o h => by rw [upd_ne (ne_of_none h nD)]; exact h, upd_same, Nat.le_refl _, isn _ _ _ _ (fun b o _ h => by rw [upd_ne (ne_of_none h nD)]; exact h) h0⟩ (fun i H' _ ⟨acc, s, _⟩ => hG H' s) ?_ ?_
  · rintro i x H1 H' hi ⟨acc, s, e, l, p⟩ y
    refine hs i x acc H1 H' _ _ hi s p y (fun y H4 s4 p4 => ?_) (fun H3 s3 p3 => ⟨acc, s.trans s3, s3 _ _ e, by omega, p3⟩)
    have e4 := s4 _ _ e
    obtain ⟨a1, a2⟩ := put (acc' := acc ++ [y]) (s.trans s4) e4
    exact ⟨acc, e4, by omega, acc ++ [y], a1, upd_same, by rw [List.length_append]; show acc.length + 1 ≤ _; omega, isn _ _ _ _ a2 p4⟩
  · rintro H' ⟨acc, s, e, l, p⟩
    exact hd acc H' s e l p
/-- .. every turn gives a scalar -/
theorem lc_sc {J : It} {n : Nat} {G : Hp → Prop} {Y : Nat → Hp → V → Hp → Prop} (wk : Walk J n G Y) {g : TG} {te : TE} {vs : List Nat} {D : Addr} (nD : H D = none) (f : Nat → V) (hl : n ≤ 100000) (hG : ∀ H', Same H H' → G H')
    (hs : ∀ i x H1 H' (Kt : VK), i < n → Same H H1 → Y i H1 x H' → (∀ H4, Same H1 H4 → Kt (f i) H4) → g x (wipe σ vs) H' fun σ2 H2 => wipe σ2 vs = wipe σ vs ∧ te σ2 H2 Kt)
    (hd : ∀ H', Same H H' → H' D = some (.lst ((List.range n).map f)) → Q (.ref D) H') : LcW J g tYes te vs σ H D Q := by
  have run : ∀ (x : V) (H' : Hp) (Kt : VK) (Kf : Hp → Prop), (g x (wipe σ vs) H' fun σ2 H2 => wipe σ2 vs = wipe σ vs ∧ te σ2 H2 Kt) → g x (wipe σ vs) H' fun σ2 H2 => wipe σ2 vs = wipe σ vs ∧ tYes σ2 H2 fun b H3 => if b = true then te σ2 H3 Kt else Kf H3 := fun x H' Kt Kf h => by
    have e : (fun (σ2 : L2.St) (H2 : Hp) => wipe σ2 vs = wipe σ vs ∧ tYes σ2 H2 fun b H3 => if b = true then te σ2 H3 Kt else Kf H3) = fun σ2 H2 => wipe σ2 vs = wipe σ vs ∧ te σ2 H2 Kt := by
      funext σ2 H2
      unfold tYes
      dsimp only
      rw [if_pos rfl]
    rw [e]
    exact h
  refine lc_w wk nD (fun i acc _ => acc = (List.range i).map f) (fun _ _ _ _ _ h => h) hl hG rfl (fun i x acc H1 H' Kt Kf hi s p y k _ => run x H' Kt Kf (hs i x H1 H' Kt hi s y fun H4 s4 => k _ _ s4 ?_)) fun acc H' s e _ p => hd H' s (by rw [e, p])
  rw [p, List.range_succ, List.map_append]
  rfl
theorem r_yes {Q : Bool → Hp → Prop} (q : Q true H) : tYes σ H Q := q
/-! ### what is walked -/
theorem r_iT {te : TE} {R : It → Hp → Prop} (q : te σ H fun x H1 => ∃ a, x = .ref a ∧ (∃ xs, SqT K H1 a xs) ∧ R (Itt K a) H1) : iTup K te σ H R := q
theorem r_iL {te : TE} {R : It → Hp → Prop} (q : te σ H fun x H1 => ∃ a, x = .ref a ∧ (∃ xs, SqL K H1 a xs) ∧ R (Itl K a) H1) : iList K te σ H R := q
theorem r_exT {a : Addr} {xs : List V} {R : It → Hp → Prop} (h : H a = some (.tup xs)) (q : R (Itt K a) H) : ∃ a', V.ref a = .ref a' ∧ (∃ xs, SqT K H a' xs) ∧ R (Itt K a') H := ⟨a, rfl, ⟨xs, .of h⟩, q⟩
theorem r_exL {a : Addr} {xs : List V} {R : It → Hp → Prop} (h : SqL K H a xs) (q : R (Itl K a) H) : ∃ a', V.ref a = .ref a' ∧ (∃ xs, SqL K H a' xs) ∧ R (Itl K a') H := ⟨a, rfl, ⟨xs, h⟩, q⟩
theorem r_enT {ta : TA} {R : It → Hp → Prop} (q : ta σ H fun vs H1 => ∃ a xs, vs = [.ref a] ∧ SqT K H1 a xs ∧ R (ItEn K a) H1) : iEnT K ta σ H R := q
theorem r_exEn {a : Addr} {xs : List V} {R : It → Hp → Prop} (h : H a = some (.tup xs)) (q : R (ItEn K a) H) : ∃ a' xs, [V.ref a] = [.ref a'] ∧ SqT K H a' xs ∧ R (ItEn K a') H := ⟨a, xs, rfl, .of h, q⟩
theorem r_zA {ta : TA} {R : It → Hp → Prop} (q : ta σ H fun vs H1 => ∃ a b xs ys, vs = [.ref a, .ref b] ∧ SqT K H1 a xs ∧ SqT K H1 b ys ∧ R (RZ.ItzT K a b) H1) (mono : ∀ {P1 P2 : List V → Hp → Prop}, (∀ vs H, P1 vs H → P2 vs H) → ta σ H P1 → ta σ H P2) : RZ.iZipA K ta σ H R :=
  mono (fun vs H1 ⟨a, b, xs, ys, e, h1, h2, r⟩ => ⟨a, b, xs, ys, e, .inr ⟨h1, h2, r⟩⟩) q
theorem r_zip {ta : TA} {R : It → Hp → Prop} (q : ta σ H fun vs H1 => ∃ a b xs ys, vs = [.ref a, .ref b] ∧ ((SqL K H1 a xs ∧ SqL K H1 b ys ∧ R (Itz K a b) H1) ∨ (SqT K H1 a xs ∧ SqT K H1 b ys ∧ R (RZ.ItzT K a b) H1))) : RZ.iZipA K ta σ H R := q
theorem r_exZ {a b : Addr} {xs ys : List V} {R : It → Hp → Prop} (h1 : H a = some (.tup xs)) (h2 : H b = some (.tup ys)) (q : R (RZ.ItzT K a b) H) : ∃ a' b' xs ys, [V.ref a, V.ref b] = [.ref a', .ref b'] ∧ ((SqL K H a' xs ∧ SqL K H b' ys ∧ R (Itz K a' b') H) ∨ (SqT K H a' xs ∧ SqT K H b' ys ∧ R (RZ.ItzT K a' b') H)) :=
  ⟨a, b, xs, ys, rfl, .inr ⟨.of h1, .of h2, q⟩⟩
theorem r_iR1 {ta : TA} {R : It → Hp → Prop} (q : ta σ H fun vs H1 => ∃ j : Int, vs = [.int j] ∧ -(2 ^ 62) ≤ j ∧ j < 2 ^ 62 ∧ R (Itr 0 j.toNat) H1) : iRng1 ta σ H R := q
theorem r_exR {j : Int} {n : Nat} {R : It → Hp → Prop} (e : j = n) (h : n ≤ 100000) (q : R (Itr 0 n) H) : ∃ j' : Int, [V.int j] = [.int j'] ∧ -(2 ^ 62) ≤ j' ∧ j' < 2 ^ 62 ∧ R (Itr 0 j'.toNat) H := by
  subst e
  exact ⟨_, rfl, by omega, by omega, by rw [Int.toNat_natCast]; exact q⟩
/-! ### ranges as tuples and lists -/
theorem rgV_nats (n : Nat) : rgV 0 (n : Int) = (List.range n).map nI := by
  unfold rgV
  rw [Int.sub_zero, Int.toNat_natCast]
  refine List.map_congr_left fun i _ => ?_
  rw [Int.zero_add]
  rfl
theorem r_tRg {ta : TE} {j : Int} (n : Nat) (h : ∀ Q' : VK, Q' (.int j) H → ta σ H Q') (e : j = n) (hn : n ≤ 100000) (q : ∀ p H', Same H H' → H' p = some (.tup ((List.range n).map nI)) → Q (.ref p) H') : tTupRg (tRg1 ta) σ H Q := by
  subst e
  refine h _ ⟨_, rfl, ⟨by omega, by omega, by omega, by omega, by omega⟩, fun p hp => ?_⟩
  rw [rgV_nats]
  exact q p _ (same_upd hp) upd_same
theorem r_lRg {ta : TE} {j : Int} (n : Nat) (h : ∀ Q' : VK, Q' (.int j) H → ta σ H Q') (e : j = n) (hn : n ≤ 100000) (q : ∀ p H', H p = none → Same H H' → H' p = some (.lst ((List.range n).map nI)) → Q (.ref p) H') : tLstRg (tRg1 ta) σ H Q := by
  subst e
  refine h _ ⟨_, rfl, ⟨by omega, by omega, by omega, by omega, by omega⟩, fun p hp => ?_⟩
  rw [rgV_nats]
  exact q p _ hp (same_upd hp) upd_same
end
end K5
end

section
set_option maxHeartbeats 4000000
/-! KW: tuple * k, k at least 1 (times one it is the tuple itself). -/
namespace K5
open PySem PySem.Spec L2
open PyProof.Rows hiding St
open PySem.AutoSeq1 (wpAny_loadPart')
theorem mul_one (l : Addr) (items : Array Value) (n : Nat) (dd : Option Addr) (sl : Array (Option Value)) (u : Tok) :
    Meets (Builtin.«tuple.__mul__» ⟨[.ref l, .int 1 u], []⟩) (fun _ R s => s.heap.get? l = some { cls := .type "tuple", dict := dd, data := .seq items n, slots := sl } ∧ R (.ok (.ret (Value.ref l))) s) :=
  .of_wp fun pr wo Ar Rr sh hh => by
    obtain ⟨hp, g, d, tk, os⟩ := sh
    obtain ⟨hl, hR⟩ := hh
    have f1 := AutoSeq1.idx_int
    have c0 : (decide ((1 : Int) < -(2 ^ 63)) || decide ((1 : Int) ≥ 2 ^ 63)) = false := by decide
    have c1 : (items.isEmpty || (1 : Int) == 1) = true := by
      rw [show ((1 : Int) == 1) = true from rfl, Bool.or_true]
    wp_walk using wpAny_loadPart' hl
    repeat (first
      | (refine wpAny_ite_false (decide_eq_false (by rw [c0]; exact Bool.false_ne_true)) ?_; wp_walk using wpAny_loadPart' hl)
      | (refine wpAny_ite_true (decide_eq_true c1) ?_; wp_walk using wpAny_loadPart' hl))
    exact ⟨_, rfl, hR⟩
def rRepA (K : PySem.W.Frag) : R2 := fun x y H Q => ∃ (l : Addr) (k : Nat) (xs : List V), x = .ref l ∧ y = .int k ∧ H l = some (.tup xs) ∧ xs ≠ [] ∧ 1 ≤ k ∧ k ≤ 1000 ∧ xs.length ≤ 1000 ∧ ∀ p H', Same H H' → H' p = some (.tup (List.replicate k xs).flatten) → Q (.ref p) H'
theorem op_repA {X : Cx} : OpR X (binaryOp .Mult) (rRepA X.K) := by
  intro pins s σ H x y v u Q I rx ry h
  obtain ⟨l, k, xs, rfl, rfl, hT, hne, h1, h2, hz, q⟩ := h
  by_cases hk : 2 ≤ k
  · exact op_repT pins s σ H _ _ _ _ _ I rx ry ⟨l, k, xs, rfl, rfl, .of hT, hne, by omega, by omega, hz, fun p hp => by
      rw [Int.toNat_natCast]
      exact q p _ (same_upd hp) upd_same⟩
  · obtain rfl : k = 1 := by omega
    cases rx
    obtain ⟨t, rfl⟩ := ry
    obtain ⟨its, r, ⟨⟨cls, dd, data, sl⟩, ho, hc, n, hd⟩, hs⟩ := I.tuple (.of hT)
    simp only at hc hd
    subst hc hd
    refine wpAny_binaryOp_repeat_ref (T := "tuple") (U := "int") (by decide) ⟨_, ho, rfl⟩ (fun s' => typeIs_int s' 1 t) noFill_tuple_mul F.fills_int_mul F.slot_int_rmul repeat_tuple F.slot_int_index.lookup
      (call_meets F.slot_int_rmul (typeIs_int s 1 t) F.entry_int_rmul (F.args_int_rmul_2 _ _) (int_rmul_tuple 1 t l its.toArray n dd sl)
        ⟨ho, rfl, ⟨_, ho, rfl⟩, call_meets F.slot_tuple_mul ⟨_, ho, rfl⟩ F.entry_tuple_mul (F.args_tuple_mul_2 _ _) (mul_one l its.toArray n dd sl t) ⟨ho, ?_⟩⟩)
    exact ⟨.ref l, H, I, rfl, q l H (fun _ _ e => e) (by simpa using hT)⟩
theorem r_repA {K : PySem.W.Frag} {H : Hp} {Q : VK} {l : Addr} {z : Int} {xs : List V} (k : Nat) (hT : H l = some (.tup xs)) (hne : xs ≠ []) (h1 : 1 ≤ k) (h2 : k ≤ 1000) (hz : xs.length ≤ 1000) (e : z = k) (q : ∀ p H', Same H H' → H' p = some (.tup (List.replicate k xs).flatten) → Q (.ref p) H') : rRepA K (.ref l) (.int z) H Q :=
  ⟨l, k, xs, rfl, by rw [e], hT, hne, h1, h2, hz, q⟩
theorem rep_flat (x : V) : ∀ k : Nat, (List.replicate k [x]).flatten = List.replicate k x
  | 0 => rfl
  | k + 1 => by rw [List.replicate_succ, List.flatten_cons, rep_flat x k, List.replicate_succ]; rfl
/-- one item, k times -/
theorem r_rep1 {K : PySem.W.Frag} {H : Hp} {Q : VK} {l : Addr} {z : Int} {x : V} (k : Nat) (hT : H l = some (.tup [x])) (h1 : 1 ≤ k) (h2 : k ≤ 1000) (e : z = k) (q : ∀ p H', Same H H' → H' p = some (.tup (List.replicate k x)) → Q (.ref p) H') : rRepA K (.ref l) (.int z) H Q :=
  r_repA k hT (by simp) h1 h2 (by show 1 ≤ 1000; decide) e fun p H' s e => q p H' s (by rw [← rep_flat x k]; exact e)
end K5
end

section
set_option maxHeartbeats 4000000
/-! KV: the program's smaller defs of a run. -/
namespace K5
open PySem PySem.Spec L2
open PyProof.Rows hiding St
local macro_rules | `(tactic| walk_at "lf") => `(tactic| first
  | assumption
  | (refine Same.im (by assumption) ?_; walk_at "lf")
  | (refine Same.ims (by assumption) ?_; walk_at "lf")
  | (refine Same.at (by assumption) ?_; walk_at "lf")
  | (refine Same.sqT (by assumption) ?_; walk_at "lf")
  | (refine Same.seq (by assumption) ?_; walk_at "lf")
  | exact SqL.of (by walk_at "lf")
  | exact SqT.of (by walk_at "lf"))
local macro_rules | `(tactic| walk_at "st") => `(tactic| first
  | ((with_reducible refine r_var (v := ?vv) ?rv ?_); (case rv => exact rfl))
  | with_reducible first
    | refine r_seq ?_
    | refine r_asg ?_
    | refine r_gName ?_
    | refine r_c ?_
    | refine r_op ?_
    | refine r_I0 ?_
    | refine r_exbl ?_
    | refine r_cb ?_
    | refine r_nil ?_
    | refine r_cons ?_
    | refine r_test ?_
    | refine r_tB ?_
    | refine r_and ?_
    | refine r_or ?_
    | refine r_not ?_
    | refine r_if ?_
    | refine r_ret ?_
    | refine r_next ?_
    | refine r_tup ?_
    | refine r_lst ?_
    | refine r_int ?_
    | refine r_exint ?_
    | refine r_sl ?_
    | refine r_part ?_
    | refine r_nopart ?_
    | refine r_par ?_
    | refine r_ex2 ?_
    | refine r_call ?_
    | refine r_un ?_
    | refine r_U ?_
    | refine r_andV ?_
    | refine r_orV ?_
    | refine r_notV ?_
    | refine r_chain ?_
    | refine r_isN ?_
    | refine r_notN ?_
    | refine r_drop ?_
    | refine r_I (by decide) ?_
    | refine r_EqI ?_
    | refine r_NeI ?_
    | refine r_EqS ?_
    | refine r_NeS ?_
    | refine r_gSub ?_
    | refine r_gCons ?_
    | refine r_gNil ?_
    | refine r_dget ?_
    | refine r_pcons ?_
    | refine r_pnil ?_
    | refine iteT ?_
    | refine iteF ?_
    | refine iteNF ?_
    | refine iteNT ?_
    | refine r_prop ?_
    | refine r_dget2 ?_
    | refine r_din ?_
    | refine r_dput ?_
    | refine r_mk ?_
    | refine r_propG ?_
    | refine r_mtd ?_
    | refine r_bm ?_
    | refine r_si ?_
    | refine r_for ?_
    | refine r_lc ?_
    | refine r_iT ?_
    | refine r_iL ?_
    | refine r_enT ?_
    | refine r_zip ?_
    | refine r_zs ?_
    | refine r_iR1 ?_
    | refine r_yes ?_
    | refine r_fld ?_
    | refine r_star1 ?_
    | refine r_ctE ?_
    | refine r_div (by decide) (by decide) ?_
    | refine r_mulL (by decide) (by decide) ?_
    | refine r_mulR (by decide) (by decide) ?_)
local macro_rules | `(tactic| walk_at "tq") => `(tactic| ((repeat walk_at "st"); first
  | assumption
  | (refine q_decT (by omega) (by assumption))
  | (refine q_decF (by omega) (by assumption))
  | (refine q_nT (by omega) (by assumption))
  | (refine q_nF (by omega) (by assumption))
  | (refine ite_dec (fun _ => ?_) (fun _ => ?_) <;> first | (exfalso; omega) | walk_at "tq")
  | (refine ite_ndec (fun _ => ?_) (fun _ => ?_) <;> first | (exfalso; omega) | walk_at "tq")))
section
variable {K : PySem.W.Frag} {w : World} {H : Hp} {Q : VK}
theorem ypair {xs ys : Nat → Option V} {i : Nat} {v : V} {H' : Hp} (y : YPair xs ys i H v H') : ∃ T a b, v = .ref T ∧ Same H H' ∧ H' T = some (.tup [a, b]) ∧ xs i = some a ∧ ys i = some b := by
  obtain ⟨T, a, b, rfl, hT, rfl, h1, h2⟩ := y
  exact ⟨T, a, b, rfl, same_upd hT, upd_same, h1, h2⟩
theorem r_allR {a : Addr} {n : Nat} {f : Nat → V} (h : H a = some (.lst ((List.range n).map f))) (hf : ∀ i, i < n → f i = .bl true) (q : Q (.bl true) H) : rAll K [.ref a] H Q := by
  refine ⟨a, (List.range n).map fun _ => true, rfl, .of ?_, ?_⟩
  · rw [h, List.map_map]
    exact congrArg _ (congrArg _ (List.map_congr_left fun i hi => hf i (List.mem_range.mp hi)))
  · have e : (List.map (fun _ => true) (List.range n)).all id = true := by
      rw [List.all_eq_true]
      intro b hb
      obtain ⟨_, _, rfl⟩ := List.mem_map.mp hb
      rfl
    rw [e]
    exact q
end
/-! ### is_between -/
def spBtw : Sp := fun vs H Q _ => ∃ (x : V) (lo hi : Int), vs = [x, .int lo, .int hi] ∧ ((∃ i, x = .int i ∧ Q (.bl (decide (lo ≤ i) && decide (i ≤ hi))) H) ∨ ∃ b, x = .bl b ∧ Q (.bl false) H)
theorem r_btw {i lo hi : Int} {H : Hp} {Q : VK} {E : XK} (h1 : lo ≤ i) (h2 : i ≤ hi) (q : Q (.bl true) H) : spBtw [.int i, .int lo, .int hi] H Q E := ⟨_, lo, hi, rfl, .inl ⟨i, rfl, by rw [decide_eq_true h1, decide_eq_true h2]; exact q⟩⟩
theorem r_btwN {i lo hi : Int} {H : Hp} {Q : VK} {E : XK} (h : ¬ (lo ≤ i ∧ i ≤ hi)) (q : Q (.bl false) H) : spBtw [.int i, .int lo, .int hi] H Q E := ⟨_, lo, hi, rfl, .inl ⟨i, rfl, by
  have e : (decide (lo ≤ i) && decide (i ≤ hi)) = false := by
    rw [← Bool.not_eq_true, Bool.and_eq_true, decide_eq_true_eq, decide_eq_true_eq]
    exact h
  rw [e]
  exact q⟩⟩
theorem r_btwB {b : Bool} {lo hi : Int} {H : Hp} {Q : VK} {E : XK} (q : Q (.bl false) H) : spBtw [.bl b, .int lo, .int hi] H Q E := ⟨_, lo, hi, rfl, .inr ⟨b, rfl, q⟩⟩
theorem scBtw : FnScope ["thing", "low", "high"] ["thing", "low", "high"] (defScope (top 21)) := ⟨rfl, rfl, rfl, by decide +kernel, rfl, by decide +kernel, by decide +kernel⟩
section
variable {P : Program} {w : World} {K : PySem.W.Frag} {mg : Str → Option Value} {base : Heap} {T : List NTab} {CP CB CF : Addr}
theorem ok_btw (D : Df K mg "is_between" (top 21)) (B : Bf mg) : Cal P w K mg base "is_between" 1 ["thing", "low", "high"] spBtw := by
  refine D.cal (N := ["thing", "low", "high"]) (ps := ["thing", "low", "high"]) scBtw (fun _ _ _ _ _ _ us hl => match us, hl with | [_, _, _], _ => rfl) (fun vs H Q E h => ?_) fun f cdv A outer s H vs Q E hr h => ?_
  · obtain ⟨_, _, _, rfl, _⟩ := h
    rfl
  · obtain ⟨x, lo, hi, rfl, h⟩ := h
    refine ⟨_, (pss_one (ps_ret (pe_and (pe_callB c_isi (by rfl) (B _ (by decide)) b_isinstance (pa_cons (pv 0) (pa_cons (pe_bltn (v := .ty "int") (by rfl) (B _ (by decide)) b_int rfl) pa_nil))) (pe_and (pe_not (pe_callB c_isi (by rfl) (B _ (by decide)) b_isinstance (pa_cons (pv 0) (pa_cons (pe_bltn (v := .ty "bool") (by rfl) (B _ (by decide)) b_bool rfl) pa_nil)))) (pe_one (pe_chain op_le op_le (pv 1) (pv 0) (pv 2))))))), ?_⟩
    rcases h with ⟨i, rfl, q⟩ | ⟨b, rfl, q⟩
    · repeat walk_at "st"
      refine r_isi (.base (.int i)) (b := true) (by decide +kernel) ?_
      repeat walk_at "st"
      refine r_isi (.base (.int i)) (b := false) (by decide +kernel) ?_
      repeat walk_at "st"
      by_cases h1 : lo ≤ i
      · rw [decide_eq_true h1] at q ⊢
        rw [Bool.true_and] at q
        repeat walk_at "st"
        exact q
      · rw [decide_eq_false h1] at q ⊢
        rw [Bool.false_and] at q
        repeat walk_at "st"
        exact q
    · repeat walk_at "st"
      refine r_isi (.base (.bl b)) (b := true) (by decide +kernel) ?_
      repeat walk_at "st"
      refine r_isi (.base (.bl b)) (b := true) (by decide +kernel) ?_
      repeat walk_at "st"
      exact q
/-! ### methods -/
def MDf (K : PySem.W.Frag) (C : Addr) (m q : Str) (st : Stmt) : Prop :=
  ∃ f fd, Meth K C m f ∧ FunD K m q (defArgs st) (defBody st) (defScope st) [] [] f fd ∧ PySem.W.fnIn K f = true
theorem MDf.mtd {C : Addr} {m q : Str} {st : Stmt} {N ps : List Str} {k : Nat} {sp : Sp} (D : MDf K C m q st) (S : FnScope N ps (defScope st))
    (hb : ∀ (kV doc pm : Value) (an : Option Addr) (cdv ct : Value) (us : List Value), us.length = ps.length → bindArgs (PySem.W.fnOf m q (defArgs st) (defBody st) (defScope st) .none kV doc pm an cdv ct) ⟨us, []⟩ = pure (ps.zip us))
    (len : ∀ vs H Q E, sp vs H Q E → vs.length = ps.length)
    (body : ∀ (f : Addr) (cdv : Value) (A : Around) (outer : List Env) (s : Shared) (H : Hp) (vs : List V) (Q : VK) (E : XK), Room k (A.deeper (envOfC q (defScope st) s.heap.objs.size f cdv)) → sp vs H Q E →
      ∃ t, PSs (cxOf CX0 P w K mg base N q (defScope st) f cdv A outer s H E).nox (defBody st) t ∧ t { nx := fun _ H' => Q .non H', rt := Q } (start N vs) H) : Mtd P w K mg base C m (k + 1) ps sp := by
  obtain ⟨f, fd, h1, F, h3⟩ := D
  refine ⟨f, fd, h1, F.ok S len fun cdv A outer s H vs Q E hr hsp => ?_, F.bindsN hb, h3⟩
  obtain ⟨t, ht, q⟩ := body f cdv A outer s H vs Q E hr hsp
  exact ⟨t, ht.nox, q⟩
def PDf (K : PySem.W.Frag) (C : Addr) (m q : Str) (st : Stmt) : Prop :=
  ∃ p g fd, PropOf K C m p g ∧ FunD K m q (defArgs st) (defBody st) (defScope st) [] [] g fd
theorem PDf.prp {C : Addr} {m q : Str} {st : Stmt} {N : List Str} {i : Nat} (D : PDf K C m q st) (S : FnScope N ["self"] (defScope st))
    (hb : ∀ (kV doc pm : Value) (an : Option Addr) (cdv ct : Value) (us : List Value), us.length = 1 → bindArgs (PySem.W.fnOf m q (defArgs st) (defBody st) (defScope st) .none kV doc pm an cdv ct) ⟨us, []⟩ = pure ((["self"] : List Str).zip us))
    (body : ∀ (f : Addr) (cdv : Value) (A : Around) (outer : List Env) (s : Shared) (H : Hp) (vs : List V) (Q : VK) (E : XK), spPart C i vs H Q E →
      ∃ t, PSs (cxOf CX0 P w K mg base N q (defScope st) f cdv A outer s H E).nox (defBody st) t ∧ t { nx := fun _ H' => Q .non H', rt := Q } (start N vs) H) : Prp P w K mg base C m i := by
  obtain ⟨p, f, fd, h1, F⟩ := D
  refine ⟨p, f, fd, h1, F.ok (ps := ["self"]) S (fun vs H Q E h => ?_) fun cdv A outer s H vs Q E hr hsp => ?_, F.bindsN hb⟩
  · obtain ⟨_, _, _, _, _, _, rfl, _⟩ := h
    rfl
  · obtain ⟨t, ht, q⟩ := body f cdv A outer s H vs Q E hsp
    exact ⟨t, ht.nox, q⟩
end
theorem sc_pBook : FnScope ["self"] ["self"] (defScope (inClass (top 48) 1)) := ⟨rfl, rfl, rfl, by decide +kernel, rfl, by decide +kernel, by decide +kernel⟩
theorem sc_pFree : FnScope ["self"] ["self"] (defScope (inClass (top 48) 4)) := ⟨rfl, rfl, rfl, by decide +kernel, rfl, by decide +kernel, by decide +kernel⟩
theorem sc_bBase : FnScope ["self"] ["self"] (defScope (inClass (top 34) 1)) := ⟨rfl, rfl, rfl, by decide +kernel, rfl, by decide +kernel, by decide +kernel⟩
theorem sc_bSet : FnScope ["self"] ["self"] (defScope (inClass (top 34) 2)) := ⟨rfl, rfl, rfl, by decide +kernel, rfl, by decide +kernel, by decide +kernel⟩
theorem sc_bFns : FnScope ["self"] ["self"] (defScope (inClass (top 34) 3)) := ⟨rfl, rfl, rfl, by decide +kernel, rfl, by decide +kernel, by decide +kernel⟩
section
variable {P : Program} {w : World} {K : PySem.W.Frag} {mg : Str → Option Value} {base : Heap} {T : List NTab} {CP CB CF : Addr}
/-- what must be seen of the classes, further -/
structure Kcm (K : PySem.W.Frag) (mg : Str → Option Value) (CP CB CF : Addr) : Prop where
  insP : C8.InsC K CP
  insB : C8.InsC K CB
  insF : C8.InsC K CF
  partsP : NoAttr K CP "parts"
  partsB : NoAttr K CB "parts"
  gForm : mg "Form" = some (.ref CF)
  gBook : mg "Book" = some (.ref CB)
  gPlan : mg "Plan" = some (.ref CP)
theorem ok_pBook (D : PDf K CP "book" "Plan.book" (inClass (top 48) 1)) (c : Cls K CP) (n : NoAttr K CP "parts") : Prp P w K mg base CP "book" 0 := by
  refine D.prp (N := ["self"]) sc_pBook (fun _ _ _ _ _ _ us hl => match us, hl with | [_], _ => rfl) fun f cdv A outer s H vs Q E h => ?_
  obtain ⟨a, dx, fs, t, xs, v, rfl, ha, e, ht, hv, q⟩ := h
  refine ⟨_, (pss_one (ps_ret (pe_ix ix_tup (pe_fld (pv 0) rfl) pe_int (fun _ _ => rfl)))), ?_⟩
  repeat walk_at "st"
  exact ⟨a, _, dx, fs, _, rfl, ha, c, n, e, ⟨t, xs, 0, v, rfl, rfl, .of ht, atI_nat (j := 0) hv, q⟩⟩
theorem ok_pFree (D : PDf K CP "free" "Plan.free" (inClass (top 48) 4)) (c : Cls K CP) (n : NoAttr K CP "parts") : Prp P w K mg base CP "free" 3 := by
  refine D.prp (N := ["self"]) sc_pFree (fun _ _ _ _ _ _ us hl => match us, hl with | [_], _ => rfl) fun f cdv A outer s H vs Q E h => ?_
  obtain ⟨a, dx, fs, t, xs, v, rfl, ha, e, ht, hv, q⟩ := h
  refine ⟨_, (pss_one (ps_ret (pe_ix ix_tup (pe_fld (pv 0) rfl) pe_int (fun _ _ => rfl)))), ?_⟩
  repeat walk_at "st"
  exact ⟨a, _, dx, fs, _, rfl, ha, c, n, e, ⟨t, xs, 3, v, rfl, rfl, .of ht, atI_nat (j := 3) hv, q⟩⟩
theorem ok_bBase (D : PDf K CB "base" "Book.base" (inClass (top 34) 1)) (c : Cls K CB) (n : NoAttr K CB "parts") : Prp P w K mg base CB "base" 0 := by
  refine D.prp (N := ["self"]) sc_bBase (fun _ _ _ _ _ _ us hl => match us, hl with | [_], _ => rfl) fun f cdv A outer s H vs Q E h => ?_
  obtain ⟨a, dx, fs, t, xs, v, rfl, ha, e, ht, hv, q⟩ := h
  refine ⟨_, (pss_one (ps_ret (pe_ix ix_tup (pe_fld (pv 0) rfl) pe_int (fun _ _ => rfl)))), ?_⟩
  repeat walk_at "st"
  exact ⟨a, _, dx, fs, _, rfl, ha, c, n, e, ⟨t, xs, 0, v, rfl, rfl, .of ht, atI_nat (j := 0) hv, q⟩⟩
theorem ok_bSet (D : PDf K CB "settings" "Book.settings" (inClass (top 34) 2)) (c : Cls K CB) (n : NoAttr K CB "parts") : Prp P w K mg base CB "settings" 1 := by
  refine D.prp (N := ["self"]) sc_bSet (fun _ _ _ _ _ _ us hl => match us, hl with | [_], _ => rfl) fun f cdv A outer s H vs Q E h => ?_
  obtain ⟨a, dx, fs, t, xs, v, rfl, ha, e, ht, hv, q⟩ := h
  refine ⟨_, (pss_one (ps_ret (pe_ix ix_tup (pe_fld (pv 0) rfl) pe_int (fun _ _ => rfl)))), ?_⟩
  repeat walk_at "st"
  exact ⟨a, _, dx, fs, _, rfl, ha, c, n, e, ⟨t, xs, 1, v, rfl, rfl, .of ht, atI_nat (j := 1) hv, q⟩⟩
theorem ok_bFns (D : PDf K CB "functions" "Book.functions" (inClass (top 34) 3)) (c : Cls K CB) (n : NoAttr K CB "parts") : Prp P w K mg base CB "functions" 2 := by
  refine D.prp (N := ["self"]) sc_bFns (fun _ _ _ _ _ _ us hl => match us, hl with | [_], _ => rfl) fun f cdv A outer s H vs Q E h => ?_
  obtain ⟨a, dx, fs, t, xs, v, rfl, ha, e, ht, hv, q⟩ := h
  refine ⟨_, (pss_one (ps_ret (pe_ix ix_tup (pe_fld (pv 0) rfl) pe_int (fun _ _ => rfl)))), ?_⟩
  repeat walk_at "st"
  exact ⟨a, _, dx, fs, _, rfl, ha, c, n, e, ⟨t, xs, 2, v, rfl, rfl, .of ht, atI_nat (j := 2) hv, q⟩⟩
end
end K5
end

section
set_option maxHeartbeats 4000000
/-! KX: the checks of a run: books, wordings, rules, memories, scenes, deeds. -/
namespace K5
open PySem PySem.Spec L2
open PyProof.Rows hiding St
local macro_rules | `(tactic| walk_at "lf") => `(tactic| first
  | assumption
  | (refine Same.im (by assumption) ?_; walk_at "lf")
  | (refine Same.ims (by assumption) ?_; walk_at "lf")
  | (refine Same.at (by assumption) ?_; walk_at "lf")
  | (refine Same.sqT (by assumption) ?_; walk_at "lf")
  | (refine Same.seq (by assumption) ?_; walk_at "lf")
  | exact SqL.of (by walk_at "lf")
  | exact SqT.of (by walk_at "lf"))
local macro_rules | `(tactic| walk_at "st") => `(tactic| first
  | ((with_reducible refine r_var (v := ?vv) ?rv ?_); (case rv => exact rfl))
  | with_reducible first
    | refine r_seq ?_
    | refine r_asg ?_
    | refine r_gName ?_
    | refine r_c ?_
    | refine r_op ?_
    | refine r_I0 ?_
    | refine r_exbl ?_
    | refine r_cb ?_
    | refine r_nil ?_
    | refine r_cons ?_
    | refine r_test ?_
    | refine r_tB ?_
    | refine r_and ?_
    | refine r_or ?_
    | refine r_not ?_
    | refine r_if ?_
    | refine r_ret ?_
    | refine r_next ?_
    | refine r_tup ?_
    | refine r_lst ?_
    | refine r_int ?_
    | refine r_exint ?_
    | refine r_sl ?_
    | refine r_part ?_
    | refine r_nopart ?_
    | refine r_par ?_
    | refine r_ex2 ?_
    | refine r_call ?_
    | refine r_un ?_
    | refine r_U ?_
    | refine r_andV ?_
    | refine r_orV ?_
    | refine r_notV ?_
    | refine r_chain ?_
    | refine r_isN ?_
    | refine r_notN ?_
    | refine r_drop ?_
    | refine r_I (by decide) ?_
    | refine r_EqI ?_
    | refine r_NeI ?_
    | refine r_EqS ?_
    | refine r_NeS ?_
    | refine r_gSub ?_
    | refine r_gCons ?_
    | refine r_gNil ?_
    | refine r_dget ?_
    | refine r_pcons ?_
    | refine r_pnil ?_
    | refine iteT ?_
    | refine iteF ?_
    | refine iteNF ?_
    | refine iteNT ?_
    | refine r_prop ?_
    | refine r_dget2 ?_
    | refine r_din ?_
    | refine r_dput ?_
    | refine r_mk ?_
    | refine r_propG ?_
    | refine r_mtd ?_
    | refine r_bm ?_
    | refine r_si ?_
    | refine r_for ?_
    | refine r_lc ?_
    | refine r_iT ?_
    | refine r_iL ?_
    | refine r_enT ?_
    | refine r_zip ?_
    | refine r_zs ?_
    | refine r_iR1 ?_
    | refine r_yes ?_
    | refine r_fld ?_
    | refine r_star1 ?_
    | refine r_ctE ?_
    | refine r_div (by decide) (by decide) ?_
    | refine r_mulL (by decide) (by decide) ?_
    | refine r_mulR (by decide) (by decide) ?_)
local macro_rules | `(tactic| walk_at "tq") => `(tactic| ((repeat walk_at "st"); first
  | assumption
  | (refine q_decT (by omega) (by assumption))
  | (refine q_decF (by omega) (by assumption))
  | (refine q_nT (by omega) (by assumption))
  | (refine q_nF (by omega) (by assumption))
  | (refine ite_dec (fun _ => ?_) (fun _ => ?_) <;> first | (exfalso; omega) | walk_at "tq")
  | (refine ite_ndec (fun _ => ?_) (fun _ => ?_) <;> first | (exfalso; omega) | walk_at "tq")))
section
variable {K : PySem.W.Frag} {H : Hp} {Q : VK} {CP CB CF : Addr} {E : XK}
/-! ### promises -/
def spLenB (CB CF : Addr) : Sp := fun vs H Q _ => ∃ (bk : V) (B : Book), vs = [bk] ∧ BookAt CB CF H bk B ∧ Q (.int B.fns.length) H
def spChkF (CB CF : Addr) : Sp := fun vs H Q _ => ∃ (bk : V) (B : Book) (k : Nat), vs = [bk, .int k] ∧ BookAt CB CF H bk B ∧ k < B.fns.length ∧ B.fns.length ≤ 3 ∧ Q .non H
def spGetB (CB CF : Addr) : Sp := fun vs H Q _ => ∃ (bk : V) (B : Book) (k : Nat) (r : List Tr), vs = [bk, .int k] ∧ BookAt CB CF H bk B ∧ B.fns[k]? = some r ∧ B.fns.length ≤ 3 ∧ ∀ v, RowAt CF H v r → Q v H
def spIsWd (CB CF : Addr) : Sp := fun vs H Q _ => ∃ (bk wv : V) (B : Book) (wd : List Nat), vs = [bk, wv] ∧ BookAt CB CF H bk B ∧ BookOk B ∧ WdOk B.fns wd ∧ Im H wv (encW wd) ∧ ∀ H', Same H H' → Q (.bl true) H'
def spChkS (CB CF : Addr) : Sp := fun vs H Q _ => ∃ (bk : V) (B : Book) (st : Int), vs = [bk, .int st] ∧ BookAt CB CF H bk B ∧ 0 ≤ st ∧ st < B.settings ∧ Q .non H
def spChkP (CP : Addr) : Sp := fun vs H Q _ => ∃ a dx fs, vs = [.ref a] ∧ H a = some (.ins CP dx fs) ∧ Q .non H
def encP (p : Nat × Nat) : PyData := .tuple [nD p.1, nD p.2]
def encR (rl : List (Nat × Nat)) : PyData := .tuple (rl.map encP)
/-- a rule of forgetting -/
structure RuleOk (nf : Nat) (rl : List (Nat × Nat)) : Prop where
  low : ∀ p ∈ rl, p.1 < nf ∧ p.2 < nf
  rise : ∀ (i : Nat) (p q : Nat × Nat), rl[i]? = some p → rl[i + 1]? = some q → p.1 < q.1 ∨ (p.1 = q.1 ∧ p.2 < q.2)
  short : rl.length ≤ 100
def spIsRule (CP CB CF : Addr) : Sp := fun vs H Q _ => ∃ (pl rv : V) (B : Book) (free : List Nat) (rl : List (Nat × Nat)), vs = [pl, rv] ∧ PlanAt CP CB CF H pl B free ∧ BookOk B ∧ RuleOk B.fns.length rl ∧ Im H rv (encR rl) ∧ ∀ H', Same H H' → Q (.bl true) H'
def spChkR (CP CB CF : Addr) : Sp := fun vs H Q _ => ∃ (pl rv : V) (B : Book) (free : List Nat) (rl : List (Nat × Nat)) (st : Int), vs = [pl, .int st, rv] ∧ PlanAt CP CB CF H pl B free ∧ BookOk B ∧ 0 ≤ st ∧ st < B.settings ∧ RuleOk B.fns.length rl ∧ Im H rv (encR rl) ∧ ∀ H', Same H H' → Q .non H'
/-- the memory of nothing -/
def memE (nf base : Nat) : Mem := List.replicate nf (List.replicate base none)
def wdE (nf : Nat) : List Nat := List.replicate nf 0
def spFirst (CP CB CF : Addr) : Sp := fun vs H Q _ => ∃ (pl : V) (B : Book) (free : List Nat), vs = [pl] ∧ PlanAt CP CB CF H pl B free ∧ BookOk B ∧ ∀ p H', Same H H' → Im H' (.ref p) (encS (wdE B.fns.length) (memE B.fns.length B.base)) → Q (.ref p) H'
def spIsMem (CP CB CF : Addr) : Sp := fun vs H Q _ => ∃ (pl mv : V) (B : Book) (free : List Nat) (M : Mem), vs = [pl, mv] ∧ PlanAt CP CB CF H pl B free ∧ BookOk B ∧ MemOk B.fns.length B.base M ∧ Im H mv (encM M) ∧ ∀ H', Same H H' → Q (.bl true) H'
def spIsSc (CP CB CF : Addr) : Sp := fun vs H Q _ => ∃ (pl sv : V) (B : Book) (free wd : List Nat) (M : Mem), vs = [pl, sv] ∧ PlanAt CP CB CF H pl B free ∧ BookOk B ∧ WdOk B.fns wd ∧ MemOk B.fns.length B.base M ∧ Im H sv (encS wd M) ∧ ∀ H', Same H H' → Q (.bl true) H'
theorem PlanAt.ins {pl : V} {B : Book} {free : List Nat} (h : PlanAt CP CB CF H pl B free) : ∃ a dx fs, pl = .ref a ∧ H a = some (.ins CP dx fs) := by
  obtain ⟨a, dx, t, k, c, th, f, wr, as_, e, h1, _⟩ := h
  exact ⟨a, dx, _, e, h1⟩
theorem BookAt.ins {bk : V} {B : Book} (h : BookAt CB CF H bk B) : ∃ a dx fs, bk = .ref a ∧ H a = some (.ins CB dx fs) := by
  obtain ⟨a, dx, t, f, xs, e, h1, _⟩ := h
  exact ⟨a, dx, _, e, h1⟩
theorem r_lenB {bk : V} {B : Book} {R : VK} (h : BookAt CB CF H bk B) (hl : B.fns.length ≤ 3) (q : R (.int B.fns.length) H) : rLenO CB (spLenB CB CF) [bk] H R := by
  obtain ⟨a, dx, fs, rfl, e⟩ := h.ins
  exact ⟨a, dx, fs, rfl, e, .ref a, B, rfl, h, _, rfl, by omega, q⟩
theorem r_getB {bk : V} {B : Book} {k : Nat} {z : Int} {r : List Tr} {R : VK} (h : BookAt CB CF H bk B) (hk : B.fns[k]? = some r) (hl : B.fns.length ≤ 3) (e : z = k) (q : ∀ b ys, H b = some (.tup ys) → Each (FormAt CF H) ys r → R (.ref b) H) : rIxO CB (spGetB CB CF) bk (.int z) H R := by
  subst e
  obtain ⟨a, dx, fs, rfl, e⟩ := h.ins
  exact ⟨a, dx, fs, rfl, e, .ref a, B, k, r, rfl, h, hk, hl, fun v hv => by
    obtain ⟨b, ys, rfl, h1, h2⟩ := hv
    exact q b ys h1 h2⟩
end
theorem scLenB : FnScope ["self"] ["self"] (defScope (inClass (top 34) 4)) := ⟨rfl, rfl, rfl, by decide +kernel, rfl, by decide +kernel, by decide +kernel⟩
theorem scChkF : FnScope ["book", "function"] ["book", "function"] (defScope (top 37)) := ⟨rfl, rfl, rfl, by decide +kernel, rfl, by decide +kernel, by decide +kernel⟩
theorem scGetB : FnScope ["self", "function"] ["self", "function"] (defScope (inClass (top 34) 5)) := ⟨rfl, rfl, rfl, by decide +kernel, rfl, by decide +kernel, by decide +kernel⟩
theorem scIsWd : FnScope ["book", "wording", "k", "body"] ["book", "wording"] (defScope (top 39)) := ⟨rfl, rfl, rfl, by decide +kernel, rfl, by decide +kernel, by decide +kernel⟩
theorem scChkS : FnScope ["book", "setting"] ["book", "setting"] (defScope (top 41)) := ⟨rfl, rfl, rfl, by decide +kernel, rfl, by decide +kernel, by decide +kernel⟩
theorem scChkP : FnScope ["plan"] ["plan"] (defScope (top 49)) := ⟨rfl, rfl, rfl, by decide +kernel, rfl, by decide +kernel, by decide +kernel⟩
theorem scIsRule : FnScope ["plan", "thing", "pair", "function", "one", "other"] ["plan", "thing"] (defScope (top 53)) := ⟨rfl, rfl, rfl, by decide +kernel, rfl, by decide +kernel, by decide +kernel⟩
theorem scChkR : FnScope ["plan", "setting", "rule"] ["plan", "setting", "rule"] (defScope (top 54)) := ⟨rfl, rfl, rfl, by decide +kernel, rfl, by decide +kernel, by decide +kernel⟩
theorem scFirst : FnScope ["plan", "empty"] ["plan"] (defScope (top 55)) := ⟨rfl, rfl, rfl, by decide +kernel, rfl, by decide +kernel, by decide +kernel⟩
theorem scIsMem : FnScope ["plan", "thing", "row", "one"] ["plan", "thing"] (defScope (top 56)) := ⟨rfl, rfl, rfl, by decide +kernel, rfl, by decide +kernel, by decide +kernel⟩
theorem scIsSc : FnScope ["plan", "thing"] ["plan", "thing"] (defScope (top 57)) := ⟨rfl, rfl, rfl, by decide +kernel, rfl, by decide +kernel, by decide +kernel⟩
section
variable {P : Program} {w : World} {K : PySem.W.Frag} {mg : Str → Option Value} {base : Heap} {T : List NTab} {CP CB CF : Addr}
theorem ok_lenB (D : MDf K CB "__len__" "Book.__len__" (inClass (top 34) 4)) (B : Bf mg) (Kc : Kcl P w K mg base CP CB CF) : Mtd P w K mg base CB "__len__" 3 ["self"] (spLenB CB CF) := by
  have pFns := Kc.bFns
  have clB := Kc.clB
  refine D.mtd (N := ["self"]) (ps := ["self"]) scLenB (fun _ _ _ _ _ _ us hl => match us, hl with | [_], _ => rfl) (fun vs H Q E h => ?_) fun f cdv A outer s H vs Q E hr h => ?_
  · obtain ⟨_, _, rfl, _⟩ := h
    rfl
  · obtain ⟨bk, Bk, rfl, hb, q⟩ := h
    refine ⟨_, (pss_one (ps_ret (pe_callB c_len (by rfl) (B _ (by decide)) b_len (pa_cons (pe_part pFns clB hr (by omega) (pv 0)) pa_nil)))), ?_⟩
    repeat walk_at "st"
    refine r_bFns hb fun fa xs hfa hxs => ?_
    repeat walk_at "st"
    exact r_lenT (.of hfa) hxs.length q
theorem ok_chkF (D : Df K mg "check_function" (top 37)) (B : Bf mg) (Kc : Kcl P w K mg base CP CB CF) (cBtw : Cal P w K mg base "is_between" 1 ["thing", "low", "high"] spBtw) (lenB : Mtd P w K mg base CB "__len__" 3 ["self"] (spLenB CB CF)) :
    Cal P w K mg base "check_function" 5 ["book", "function"] (spChkF CB CF) := by
  refine D.cal (N := ["book", "function"]) (ps := ["book", "function"]) scChkF (fun _ _ _ _ _ _ us hl => match us, hl with | [_, _], _ => rfl) (fun vs H Q E h => ?_) fun f cdv A outer s H vs Q E hr h => ?_
  · obtain ⟨_, _, _, rfl, _⟩ := h
    rfl
  · obtain ⟨bk, Bk, k, rfl, hb, hk, hl, q⟩ := h
    refine ⟨_, (pss_one (ps_if (pt_not (pt_val (pe_cal cBtw hr (by omega) (pa_cons (pv 1) (pa_cons pe_int (pa_cons (pe_op op_sub (pe_callB (c_lenO lenB hr (by omega)) (by rfl) (B _ (by decide)) b_len (pa_cons (pv 0) pa_nil)) pe_int) pa_nil))))))
        (pss_one ps_never)
        pss_nil)), ?_⟩
    repeat walk_at "st"
    refine t_ifN (fun Q' kk => ?_) ?_
    · repeat walk_at "st"
      refine r_lenB hb hl ?_
      repeat walk_at "st"
      refine r_btw (by omega) (by omega) ?_
      repeat walk_at "st"
      exact kk
    repeat walk_at "st"
    exact q
theorem ok_getB (D : MDf K CB "__getitem__" "Book.__getitem__" (inClass (top 34) 5)) (B : Bf mg) (Kc : Kcl P w K mg base CP CB CF) (cChkF : Cal P w K mg base "check_function" 5 ["book", "function"] (spChkF CB CF)) : Mtd P w K mg base CB "__getitem__" 6 ["self", "function"] (spGetB CB CF) := by
  have pFns := Kc.bFns
  have clB := Kc.clB
  refine D.mtd (N := ["self", "function"]) (ps := ["self", "function"]) scGetB (fun _ _ _ _ _ _ us hl => match us, hl with | [_, _], _ => rfl) (fun vs H Q E h => ?_) fun f cdv A outer s H vs Q E hr h => ?_
  · obtain ⟨_, _, _, _, rfl, _⟩ := h
    rfl
  · obtain ⟨bk, Bk, k, r, rfl, hb, hk, hl, q⟩ := h
    refine ⟨_, (pss_cons (ps_expr (pe_cal cChkF hr (by omega) (pa_cons (pv 0) (pa_cons (pv 1) pa_nil))))
      (pss_one (ps_ret (pe_ix ix_tup (pe_part pFns clB hr (by omega) (pv 0)) (pv 1) (fun _ _ => rfl))))), ?_⟩
    repeat walk_at "st"
    refine ⟨bk, Bk, k, rfl, hb, (List.getElem?_eq_some_iff.mp hk).1, hl, ?_⟩
    repeat walk_at "st"
    refine r_bFns hb fun fa xs hfa hxs => ?_
    repeat walk_at "st"
    obtain ⟨v, hv, rv⟩ := hxs.get hk
    exact r_ixT (.of hfa) (atI_nat hv) (q v rv)
theorem ok_isWd (D : Df K mg "is_wording" (top 39)) (B : Bf mg) (cBtw : Cal P w K mg base "is_between" 1 ["thing", "low", "high"] spBtw) (lenB : Mtd P w K mg base CB "__len__" 3 ["self"] (spLenB CB CF))
    (getB : Mtd P w K mg base CB "__getitem__" 6 ["self", "function"] (spGetB CB CF)) : Cal P w K mg base "is_wording" 8 ["book", "wording"] (spIsWd CB CF) := by
  refine D.cal (N := ["book", "wording", "k", "body"]) (ps := ["book", "wording"]) scIsWd (fun _ _ _ _ _ _ us hl => match us, hl with | [_, _], _ => rfl) (fun vs H Q E h => ?_) fun f cdv A outer s H vs Q E hr h => ?_
  · obtain ⟨_, _, _, _, rfl, _⟩ := h
    rfl
  · obtain ⟨bk, wv, Bk, wd, rfl, hb, bok, wok, hw, q⟩ := h
    refine ⟨_, (pss_cons (ps_if (pw_or (pt_not (pt_val (pe_callB c_isi (by rfl) (B _ (by decide)) b_isinstance (pa_cons (pv 1) (pa_cons (pe_bltn (v := .ty "tuple") (by rfl) (B _ (by decide)) b_tuple rfl) pa_nil))))) (pw_or1 (pt_cmpR op_ne (pe_callB c_len (by rfl) (B _ (by decide)) b_len (pa_cons (pv 1) pa_nil)) (pe_callB (c_lenO lenB hr (by omega)) (by rfl) (B _ (by decide)) b_len (pa_cons (pv 0) pa_nil)) (nomark _)))).pt
        (pss_one (ps_ret pe_bl))
        pss_nil)
      (pss_one (ps_ret (pe_callB (cr_all rfl) (by rfl) (B _ (by decide)) b_all (pa_cons (pe_lc (own := [("k", 2), ("body", 3)]) (g := (gTup _ 2 (gCons (gName 2) (gCons (gName 3) gNil)))) (tt := tYes) rfl scIsWd.nd (pi_enumT (by rfl) (B _ (by decide)) (pa_cons (pv 1) pa_nil)) (blkOk_by (own := [("k", 2), ("body", 3)]) (N := ["book", "wording", "k", "body"]) (sc := defScope (top 39)) (by decide +kernel)) (fun _ _ _ _ _ => (pg_tup rfl (pgs_cons (pg_name (i := 2) scIsWd.nd rfl (by first | exact Or.inl rfl | exact Or.inr rfl)) (pgs_cons (pg_name (i := 3) scIsWd.nd rfl (by first | exact Or.inl rfl | exact Or.inr rfl)) pgs_nil)))) (fun _ _ _ _ _ => pts_nil) (fun _ _ _ _ _ => (pe_cal cBtw hr (by omega) (pa_cons (pv 3) (pa_cons pe_int (pa_cons (pe_op op_sub (pe_callB (c_lenK (K := K) rfl) (by rfl) (B _ (by decide)) b_len (pa_cons (pe_ixO getB hr (by omega) (pv 0) (pv 2)) pa_nil)) pe_int) pa_nil)))))) pa_nil))))), ?_⟩
    obtain ⟨wa, wxs, rfl, hwa, hwx⟩ := im_tup hw
    have wl : wxs.length = Bk.fns.length := by rw [hwx.length, List.length_map, wok.len]
    have l3 := bok.fns.len3
    repeat walk_at "st"
    refine t_ifN (fun Q' kk => ?_) ?_
    · repeat walk_at "st"
      refine r_isi (.base (.tup hwa)) (b := true) (by decide +kernel) ?_
      repeat walk_at "st"
      refine r_lenT (.of hwa) wl ?_
      repeat walk_at "st"
      refine r_lenB hb l3 ?_
      repeat walk_at "st"
      exact q_nF rfl kk
    repeat walk_at "st"
    refine ⟨wa, wxs, rfl, .of hwa, fun D nD => ?_⟩
    refine lc_sc (walk_en (xs := wxs)) nD (fun _ => .bl true) (by omega) (fun H' s => .of (s.at hwa)) (fun i x H1 H' Kt hi s1 y kk => ?_) fun H' s e => ?_
    · obtain ⟨T, a, b, rfl, s2, eT, ea, eb⟩ := ypair y
      cases ea
      obtain ⟨d, hd, ib⟩ := hwx.get' eb
      rw [List.getElem?_map] at hd
      obtain ⟨n, hn, rfl⟩ := Option.map_eq_some_iff.mp hd
      cases ib
      have hi2 : i < Bk.fns.length := by omega
      have e1 := List.getElem?_eq_getElem hi2
      have bl := wok.at_ i n hn _ e1
      refine r_gTup (.of eT) rfl ?_
      repeat walk_at "st"
      refine ⟨rfl, ?_⟩
      repeat walk_at "st"
      refine r_getB (hb.isn (s1.trans s2).isn) e1 l3 rfl fun b ys hb hys => ?_
      repeat walk_at "st"
      refine r_lenT (.of hb) hys.length ?_
      repeat walk_at "st"
      exact r_btw (by omega) (by omega) (kk _ s2)
    · repeat walk_at "st"
      exact r_allR e (fun _ _ => rfl) (q _ s)
end
end K5
end

section
set_option maxHeartbeats 4000000
/-! KY: rules, memories, scenes. -/
namespace K5
open PySem PySem.Spec L2
open PyProof.Rows hiding St
local macro_rules | `(tactic| walk_at "lf") => `(tactic| first
  | assumption
  | (refine Same.im (by assumption) ?_; walk_at "lf")
  | (refine Same.ims (by assumption) ?_; walk_at "lf")
  | (refine Same.at (by assumption) ?_; walk_at "lf")
  | (refine Same.sqT (by assumption) ?_; walk_at "lf")
  | (refine Same.seq (by assumption) ?_; walk_at "lf")
  | exact SqL.of (by walk_at "lf")
  | exact SqT.of (by walk_at "lf"))
local macro_rules | `(tactic| walk_at "st") => `(tactic| first
  | ((with_reducible refine r_var (v := ?vv) ?rv ?_); (case rv => exact rfl))
  | with_reducible first
    | refine r_seq ?_
    | refine r_asg ?_
    | refine r_gName ?_
    | refine r_c ?_
    | refine r_op ?_
    | refine r_I0 ?_
    | refine r_exbl ?_
    | refine r_cb ?_
    | refine r_nil ?_
    | refine r_cons ?_
    | refine r_test ?_
    | refine r_tB ?_
    | refine r_and ?_
    | refine r_or ?_
    | refine r_not ?_
    | refine r_if ?_
    | refine r_ret ?_
    | refine r_next ?_
    | refine r_tup ?_
    | refine r_lst ?_
    | refine r_int ?_
    | refine r_exint ?_
    | refine r_sl ?_
    | refine r_part ?_
    | refine r_nopart ?_
    | refine r_par ?_
    | refine r_ex2 ?_
    | refine r_call ?_
    | refine r_un ?_
    | refine r_U ?_
    | refine r_andV ?_
    | refine r_orV ?_
    | refine r_notV ?_
    | refine r_chain ?_
    | refine r_isN ?_
    | refine r_notN ?_
    | refine r_drop ?_
    | refine r_I (by decide) ?_
    | refine r_EqI ?_
    | refine r_NeI ?_
    | refine r_EqS ?_
    | refine r_NeS ?_
    | refine r_gSub ?_
    | refine r_gCons ?_
    | refine r_gNil ?_
    | refine r_dget ?_
    | refine r_pcons ?_
    | refine r_pnil ?_
    | refine iteT ?_
    | refine iteF ?_
    | refine iteNF ?_
    | refine iteNT ?_
    | refine r_prop ?_
    | refine r_dget2 ?_
    | refine r_din ?_
    | refine r_dput ?_
    | refine r_mk ?_
    | refine r_propG ?_
    | refine r_mtd ?_
    | refine r_bm ?_
    | refine r_si ?_
    | refine r_for ?_
    | refine r_lc ?_
    | refine r_iT ?_
    | refine r_iL ?_
    | refine r_enT ?_
    | refine r_zip ?_
    | refine r_zs ?_
    | refine r_iR1 ?_
    | refine r_yes ?_
    | refine r_fld ?_
    | refine r_star1 ?_
    | refine r_ctE ?_
    | refine r_div (by decide) (by decide) ?_
    | refine r_mulL (by decide) (by decide) ?_
    | refine r_mulR (by decide) (by decide) ?_)
local macro_rules | `(tactic| walk_at "tq") => `(tactic| ((repeat walk_at "st"); first
  | assumption
  | (refine q_decT (by omega) (by assumption))
  | (refine q_decF (by omega) (by assumption))
  | (refine q_nT (by omega) (by assumption))
  | (refine q_nF (by omega) (by assumption))
  | (refine ite_dec (fun _ => ?_) (fun _ => ?_) <;> first | (exfalso; omega) | walk_at "tq")
  | (refine ite_ndec (fun _ => ?_) (fun _ => ?_) <;> first | (exfalso; omega) | walk_at "tq")))
theorem im_pair {H : Hp} {v : V} {p : Nat × Nat} (h : Im H v (encP p)) : ∃ b, v = .ref b ∧ H b = some (.tup [nI p.1, nI p.2]) := by
  obtain ⟨b, xs, rfl, hb, hx⟩ := im_tup h
  cases hx with
  | cons h1 h2 =>
    cases h1
    cases h2 with
    | cons h3 h4 =>
      cases h3
      cases h4
      exact ⟨b, rfl, hb⟩
theorem imAll_rep {H : Hp} {v : V} {d : PyData} (h : Im H v d) : ∀ n, ImAll H (List.replicate n v) (List.replicate n d)
  | 0 => .nil
  | n + 1 => by
    rw [List.replicate_succ, List.replicate_succ]
    exact .cons h (imAll_rep h n)
section
variable {P : Program} {w : World} {K : PySem.W.Frag} {mg : Str → Option Value} {base : Heap} {T : List NTab} {CP CB CF : Addr}
theorem ok_chkS (D : Df K mg "check_setting" (top 41)) (B : Bf mg) (Kc : Kcl P w K mg base CP CB CF) (cBtw : Cal P w K mg base "is_between" 1 ["thing", "low", "high"] spBtw) :
    Cal P w K mg base "check_setting" 3 ["book", "setting"] (spChkS CB CF) := by
  have pSet := Kc.bSet
  have clB := Kc.clB
  refine D.cal (N := ["book", "setting"]) (ps := ["book", "setting"]) scChkS (fun _ _ _ _ _ _ us hl => match us, hl with | [_, _], _ => rfl) (fun vs H Q E h => ?_) fun f cdv A outer s H vs Q E hr h => ?_
  · obtain ⟨_, _, _, rfl, _⟩ := h
    rfl
  · obtain ⟨bk, Bk, st, rfl, hb, h0, h1, q⟩ := h
    refine ⟨_, (pss_one (ps_if (pt_not (pt_val (pe_cal cBtw hr (by omega) (pa_cons (pv 1) (pa_cons pe_int (pa_cons (pe_op op_sub (pe_part pSet clB hr (by omega) (pv 0)) pe_int) pa_nil))))))
        (pss_one ps_never)
        pss_nil)), ?_⟩
    repeat walk_at "st"
    refine t_ifN (fun Q' kk => ?_) ?_
    · repeat walk_at "st"
      refine r_bSet hb ?_
      repeat walk_at "st"
      refine r_btw (by omega) (by omega) ?_
      repeat walk_at "st"
      exact kk
    repeat walk_at "st"
    exact q
theorem ok_chkP (D : Df K mg "check_plan" (top 49)) (B : Bf mg) (Km : Kcm K mg CP CB CF) : Cal P w K mg base "check_plan" 1 ["plan"] (spChkP CP) := by
  have isPlan := Km.insP
  have gPlan := Km.gPlan
  refine D.cal (N := ["plan"]) (ps := ["plan"]) scChkP (fun _ _ _ _ _ _ us hl => match us, hl with | [_], _ => rfl) (fun vs H Q E h => ?_) fun f cdv A outer s H vs Q E hr h => ?_
  · obtain ⟨_, _, _, rfl, _⟩ := h
    rfl
  · obtain ⟨a, dx, fs, rfl, ha, q⟩ := h
    refine ⟨_, (pss_one (ps_if (pt_not (pt_val (pe_callB (c_ins isPlan) (by rfl) (B _ (by decide)) b_isinstance (pa_cons (pv 0) (pa_cons (pe_globR gPlan) pa_nil)))))
        (pss_one ps_never)
        pss_nil)), ?_⟩
    repeat walk_at "st"
    refine t_ifN (fun Q' kk => ?_) ?_
    · repeat walk_at "st"
      refine ⟨a, dx, fs, rfl, ha, ?_⟩
      repeat walk_at "st"
      exact kk
    repeat walk_at "st"
    exact q
theorem ok_isRule (D : Df K mg "is_rule" (top 53)) (B : Bf mg) (Kc : Kcl P w K mg base CP CB CF) (cBtw : Cal P w K mg base "is_between" 1 ["thing", "low", "high"] spBtw) (lenB : Mtd P w K mg base CB "__len__" 3 ["self"] (spLenB CB CF)) :
    Cal P w K mg base "is_rule" 5 ["plan", "thing"] (spIsRule CP CB CF) := by
  have pBook := Kc.pBook
  have clP := Kc.clP
  refine D.cal (N := ["plan", "thing", "pair", "function", "one", "other"]) (ps := ["plan", "thing"]) scIsRule (fun _ _ _ _ _ _ us hl => match us, hl with | [_, _], _ => rfl) (fun vs H Q E h => ?_) fun f cdv A outer s H vs Q E hr h => ?_
  · obtain ⟨_, _, _, _, _, rfl, _⟩ := h
    rfl
  · obtain ⟨pl, rv, Bk, free, rl, rfl, hp, bok, rok, hrl, q⟩ := h
    refine ⟨_, (pss_cons (ps_if (pt_not (pt_val (pe_callB c_isi (by rfl) (B _ (by decide)) b_isinstance (pa_cons (pv 1) (pa_cons (pe_bltn (v := .ty "tuple") (by rfl) (B _ (by decide)) b_tuple rfl) pa_nil)))))
        (pss_one (ps_ret pe_bl))
        pss_nil)
      (pss_cons (ps_for PassesOwn.never rfl (pi_tup (pv 1)) (pg_name (i := 2) scIsRule.nd rfl (by first | exact Or.inl rfl | exact Or.inr rfl))
        (pss_cons (ps_if (pw_or (pt_not (pt_val (pe_callB c_isi (by rfl) (B _ (by decide)) b_isinstance (pa_cons (pv 2) (pa_cons (pe_bltn (v := .ty "tuple") (by rfl) (B _ (by decide)) b_tuple rfl) pa_nil))))) (pw_or1 (pt_cmpR op_ne (pe_callB c_len (by rfl) (B _ (by decide)) b_len (pa_cons (pv 2) pa_nil)) pe_int (nomark _)))).pt
          (pss_one (ps_ret pe_bl))
          pss_nil)
        (pss_one (ps_if (pt_not (pt_val (pe_callB (cr_all rfl) (by rfl) (B _ (by decide)) b_all (pa_cons (pe_lc (own := [("function", 3)]) (g := (gName 3)) (tt := tYes) rfl scIsRule.nd (pi_tup (pv 2)) (blkOk_by (own := [("function", 3)]) (N := ["plan", "thing", "pair", "function", "one", "other"]) (sc := defScope (top 53)) (by decide +kernel)) (fun _ _ _ _ _ => (pg_name (i := 3) scIsRule.nd rfl (by first | exact Or.inl rfl | exact Or.inr rfl))) (fun _ _ _ _ _ => pts_nil) (fun _ _ _ _ _ => (pe_cal cBtw hr (by omega) (pa_cons (pv 3) (pa_cons pe_int (pa_cons (pe_op op_sub (pe_callB (c_lenO lenB hr (by omega)) (by rfl) (B _ (by decide)) b_len (pa_cons (pe_part pBook clP hr (by omega) (pv 0)) pa_nil)) pe_int) pa_nil)))))) pa_nil))))
          (pss_one (ps_ret pe_bl))
          pss_nil))))
      (pss_one (ps_ret (pe_callB (cr_all rfl) (by rfl) (B _ (by decide)) b_all (pa_cons (pe_lc (own := [("one", 4), ("other", 5)]) (g := (gTup _ 2 (gCons (gName 4) (gCons (gName 5) gNil)))) (tt := tYes) rfl scIsRule.nd (RZ.pi_zipA (by rfl) (B _ (by decide)) (pa_cons (pv 1) (pa_cons (pe_slice sl_tupA (pv 1) (po_some pe_int) po_none) pa_nil))) (blkOk_by (own := [("one", 4), ("other", 5)]) (N := ["plan", "thing", "pair", "function", "one", "other"]) (sc := defScope (top 53)) (by decide +kernel)) (fun _ _ _ _ _ => (pg_tup rfl (pgs_cons (pg_name (i := 4) scIsRule.nd rfl (by first | exact Or.inl rfl | exact Or.inr rfl)) (pgs_cons (pg_name (i := 5) scIsRule.nd rfl (by first | exact Or.inl rfl | exact Or.inr rfl)) pgs_nil)))) (fun _ _ _ _ _ => pts_nil) (fun _ _ _ _ _ => (pe_cmpR (op_ltTK (K := K) rfl hr.units0) (pv 4) (pv 5) (nomark _)))) pa_nil)))))), ?_⟩
    obtain ⟨ra, rxs, rfl, hra, hrx⟩ := im_tup hrl
    have xl : rxs.length = rl.length := by rw [hrx.length, List.length_map]
    have l3 := bok.fns.len3
    have sh := rok.short
    have item : ∀ {i : Nat} {x : V}, rxs[i]? = some x → ∃ p b, rl[i]? = some p ∧ x = .ref b ∧ H b = some (.tup [nI p.1, nI p.2]) := fun {i x} e => by
      obtain ⟨d, hd, ib⟩ := hrx.get' e
      rw [List.getElem?_map] at hd
      obtain ⟨p, hp, rfl⟩ := Option.map_eq_some_iff.mp hd
      obtain ⟨b, rfl, hb⟩ := im_pair ib
      exact ⟨p, b, hp, rfl, hb⟩
    repeat walk_at "st"
    refine t_ifN (fun Q' kk => ?_) ?_
    · repeat walk_at "st"
      refine r_isi (.base (.tup hra)) (b := true) (by decide +kernel) ?_
      repeat walk_at "st"
      exact kk
    repeat walk_at "st"
    refine ⟨ra, rfl, ⟨_, .of hra⟩, ?_⟩
    refine for_w (walk_tup (xs := rxs)) (fun i σ' H' => Same H H' ∧ ∃ o, σ' = [some pl, some (.ref ra), o, none, none, none]) ⟨fun _ _ e => e, none, rfl⟩ (fun i σ' H' _ z => .of (z.1.at hra)) ?_ ?_
    · rintro i x σ' H1 H' hi ⟨s1, o, rfl⟩ ⟨rfl, ex⟩
      obtain ⟨p, b, ep, rfl, hb⟩ := item ex
      obtain ⟨p1, p2⟩ := rok.low p (List.mem_of_getElem? ep)
      have hb1 := s1.at hb
      repeat walk_at "st"
      refine t_ifN (fun Q' kk => ?_) ?_
      · repeat walk_at "st"
        refine r_isi (.base (.tup hb1)) (b := true) (by decide +kernel) ?_
        repeat walk_at "st"
        refine r_lenT (.of hb1) (n := 2) rfl ?_
        repeat walk_at "st"
        exact q_nF rfl kk
      repeat walk_at "st"
      dsimp only
      refine t_ifNS (fun Q' kk => ?_) fun H2 s2 => ?_
      · repeat walk_at "st"
        refine ⟨b, rfl, ⟨_, .of hb1⟩, fun D nD => ?_⟩
        refine lc_sc (walk_tup (xs := [nI p.1, nI p.2])) nD (fun _ => .bl true) (by show 2 ≤ 100000; decide) (fun H' s => .of (s.at hb1)) (fun j x H3 H4 Kt hj s3 y kt => ?_) fun H5 s5 e5 => ?_
        · obtain ⟨rfl, ex⟩ := y
          have hx : x = nI p.1 ∨ x = nI p.2 := by
            have m := List.mem_of_getElem? ex
            simpa using m
          repeat walk_at "st"
          refine ⟨rfl, ?_⟩
          repeat walk_at "st"
          refine r_pBook (hp.isn (s1.trans s3).isn) fun bk2 hbk2 => ?_
          repeat walk_at "st"
          refine r_lenB hbk2 l3 ?_
          repeat walk_at "st"
          rcases hx with rfl | rfl
          · exact r_btw (by omega) (by omega) (kt _ fun _ _ e => e)
          · exact r_btw (by omega) (by omega) (kt _ fun _ _ e => e)
        · repeat walk_at "st"
          refine r_allR e5 (fun _ _ => rfl) ?_
          repeat walk_at "st"
          exact kk _ s5
      repeat walk_at "st"
      exact ⟨s1.trans s2, _, rfl⟩
    · rintro σ' H1 ⟨s1, o, rfl⟩
      repeat walk_at "st"
      refine r_slT (s1.at hra) fun c H2 s2 e2 => ?_
      rw [cut_drop _ 1 1 rfl] at e2
      have hra2 := s2.at (s1.at hra)
      repeat walk_at "st"
      refine ⟨ra, c, rxs, rxs.drop 1, rfl, .inr ⟨.of hra2, .of e2, fun D nD => ?_⟩⟩
      refine lc_sc (n := rxs.length - 1) (walk_zT (xs := rxs) (ys := rxs.drop 1) (by rw [List.length_drop]; omega)) nD (fun _ => .bl true) (by omega) (fun H' s => ⟨.of (s.at hra2), .of (s.at e2)⟩) (fun i x H3 H4 Kt hi s3 y kt => ?_) fun H5 s5 e5 => ?_
      · obtain ⟨T, a, b, rfl, s4, eT, ea, eb⟩ := ypair y
        rw [List.getElem?_drop, Nat.add_comm] at eb
        obtain ⟨p, pb, ep, rfl, hpb⟩ := item ea
        obtain ⟨p2, pb2, ep2, rfl, hpb2⟩ := item eb
        have s04 := ((s1.trans s2).trans s3).trans s4
        refine r_gTup (.of eT) rfl ?_
        repeat walk_at "st"
        refine ⟨rfl, ?_⟩
        repeat walk_at "st"
        refine ⟨pb, pb2, [(p.1 : Int), p.2], [(p2.1 : Int), p2.2], rfl, rfl, .of (s04.at hpb), .of (s04.at hpb2), ?_⟩
        have e : HT.lexLt [(p.1 : Int), p.2] [(p2.1 : Int), p2.2] = true := by
          unfold HT.lexLt
          rcases rok.rise i p p2 ep ep2 with z | ⟨z1, z2⟩
          · rw [if_neg (by omega)]
            exact decide_eq_true (by omega)
          · rw [if_pos (by omega)]
            unfold HT.lexLt
            rw [if_neg (by omega)]
            exact decide_eq_true (by omega)
        rw [e]
        exact kt _ s4
      · repeat walk_at "st"
        exact r_allR e5 (fun _ _ => rfl) (q _ ((s1.trans s2).trans s5))
theorem ok_chkR (D : Df K mg "check_rule" (top 54)) (B : Bf mg) (Kc : Kcl P w K mg base CP CB CF) (cChkP : Cal P w K mg base "check_plan" 1 ["plan"] (spChkP CP)) (cChkS : Cal P w K mg base "check_setting" 3 ["book", "setting"] (spChkS CB CF))
    (cIsRule : Cal P w K mg base "is_rule" 5 ["plan", "thing"] (spIsRule CP CB CF)) : Cal P w K mg base "check_rule" 6 ["plan", "setting", "rule"] (spChkR CP CB CF) := by
  have pBook := Kc.pBook
  have clP := Kc.clP
  refine D.cal (N := ["plan", "setting", "rule"]) (ps := ["plan", "setting", "rule"]) scChkR (fun _ _ _ _ _ _ us hl => match us, hl with | [_, _, _], _ => rfl) (fun vs H Q E h => ?_) fun f cdv A outer s H vs Q E hr h => ?_
  · obtain ⟨_, _, _, _, _, _, rfl, _⟩ := h
    rfl
  · obtain ⟨pl, rv, Bk, free, rl, st, rfl, hp, bok, h0, h1, rok, hrl, q⟩ := h
    obtain ⟨pa, dx, fs, rfl, hpa⟩ := hp.ins
    refine ⟨_, (pss_cons (ps_expr (pe_cal cChkP hr (by omega) (pa_cons (pv 0) pa_nil)))
      (pss_cons (ps_expr (pe_cal cChkS hr (by omega) (pa_cons (pe_part pBook clP hr (by omega) (pv 0)) (pa_cons (pv 1) pa_nil))))
      (pss_one (ps_if (pt_not (pt_val (pe_cal cIsRule hr (by omega) (pa_cons (pv 0) (pa_cons (pv 2) pa_nil)))))
        (pss_one ps_never)
        pss_nil)))), ?_⟩
    repeat walk_at "st"
    refine ⟨pa, dx, fs, rfl, hpa, ?_⟩
    repeat walk_at "st"
    refine r_pBook hp fun bk hbk => ?_
    repeat walk_at "st"
    refine ⟨bk, Bk, st, rfl, hbk, h0, h1, ?_⟩
    dsimp only
    refine t_ifNS (fun Q' kk => ?_) fun H1 s1 => ?_
    · repeat walk_at "st"
      exact ⟨_, _, Bk, free, rl, rfl, hp, bok, rok, hrl, fun H' s => r_exbl (kk _ s)⟩
    repeat walk_at "st"
    exact q _ s1
end
end K5
end

section
set_option maxHeartbeats 4000000
/-! KZ: scenes and deeds. -/
namespace K5
open PySem PySem.Spec L2 NdefX LamX
open PyProof.Rows hiding St
local macro_rules | `(tactic| walk_at "lf") => `(tactic| first
  | assumption
  | (refine Same.im (by assumption) ?_; walk_at "lf")
  | (refine Same.ims (by assumption) ?_; walk_at "lf")
  | (refine Same.at (by assumption) ?_; walk_at "lf")
  | (refine Same.sqT (by assumption) ?_; walk_at "lf")
  | (refine Same.seq (by assumption) ?_; walk_at "lf")
  | exact SqL.of (by walk_at "lf")
  | exact SqT.of (by walk_at "lf"))
local macro_rules | `(tactic| walk_at "st") => `(tactic| first
  | ((with_reducible refine r_var (v := ?vv) ?rv ?_); (case rv => exact rfl))
  | with_reducible first
    | refine r_seq ?_
    | refine r_asg ?_
    | refine r_gName ?_
    | refine r_c ?_
    | refine r_op ?_
    | refine r_I0 ?_
    | refine r_exbl ?_
    | refine r_cb ?_
    | refine r_nil ?_
    | refine r_cons ?_
    | refine r_test ?_
    | refine r_tB ?_
    | refine r_and ?_
    | refine r_or ?_
    | refine r_not ?_
    | refine r_if ?_
    | refine r_ret ?_
    | refine r_next ?_
    | refine r_tup ?_
    | refine r_lst ?_
    | refine r_int ?_
    | refine r_exint ?_
    | refine r_sl ?_
    | refine r_part ?_
    | refine r_nopart ?_
    | refine r_par ?_
    | refine r_ex2 ?_
    | refine r_call ?_
    | refine r_un ?_
    | refine r_U ?_
    | refine r_andV ?_
    | refine r_orV ?_
    | refine r_notV ?_
    | refine r_chain ?_
    | refine r_isN ?_
    | refine r_notN ?_
    | refine r_drop ?_
    | refine r_I (by decide) ?_
    | refine r_EqI ?_
    | refine r_NeI ?_
    | refine r_EqS ?_
    | refine r_NeS ?_
    | refine r_gSub ?_
    | refine r_gCons ?_
    | refine r_gNil ?_
    | refine r_dget ?_
    | refine r_pcons ?_
    | refine r_pnil ?_
    | refine iteT ?_
    | refine iteF ?_
    | refine iteNF ?_
    | refine iteNT ?_
    | refine r_prop ?_
    | refine r_dget2 ?_
    | refine r_din ?_
    | refine r_dput ?_
    | refine r_mk ?_
    | refine r_propG ?_
    | refine r_mtd ?_
    | refine r_bm ?_
    | refine r_si ?_
    | refine r_for ?_
    | refine r_lc ?_
    | refine r_iT ?_
    | refine r_iL ?_
    | refine r_enT ?_
    | refine r_zip ?_
    | refine r_zs ?_
    | refine r_iR1 ?_
    | refine r_yes ?_
    | refine r_fld ?_
    | refine r_star1 ?_
    | refine r_ctE ?_
    | refine r_div (by decide) (by decide) ?_
    | refine r_mulL (by decide) (by decide) ?_
    | refine r_mulR (by decide) (by decide) ?_)
local macro_rules | `(tactic| walk_at "tq") => `(tactic| ((repeat walk_at "st"); first
  | assumption
  | (refine q_decT (by omega) (by assumption))
  | (refine q_decF (by omega) (by assumption))
  | (refine q_nT (by omega) (by assumption))
  | (refine q_nF (by omega) (by assumption))
  | (refine ite_dec (fun _ => ?_) (fun _ => ?_) <;> first | (exfalso; omega) | walk_at "tq")
  | (refine ite_ndec (fun _ => ?_) (fun _ => ?_) <;> first | (exfalso; omega) | walk_at "tq")))
theorem encRow_rep (b : Nat) : encRow (List.replicate b none) = .tuple (List.replicate b .none) := by
  unfold encRow
  rw [List.map_replicate]
  rfl
theorem encM_rep (nf b : Nat) : encM (memE nf b) = .tuple (List.replicate nf (encRow (List.replicate b none))) := by
  unfold encM memE
  rw [List.map_replicate]
theorem encW_rep (nf : Nat) : encW (wdE nf) = .tuple (List.replicate nf (nD 0)) := by
  unfold encW wdE
  rw [List.map_replicate]
/-! ### deeds -/
inductive Dd where
  | ask (k : Nat) (g : Int)
  | put (k b : Nat)
def encD : Dd → PyData
  | .ask k g => .tuple [.str "ask", nD k, .int g]
  | .put k b => .tuple [.str "put", nD k, nD b]
def DdOk (B : Book) (free : List Nat) : Dd → Prop
  | .ask k g => k < B.fns.length ∧ 0 ≤ g ∧ g < B.base
  | .put k b => k < B.fns.length ∧ k ∈ free ∧ b < (B.fns.getD k []).length
/-- what stands for no deed -/
def badDs : List PyData := [.tuple [.str "put", nD 0, nD 9], .tuple [.str "ask", nD 9, nD 0], .tuple [.str "ask", nD 0, .bool true], .none, .tuple [.str "look", nD 0, nD 0], .tuple [.str "ask", nD 0], nD 5]
def DeedAt (B : Book) (free : List Nat) (H : Hp) (v : V) (b : Bool) : Prop :=
  (∃ d, DdOk B free d ∧ Im H v (encD d) ∧ b = true) ∨ (∃ d ∈ badDs, Im H v d ∧ b = false) ∨ ∃ a xs, v = .ref a ∧ H a = some (.lst xs) ∧ b = false
def spIsDeed (CP CB CF : Addr) : Sp := fun vs H Q _ => ∃ (pl dv : V) (B : Book) (free : List Nat) (b : Bool), vs = [pl, dv] ∧ PlanAt CP CB CF H pl B free ∧ BookOk B ∧ DeedAt B free H dv b ∧ ∀ H', Same H H' → Q (.bl b) H'
/-- the memory after the function k was given another body -/
def forget (rl : List (Nat × Nat)) (base k : Nat) (M : Mem) : Mem := M.mapIdx fun j r => if (k, j) ∈ rl then List.replicate base none else r
def aft (B : Book) (st : Int) (rl : List (Nat × Nat)) (wd : List Nat) (M : Mem) : Dd → (List Nat × Mem) × Option Int
  | .ask k g => ((wd, (evC B.fns B.base wd st 3 k g M).2), some (evC B.fns B.base wd st 3 k g M).1)
  | .put k b => ((wd.set k b, forget rl B.base k M), none)
def spAfter (T : List NTab) (CP CB CF : Addr) : Sp := fun vs H Q _ => ∃ (pl rv sv dv : V) (B : Book) (free wd : List Nat) (M : Mem) (rl : List (Nat × Nat)) (st : Int) (d : Dd), vs = [pl, .int st, rv, sv, dv] ∧ PlanAt CP CB CF H pl B free ∧ BookOk B ∧ 0 ≤ st ∧ st < B.settings ∧
  RuleOk B.fns.length rl ∧ Im H rv (encR rl) ∧ WdOk B.fns wd ∧ MemOk B.fns.length B.base M ∧ Im H sv (encS wd M) ∧ DdOk B free d ∧ Im H dv (encD d) ∧ TabsN T H ∧
  ∀ p H', ExtN H H' → TabsN T H' → Im H' (.ref p) (.tuple [encS (aft B st rl wd M d).1.1 (aft B st rl wd M d).1.2, encO (aft B st rl wd M d).2]) → Q (.ref p) H'
def spFsc (CP CB CF : Addr) : Sp := spFirst CP CB CF
theorem scIsDeed : FnScope ["plan", "thing", "word", "one", "other"] ["plan", "thing"] (defScope (top 58)) := ⟨rfl, rfl, rfl, by decide +kernel, rfl, by decide +kernel, by decide +kernel⟩
theorem scAfter : FnScope ["plan", "setting", "rule", "scene", "deed", "word", "one", "other", "found", "memory", "wording", "empty", "k", "row"] ["plan", "setting", "rule", "scene", "deed"] (defScope (top 60)) := ⟨rfl, rfl, rfl, by decide +kernel, rfl, by decide +kernel, by decide +kernel⟩
theorem scFscene : FnScope ["plan"] ["plan"] (defScope (top 61)) := ⟨rfl, rfl, rfl, by decide +kernel, rfl, by decide +kernel, by decide +kernel⟩
theorem scSafter : FnScope ["plan", "setting", "rule", "scene", "deed"] ["plan", "setting", "rule", "scene", "deed"] (defScope (top 62)) := ⟨rfl, rfl, rfl, by decide +kernel, rfl, by decide +kernel, by decide +kernel⟩
section
variable {P : Program} {w : World} {K : PySem.W.Frag} {mg : Str → Option Value} {base : Heap} {T : List NTab} {CP CB CF : Addr}
theorem ok_first (D : Df K mg "first_of_scenes" (top 55)) (B : Bf mg) (Kc : Kcl P w K mg base CP CB CF) (lenB : Mtd P w K mg base CB "__len__" 3 ["self"] (spLenB CB CF)) :
    Cal P w K mg base "first_of_scenes" 5 ["plan"] (spFirst CP CB CF) := by
  have pBook := Kc.pBook
  have pBase := Kc.bBase
  have clP := Kc.clP
  have clB := Kc.clB
  refine D.cal (N := ["plan", "empty"]) (ps := ["plan"]) scFirst (fun _ _ _ _ _ _ us hl => match us, hl with | [_], _ => rfl) (fun vs H Q E h => ?_) fun f cdv A outer s H vs Q E hr h => ?_
  · obtain ⟨_, _, _, rfl, _⟩ := h
    rfl
  · obtain ⟨pl, Bk, free, rfl, hp, bok, q⟩ := h
    have l3 := bok.fns.len3
    have l1 := bok.fns.len1
    have b3 := bok.fns.base3
    have b2 := bok.fns.base2
    refine ⟨_, (pss_cons (ps_set (i := 1) scFirst.nd rfl (by first | exact Or.inl rfl | exact Or.inr rfl) (pe_op op_repA (pe_tup (pa_cons pe_non pa_nil)) (pe_part pBase clB hr (by omega) (pe_part pBook clP hr (by omega) (pv 0)))))
      (pss_one (ps_ret (pe_tup (pa_cons (pe_op op_repA (pe_tup (pa_cons pe_int pa_nil)) (pe_callB (c_lenO lenB hr (by omega)) (by rfl) (B _ (by decide)) b_len (pa_cons (pe_part pBook clP hr (by omega) (pv 0)) pa_nil))) (pa_cons (pe_op op_repA (pe_tup (pa_cons (pv 1) pa_nil)) (pe_callB (c_lenO lenB hr (by omega)) (by rfl) (B _ (by decide)) b_len (pa_cons (pe_part pBook clP hr (by omega) (pv 0)) pa_nil))) pa_nil)))))), ?_⟩
    repeat walk_at "st"
    refine r_newT (by show 1 ≤ sizeLine; decide) fun p1 H1 np1 s1 e1 => ?_
    repeat walk_at "st"
    refine r_pBook (hp.isn s1.isn) fun bk hbk => ?_
    refine r_bBase hbk ?_
    refine r_rep1 Bk.base e1 (by omega) (by omega) rfl fun p2 H2 s2 e2 => ?_
    have i2 : Im H2 (.ref p2) (encRow (List.replicate Bk.base none)) := by
      rw [encRow_rep]
      exact .tup e2 (imAll_rep .non _)
    repeat walk_at "st"
    refine r_newT (by show 1 ≤ sizeLine; decide) fun p3 H3 np3 s3 e3 => ?_
    have s13 := (s1.trans s2).trans s3
    repeat walk_at "st"
    refine r_pBook (hp.isn s13.isn) fun bk hbk => ?_
    repeat walk_at "st"
    refine r_lenB hbk l3 ?_
    refine r_rep1 Bk.fns.length e3 (by omega) (by omega) rfl fun p4 H4 s4 e4 => ?_
    repeat walk_at "st"
    refine r_newT (by show 1 ≤ sizeLine; decide) fun p5 H5 np5 s5 e5 => ?_
    have s15 := (s13.trans s4).trans s5
    repeat walk_at "st"
    refine r_pBook (hp.isn s15.isn) fun bk hbk => ?_
    repeat walk_at "st"
    refine r_lenB hbk l3 ?_
    refine r_rep1 Bk.fns.length e5 (by omega) (by omega) rfl fun p6 H6 s6 e6 => ?_
    repeat walk_at "st"
    refine r_newT (by show 2 ≤ sizeLine; decide) fun p7 H7 np7 s7 e7 => ?_
    refine q p7 H7 ((s15.trans s6).trans s7) (.tup e7 (.cons ?_ (.cons ?_ .nil)))
    · rw [encW_rep]
      exact .tup (s7.at (s6.at (s5.at e4))) (imAll_rep (.int 0) _)
    · rw [encM_rep]
      exact .tup (s7.at e6) (imAll_rep (s7.im (s6.im (s5.im (s4.im (s3.im i2))))) _)
theorem ok_isMem (D : Df K mg "is_memory" (top 56)) (B : Bf mg) (Kc : Kcl P w K mg base CP CB CF) (cBtw : Cal P w K mg base "is_between" 1 ["thing", "low", "high"] spBtw) (lenB : Mtd P w K mg base CB "__len__" 3 ["self"] (spLenB CB CF)) :
    Cal P w K mg base "is_memory" 5 ["plan", "thing"] (spIsMem CP CB CF) := by
  have pBook := Kc.pBook
  have pBase := Kc.bBase
  have clP := Kc.clP
  have clB := Kc.clB
  refine D.cal (N := ["plan", "thing", "row", "one"]) (ps := ["plan", "thing"]) scIsMem (fun _ _ _ _ _ _ us hl => match us, hl with | [_, _], _ => rfl) (fun vs H Q E h => ?_) fun f cdv A outer s H vs Q E hr h => ?_
  · obtain ⟨_, _, _, _, _, rfl, _⟩ := h
    rfl
  · obtain ⟨pl, mv, Bk, free, M, rfl, hp, bok, mok, hm, q⟩ := h
    refine ⟨_, (pss_cons (ps_if (pw_or (pt_not (pt_val (pe_callB c_isi (by rfl) (B _ (by decide)) b_isinstance (pa_cons (pv 1) (pa_cons (pe_bltn (v := .ty "tuple") (by rfl) (B _ (by decide)) b_tuple rfl) pa_nil))))) (pw_or1 (pt_cmpR op_ne (pe_callB c_len (by rfl) (B _ (by decide)) b_len (pa_cons (pv 1) pa_nil)) (pe_callB (c_lenO lenB hr (by omega)) (by rfl) (B _ (by decide)) b_len (pa_cons (pe_part pBook clP hr (by omega) (pv 0)) pa_nil)) (nomark _)))).pt
        (pss_one (ps_ret pe_bl))
        pss_nil)
      (pss_cons (ps_for PassesOwn.never rfl (pi_tup (pv 1)) (pg_name (i := 2) scIsMem.nd rfl (by first | exact Or.inl rfl | exact Or.inr rfl))
        (pss_cons (ps_if (pw_or (pt_not (pt_val (pe_callB c_isi (by rfl) (B _ (by decide)) b_isinstance (pa_cons (pv 2) (pa_cons (pe_bltn (v := .ty "tuple") (by rfl) (B _ (by decide)) b_tuple rfl) pa_nil))))) (pw_or1 (pt_cmpR op_ne (pe_callB c_len (by rfl) (B _ (by decide)) b_len (pa_cons (pv 2) pa_nil)) (pe_part pBase clB hr (by omega) (pe_part pBook clP hr (by omega) (pv 0))) (nomark _)))).pt
          (pss_one (ps_ret pe_bl))
          pss_nil)
        (pss_one (ps_if (pt_not (pt_val (pe_callB (cr_all rfl) (by rfl) (B _ (by decide)) b_all (pa_cons (pe_lc (own := [("one", 3)]) (g := (gName 3)) (tt := tYes) rfl scIsMem.nd (pi_tup (pv 2)) (blkOk_by (own := [("one", 3)]) (N := ["plan", "thing", "row", "one"]) (sc := defScope (top 56)) (by decide +kernel)) (fun _ _ _ _ _ => (pg_name (i := 3) scIsMem.nd rfl (by first | exact Or.inl rfl | exact Or.inr rfl))) (fun _ _ _ _ _ => pts_nil) (fun _ _ _ _ _ => (pe_or (pe_cmp (pc_isN (pv 3))) (pe_one (pe_cal cBtw hr (by omega) (pa_cons (pv 3) (pa_cons pe_int (pa_cons (pe_op op_sub (pe_part pBase clB hr (by omega) (pe_part pBook clP hr (by omega) (pv 0))) pe_int) pa_nil)))))))) pa_nil))))
          (pss_one (ps_ret pe_bl))
          pss_nil))))
      (pss_one (ps_ret pe_bl)))), ?_⟩
    obtain ⟨ma, mxs, rfl, hma, hmx⟩ := im_tup hm
    have l3 := bok.fns.len3
    have b3 := bok.fns.base3
    have xl : mxs.length = Bk.fns.length := by rw [hmx.length, List.length_map, mok.len]
    repeat walk_at "st"
    refine t_ifN (fun Q' kk => ?_) ?_
    · repeat walk_at "st"
      refine r_isi (.base (.tup hma)) (b := true) (by decide +kernel) ?_
      repeat walk_at "st"
      refine r_lenT (.of hma) xl ?_
      repeat walk_at "st"
      refine r_pBook hp fun bk hbk => ?_
      repeat walk_at "st"
      refine r_lenB hbk l3 ?_
      repeat walk_at "st"
      exact q_nF rfl kk
    repeat walk_at "st"
    refine ⟨ma, rfl, ⟨_, .of hma⟩, ?_⟩
    refine for_w (walk_tup (xs := mxs)) (fun i σ' H' => Same H H' ∧ ∃ o, σ' = [some pl, some (.ref ma), o, none]) ⟨fun _ _ e => e, none, rfl⟩ (fun i σ' H' _ z => .of (z.1.at hma)) ?_ ?_
    · rintro i x σ' H1 H' hi ⟨s1, o, rfl⟩ ⟨rfl, ex⟩
      obtain ⟨d, hd, ib⟩ := hmx.get' ex
      rw [List.getElem?_map] at hd
      obtain ⟨r, hr, rfl⟩ := Option.map_eq_some_iff.mp hd
      obtain ⟨b, rxs, rfl, hb, hrx⟩ := im_tup ib
      have hb1 := s1.at hb
      have rm := List.mem_of_getElem? hr
      have rl : rxs.length = Bk.base := by rw [hrx.length, List.length_map, mok.row r rm]
      repeat walk_at "st"
      refine t_ifN (fun Q' kk => ?_) ?_
      · repeat walk_at "st"
        refine r_isi (.base (.tup hb1)) (b := true) (by decide +kernel) ?_
        repeat walk_at "st"
        refine r_lenT (.of hb1) rl ?_
        repeat walk_at "st"
        refine r_pBook (hp.isn s1.isn) fun bk hbk => ?_
        refine r_bBase hbk ?_
        repeat walk_at "st"
        exact q_nF rfl kk
      repeat walk_at "st"
      dsimp only
      refine t_ifNS (fun Q' kk => ?_) fun H2 s2 => ?_
      · repeat walk_at "st"
        refine ⟨b, rfl, ⟨_, .of hb1⟩, fun D nD => ?_⟩
        refine lc_sc (walk_tup (xs := rxs)) nD (fun _ => .bl true) (by omega) (fun H' s => .of (s.at hb1)) (fun j x H3 H4 Kt hj s3 y kt => ?_) fun H5 s5 e5 => ?_
        · obtain ⟨rfl, ex⟩ := y
          obtain ⟨d, hd, io⟩ := hrx.get' ex
          rw [List.getElem?_map] at hd
          obtain ⟨o1, ho1, rfl⟩ := Option.map_eq_some_iff.mp hd
          have hx := im_O io
          repeat walk_at "st"
          refine ⟨rfl, ?_⟩
          repeat walk_at "st"
          cases o1 with
          | none =>
            subst hx
            exact iteT (kt _ fun _ _ e => e)
          | some n =>
            subst hx
            obtain ⟨v0, v1⟩ := mok.val r rm n (List.mem_of_getElem? ho1)
            refine iteF ?_
            repeat walk_at "st"
            refine r_pBook (hp.isn (s1.trans s3).isn) fun bk hbk => ?_
            refine r_bBase hbk ?_
            repeat walk_at "st"
            exact r_btw (by omega) (by omega) (kt _ fun _ _ e => e)
        · repeat walk_at "st"
          refine r_allR e5 (fun _ _ => rfl) ?_
          repeat walk_at "st"
          exact kk _ s5
      repeat walk_at "st"
      exact ⟨s1.trans s2, _, rfl⟩
    · rintro σ' H1 ⟨s1, o, rfl⟩
      repeat walk_at "st"
      exact q _ s1
theorem ok_isSc (D : Df K mg "is_scene" (top 57)) (B : Bf mg) (Kc : Kcl P w K mg base CP CB CF) (cIsWd : Cal P w K mg base "is_wording" 8 ["book", "wording"] (spIsWd CB CF)) (cIsMem : Cal P w K mg base "is_memory" 5 ["plan", "thing"] (spIsMem CP CB CF)) :
    Cal P w K mg base "is_scene" 9 ["plan", "thing"] (spIsSc CP CB CF) := by
  have pBook := Kc.pBook
  have clP := Kc.clP
  refine D.cal (N := ["plan", "thing"]) (ps := ["plan", "thing"]) scIsSc (fun _ _ _ _ _ _ us hl => match us, hl with | [_, _], _ => rfl) (fun vs H Q E h => ?_) fun f cdv A outer s H vs Q E hr h => ?_
  · obtain ⟨_, _, _, _, _, _, rfl, _⟩ := h
    rfl
  · obtain ⟨pl, sv, Bk, free, wd, M, rfl, hp, bok, wok, mok, hs, q⟩ := h
    refine ⟨_, (pss_cons (ps_if (pw_or (pt_not (pt_val (pe_callB c_isi (by rfl) (B _ (by decide)) b_isinstance (pa_cons (pv 1) (pa_cons (pe_bltn (v := .ty "tuple") (by rfl) (B _ (by decide)) b_tuple rfl) pa_nil))))) (pw_or1 (pt_cmpR op_ne (pe_callB c_len (by rfl) (B _ (by decide)) b_len (pa_cons (pv 1) pa_nil)) pe_int (nomark _)))).pt
        (pss_one (ps_ret pe_bl))
        pss_nil)
      (pss_one (ps_ret (pe_and (pe_cal cIsWd hr (by omega) (pa_cons (pe_part pBook clP hr (by omega) (pv 0)) (pa_cons (pe_ix ix_tup (pv 1) pe_int (fun _ _ => rfl)) pa_nil))) (pe_one (pe_cal cIsMem hr (by omega) (pa_cons (pv 0) (pa_cons (pe_ix ix_tup (pv 1) pe_int (fun _ _ => rfl)) pa_nil)))))))), ?_⟩
    obtain ⟨sa, sxs, rfl, hsa, hsx⟩ := im_tup hs
    cases hsx with
    | cons i1 r1 =>
    cases r1 with
    | cons i2 r2 =>
    cases r2
    repeat walk_at "st"
    refine t_ifN (fun Q' kk => ?_) ?_
    · repeat walk_at "st"
      refine r_isi (.base (.tup hsa)) (b := true) (by decide +kernel) ?_
      repeat walk_at "st"
      refine r_lenT (.of hsa) (n := 2) rfl ?_
      repeat walk_at "st"
      exact q_nF rfl kk
    repeat walk_at "st"
    refine r_pBook hp fun bk hbk => ?_
    repeat walk_at "st"
    refine r_ixT (.of hsa) rfl ?_
    repeat walk_at "st"
    refine ⟨bk, _, Bk, wd, rfl, hbk, bok, wok, i1, fun H1 s1 => ⟨true, rfl, iteT ?_⟩⟩
    repeat walk_at "st"
    refine r_ixT (.of (s1.at hsa)) rfl ?_
    repeat walk_at "st"
    exact ⟨pl, _, Bk, free, M, rfl, hp.isn s1.isn, bok, mok, s1.im i2, fun H2 s2 => q _ (s1.trans s2)⟩
theorem flat_nats (ns : List Nat) : (ns.map nI).all flatV = true := by
  rw [List.all_eq_true]
  intro x hx
  obtain ⟨n, _, rfl⟩ := List.mem_map.mp hx
  rfl
theorem eqV_nI (a b : Nat) : eqV (nI a) (nI b) = decide (a = b) := by
  show decide ((a : Int) = b) = decide (a = b)
  exact decide_eq_decide.mpr ⟨Int.ofNat.inj, congrArg _⟩
theorem inV_nats (k : Nat) (ns : List Nat) : inV (.int k) (ns.map nI) = decide (k ∈ ns) := by
  induction ns with
  | nil => rfl
  | cons n r ih =>
    have e : inV (.int k) ((n :: r).map nI) = (eqV (nI n) (nI k) || inV (.int k) (r.map nI)) := rfl
    rw [e, ih, eqV_nI, ← Bool.decide_or]
    refine decide_eq_decide.mpr ?_
    rw [List.mem_cons]
    exact ⟨fun z => z.elim (fun z => .inl z.symm) .inr, fun z => z.elim (fun z => .inl z.symm) .inr⟩
theorem ok_isDeed (D : Df K mg "is_scene_deed" (top 58)) (B : Bf mg) (Kc : Kcl P w K mg base CP CB CF) (cBtw : Cal P w K mg base "is_between" 1 ["thing", "low", "high"] spBtw) (lenB : Mtd P w K mg base CB "__len__" 3 ["self"] (spLenB CB CF))
    (getB : Mtd P w K mg base CB "__getitem__" 6 ["self", "function"] (spGetB CB CF)) : Cal P w K mg base "is_scene_deed" 8 ["plan", "thing"] (spIsDeed CP CB CF) := by
  have pBook := Kc.pBook
  have pFree := Kc.pFree
  have pBase := Kc.bBase
  have clP := Kc.clP
  have clB := Kc.clB
  refine D.cal (N := ["plan", "thing", "word", "one", "other"]) (ps := ["plan", "thing"]) scIsDeed (fun _ _ _ _ _ _ us hl => match us, hl with | [_, _], _ => rfl) (fun vs H Q E h => ?_) fun f cdv A outer s H vs Q E hr h => ?_
  · obtain ⟨_, _, _, _, _, rfl, _⟩ := h
    rfl
  · obtain ⟨pl, dv, Bk, free, b, rfl, hp, bok, hd, q⟩ := h
    refine ⟨_, (pss_cons (ps_if (pw_or (pt_not (pt_val (pe_callB c_isi (by rfl) (B _ (by decide)) b_isinstance (pa_cons (pv 1) (pa_cons (pe_bltn (v := .ty "tuple") (by rfl) (B _ (by decide)) b_tuple rfl) pa_nil))))) (pw_or (pt_cmpR op_ne (pe_callB c_len (by rfl) (B _ (by decide)) b_len (pa_cons (pv 1) pa_nil)) pe_int (nomark _)) (pw_or1 (pt_not (pt_val (pe_callB c_isi (by rfl) (B _ (by decide)) b_isinstance (pa_cons (pe_ix ix_tup (pv 1) pe_int (fun _ _ => rfl)) (pa_cons (pe_bltn (v := .ty "str") (by rfl) (B _ (by decide)) b_str rfl) pa_nil)))))))).pt
        (pss_one (ps_ret pe_bl))
        pss_nil)
      (pss_cons (ps_asg (pv 1) (pg_tup rfl (pgs_cons (pg_name (i := 2) scIsDeed.nd rfl (by first | exact Or.inl rfl | exact Or.inr rfl)) (pgs_cons (pg_name (i := 3) scIsDeed.nd rfl (by first | exact Or.inl rfl | exact Or.inr rfl)) (pgs_cons (pg_name (i := 4) scIsDeed.nd rfl (by first | exact Or.inl rfl | exact Or.inr rfl)) pgs_nil)))))
      (pss_cons (ps_if (pw_or (pt_cmpR op_notIn_seq (pv 2) (pe_tup (pa_cons pe_str (pa_cons pe_str pa_nil))) (by with_unfolding_all rfl)) (pw_or1 (pt_not (pt_val (pe_cal cBtw hr (by omega) (pa_cons (pv 3) (pa_cons pe_int (pa_cons (pe_op op_sub (pe_callB (c_lenO lenB hr (by omega)) (by rfl) (B _ (by decide)) b_len (pa_cons (pe_part pBook clP hr (by omega) (pv 0)) pa_nil)) pe_int) pa_nil)))))))).pt
        (pss_one (ps_ret pe_bl))
        pss_nil)
      (pss_cons (ps_if (pt_cmpR op_eq (pv 2) pe_str (nomark _))
        (pss_one (ps_ret (pe_cal cBtw hr (by omega) (pa_cons (pv 4) (pa_cons pe_int (pa_cons (pe_op op_sub (pe_part pBase clB hr (by omega) (pe_part pBook clP hr (by omega) (pv 0))) pe_int) pa_nil))))))
        pss_nil)
      (pss_one (ps_ret (pe_and (pe_cmpR op_in_seq (pv 3) (pe_part pFree clP hr (by omega) (pv 0)) (by with_unfolding_all rfl)) (pe_one (pe_cal cBtw hr (by omega) (pa_cons (pv 4) (pa_cons pe_int (pa_cons (pe_op op_sub (pe_callB c_len (by rfl) (B _ (by decide)) b_len (pa_cons (pe_ixO getB hr (by omega) (pe_part pBook clP hr (by omega) (pv 0)) (pv 3)) pa_nil)) pe_int) pa_nil)))))))))))), ?_⟩
    have l3 := bok.fns.len3
    have l1 := bok.fns.len1
    have b3 := bok.fns.base3
    rcases hd with ⟨d, dok, im, rfl⟩ | ⟨d, dm, im, rfl⟩ | ⟨a, xs, rfl, ha, rfl⟩
    · cases d with
      | ask k g =>
        obtain ⟨k1, g0, g1⟩ := dok
        obtain ⟨da, dxs, rfl, hda, hdx⟩ := im_tup im
        cases hdx with
        | cons i1 r1 =>
        cases i1
        cases r1 with
        | cons i2 r2 =>
        cases i2
        cases r2 with
        | cons i3 r3 =>
        cases i3
        cases r3
        repeat walk_at "st"
        refine t_ifN (fun Q' kk => ?_) ?_
        · repeat walk_at "st"
          refine r_isi (.base (.tup hda)) (b := true) (by decide +kernel) ?_
          repeat walk_at "st"
          refine r_lenT (.of hda) (n := 3) rfl ?_
          repeat walk_at "st"
          refine ite_ndec (fun z => absurd rfl z) fun _ => ?_
          repeat walk_at "st"
          refine r_ixT (.of hda) rfl ?_
          repeat walk_at "st"
          refine r_isi (.base (.str _)) (b := true) (by decide +kernel) ?_
          repeat walk_at "st"
          exact kk
        repeat walk_at "st"
        refine r_gTup (.of hda) rfl ?_
        repeat walk_at "st"
        refine t_ifNS (fun Q' kk => ?_) fun H1 s1 => ?_
        · repeat walk_at "st"
          refine r_newT (by show 2 ≤ sizeLine; decide) fun p H1 np s1 e1 => ?_
          refine r_ninT (.of e1) rfl rfl ?_
          refine r_exbl (iteF ?_)
          repeat walk_at "st"
          refine r_pBook (hp.isn s1.isn) fun bk hbk => ?_
          repeat walk_at "st"
          refine r_lenB hbk l3 ?_
          repeat walk_at "st"
          refine r_btw (by omega) (by omega) ?_
          repeat walk_at "st"
          exact kk _ s1
        repeat walk_at "st"
        refine t_ifY (fun Q' kk => ?_) ?_
        · repeat walk_at "st"
          exact q_decT rfl kk
        repeat walk_at "st"
        refine r_pBook (hp.isn s1.isn) fun bk hbk => ?_
        refine r_bBase hbk ?_
        repeat walk_at "st"
        exact r_btw (by omega) (by omega) (q _ s1)
      | put k b =>
        obtain ⟨k1, kf, bl⟩ := dok
        obtain ⟨da, dxs, rfl, hda, hdx⟩ := im_tup im
        cases hdx with
        | cons i1 r1 =>
        cases i1
        cases r1 with
        | cons i2 r2 =>
        cases i2
        cases r2 with
        | cons i3 r3 =>
        cases i3
        cases r3
        repeat walk_at "st"
        refine t_ifN (fun Q' kk => ?_) ?_
        · repeat walk_at "st"
          refine r_isi (.base (.tup hda)) (b := true) (by decide +kernel) ?_
          repeat walk_at "st"
          refine r_lenT (.of hda) (n := 3) rfl ?_
          repeat walk_at "st"
          refine ite_ndec (fun z => absurd rfl z) fun _ => ?_
          repeat walk_at "st"
          refine r_ixT (.of hda) rfl ?_
          repeat walk_at "st"
          refine r_isi (.base (.str _)) (b := true) (by decide +kernel) ?_
          repeat walk_at "st"
          exact kk
        repeat walk_at "st"
        refine r_gTup (.of hda) rfl ?_
        repeat walk_at "st"
        refine t_ifNS (fun Q' kk => ?_) fun H1 s1 => ?_
        · repeat walk_at "st"
          refine r_newT (by show 2 ≤ sizeLine; decide) fun p H1 np s1 e1 => ?_
          refine r_ninT (.of e1) rfl rfl ?_
          refine r_exbl (iteF ?_)
          repeat walk_at "st"
          refine r_pBook (hp.isn s1.isn) fun bk hbk => ?_
          repeat walk_at "st"
          refine r_lenB hbk l3 ?_
          repeat walk_at "st"
          refine r_btw (by omega) (by omega) ?_
          repeat walk_at "st"
          exact kk _ s1
        repeat walk_at "st"
        refine t_ifN (fun Q' kk => ?_) ?_
        · repeat walk_at "st"
          exact q_decF (by decide) kk
        repeat walk_at "st"
        refine r_pFree (hp.isn s1.isn) fun fa hfa => ?_
        refine r_inT (.of hfa) rfl (flat_nats free) ?_
        rw [inV_nats]
        rw [decide_eq_true kf]
        refine ⟨true, rfl, iteT ?_⟩
        repeat walk_at "st"
        refine r_pBook (hp.isn s1.isn) fun bk hbk => ?_
        repeat walk_at "st"
        refine r_getB hbk (r := Bk.fns.getD k []) (by rw [List.getD_eq_getElem?_getD, List.getElem?_eq_getElem k1]; rfl) l3 rfl fun rb ys hrb hys => ?_
        repeat walk_at "st"
        refine r_lenT (.of hrb) hys.length ?_
        repeat walk_at "st"
        exact r_btw (by omega) (by omega) (q _ s1)
    · simp only [badDs, List.mem_cons, List.not_mem_nil, or_false] at dm
      rcases dm with rfl | rfl | rfl | rfl | rfl | rfl | rfl
      · obtain ⟨da, dxs, rfl, hda, hdx⟩ := im_tup im
        cases hdx with
        | cons i1 r1 =>
        cases i1
        cases r1 with
        | cons i2 r2 =>
        cases i2
        cases r2 with
        | cons i3 r3 =>
        cases i3
        cases r3
        repeat walk_at "st"
        refine t_ifN (fun Q' kk => ?_) ?_
        · repeat walk_at "st"
          refine r_isi (.base (.tup hda)) (b := true) (by decide +kernel) ?_
          repeat walk_at "st"
          refine r_lenT (.of hda) (n := 3) rfl ?_
          repeat walk_at "st"
          refine ite_ndec (fun z => absurd rfl z) fun _ => ?_
          repeat walk_at "st"
          refine r_ixT (.of hda) rfl ?_
          repeat walk_at "st"
          refine r_isi (.base (.str _)) (b := true) (by decide +kernel) ?_
          repeat walk_at "st"
          exact kk
        repeat walk_at "st"
        refine r_gTup (.of hda) rfl ?_
        repeat walk_at "st"
        refine t_ifNS (fun Q' kk => ?_) fun H1 s1 => ?_
        · repeat walk_at "st"
          refine r_newT (by show 2 ≤ sizeLine; decide) fun p H1 np s1 e1 => ?_
          refine r_ninT (.of e1) rfl rfl ?_
          refine r_exbl (iteF ?_)
          repeat walk_at "st"
          refine r_pBook (hp.isn s1.isn) fun bk hbk => ?_
          repeat walk_at "st"
          refine r_lenB hbk l3 ?_
          repeat walk_at "st"
          refine r_btw (by omega) (by omega) ?_
          repeat walk_at "st"
          exact kk _ s1
        repeat walk_at "st"
        refine t_ifN (fun Q' kk => ?_) ?_
        · repeat walk_at "st"
          exact q_decF (by decide) kk
        repeat walk_at "st"
        refine r_pFree (hp.isn s1.isn) fun fa hfa => ?_
        refine r_inT (.of hfa) rfl (flat_nats free) ?_
        rw [inV_nats]
        by_cases kf : 0 ∈ free
        · rw [decide_eq_true (show ((0 : Nat) ∈ free) from kf)]
          refine ⟨true, rfl, iteT ?_⟩
          repeat walk_at "st"
          refine r_pBook (hp.isn s1.isn) fun bk hbk => ?_
          repeat walk_at "st"
          have e0 : Bk.fns[0]? = some Bk.fns[0] := List.getElem?_eq_getElem (by omega)
          refine r_getB hbk (k := 0) e0 l3 rfl fun rb ys hrb hys => ?_
          repeat walk_at "st"
          refine r_lenT (.of hrb) hys.length ?_
          repeat walk_at "st"
          have r3 := bok.fns.row3 _ (List.mem_of_getElem? e0)
          exact r_btwN (by omega) (q _ s1)
        · rw [decide_eq_false (show ¬ ((0 : Nat) ∈ free) from kf)]
          exact ⟨false, rfl, iteF (q _ s1)⟩
      · obtain ⟨da, dxs, rfl, hda, hdx⟩ := im_tup im
        cases hdx with
        | cons i1 r1 =>
        cases i1
        cases r1 with
        | cons i2 r2 =>
        cases i2
        cases r2 with
        | cons i3 r3 =>
        cases i3
        cases r3
        repeat walk_at "st"
        refine t_ifN (fun Q' kk => ?_) ?_
        · repeat walk_at "st"
          refine r_isi (.base (.tup hda)) (b := true) (by decide +kernel) ?_
          repeat walk_at "st"
          refine r_lenT (.of hda) (n := 3) rfl ?_
          repeat walk_at "st"
          refine ite_ndec (fun z => absurd rfl z) fun _ => ?_
          repeat walk_at "st"
          refine r_ixT (.of hda) rfl ?_
          repeat walk_at "st"
          refine r_isi (.base (.str _)) (b := true) (by decide +kernel) ?_
          repeat walk_at "st"
          exact kk
        repeat walk_at "st"
        refine r_gTup (.of hda) rfl ?_
        repeat walk_at "st"
        refine t_ifYS (fun Q' kk => ?_) fun H1 s1 => ?_
        · repeat walk_at "st"
          refine r_newT (by show 2 ≤ sizeLine; decide) fun p H1 np s1 e1 => ?_
          refine r_ninT (.of e1) rfl rfl ?_
          refine r_exbl (iteF ?_)
          repeat walk_at "st"
          refine r_pBook (hp.isn s1.isn) fun bk hbk => ?_
          repeat walk_at "st"
          refine r_lenB hbk l3 ?_
          repeat walk_at "st"
          refine r_btwN (by omega) ?_
          repeat walk_at "st"
          exact kk _ s1
        repeat walk_at "st"
        exact q _ s1
      · obtain ⟨da, dxs, rfl, hda, hdx⟩ := im_tup im
        cases hdx with
        | cons i1 r1 =>
        cases i1
        cases r1 with
        | cons i2 r2 =>
        cases i2
        cases r2 with
        | cons i3 r3 =>
        cases i3
        cases r3
        repeat walk_at "st"
        refine t_ifN (fun Q' kk => ?_) ?_
        · repeat walk_at "st"
          refine r_isi (.base (.tup hda)) (b := true) (by decide +kernel) ?_
          repeat walk_at "st"
          refine r_lenT (.of hda) (n := 3) rfl ?_
          repeat walk_at "st"
          refine ite_ndec (fun z => absurd rfl z) fun _ => ?_
          repeat walk_at "st"
          refine r_ixT (.of hda) rfl ?_
          repeat walk_at "st"
          refine r_isi (.base (.str _)) (b := true) (by decide +kernel) ?_
          repeat walk_at "st"
          exact kk
        repeat walk_at "st"
        refine r_gTup (.of hda) rfl ?_
        repeat walk_at "st"
        refine t_ifNS (fun Q' kk => ?_) fun H1 s1 => ?_
        · repeat walk_at "st"
          refine r_newT (by show 2 ≤ sizeLine; decide) fun p H1 np s1 e1 => ?_
          refine r_ninT (.of e1) rfl rfl ?_
          refine r_exbl (iteF ?_)
          repeat walk_at "st"
          refine r_pBook (hp.isn s1.isn) fun bk hbk => ?_
          repeat walk_at "st"
          refine r_lenB hbk l3 ?_
          repeat walk_at "st"
          refine r_btw (by omega) (by omega) ?_
          repeat walk_at "st"
          exact kk _ s1
        repeat walk_at "st"
        refine t_ifY (fun Q' kk => ?_) ?_
        · repeat walk_at "st"
          exact q_decT rfl kk
        repeat walk_at "st"
        refine r_pBook (hp.isn s1.isn) fun bk hbk => ?_
        refine r_bBase hbk ?_
        repeat walk_at "st"
        exact r_btwB (q _ s1)
      · cases im
        repeat walk_at "st"
        refine t_ifY (fun Q' kk => ?_) ?_
        · repeat walk_at "st"
          refine r_isi (.base .non) (b := false) (by decide +kernel) ?_
          repeat walk_at "st"
          exact kk
        repeat walk_at "st"
        exact q _ fun _ _ e => e
      · obtain ⟨da, dxs, rfl, hda, hdx⟩ := im_tup im
        cases hdx with
        | cons i1 r1 =>
        cases i1
        cases r1 with
        | cons i2 r2 =>
        cases i2
        cases r2 with
        | cons i3 r3 =>
        cases i3
        cases r3
        repeat walk_at "st"
        refine t_ifN (fun Q' kk => ?_) ?_
        · repeat walk_at "st"
          refine r_isi (.base (.tup hda)) (b := true) (by decide +kernel) ?_
          repeat walk_at "st"
          refine r_lenT (.of hda) (n := 3) rfl ?_
          repeat walk_at "st"
          refine ite_ndec (fun z => absurd rfl z) fun _ => ?_
          repeat walk_at "st"
          refine r_ixT (.of hda) rfl ?_
          repeat walk_at "st"
          refine r_isi (.base (.str _)) (b := true) (by decide +kernel) ?_
          repeat walk_at "st"
          exact kk
        repeat walk_at "st"
        refine r_gTup (.of hda) rfl ?_
        repeat walk_at "st"
        refine t_ifYS (fun Q' kk => ?_) fun H1 s1 => ?_
        · repeat walk_at "st"
          refine r_newT (by show 2 ≤ sizeLine; decide) fun p H1 np s1 e1 => ?_
          refine r_ninT (.of e1) rfl rfl ?_
          refine r_exbl (iteT ?_)
          exact kk _ s1
        repeat walk_at "st"
        exact q _ s1
      · obtain ⟨da, dxs, rfl, hda, hdx⟩ := im_tup im
        repeat walk_at "st"
        refine t_ifY (fun Q' kk => ?_) ?_
        · repeat walk_at "st"
          refine r_isi (.base (.tup hda)) (b := true) (by decide +kernel) ?_
          repeat walk_at "st"
          refine r_lenT (.of hda) (n := 2) hdx.length ?_
          repeat walk_at "st"
          refine ite_ndec (fun _ => ?_) fun z => absurd z (by decide)
          exact kk
        repeat walk_at "st"
        exact q _ fun _ _ e => e
      · cases im
        repeat walk_at "st"
        refine t_ifY (fun Q' kk => ?_) ?_
        · repeat walk_at "st"
          refine r_isi (.base (.int _)) (b := false) (by decide +kernel) ?_
          repeat walk_at "st"
          exact kk
        repeat walk_at "st"
        exact q _ fun _ _ e => e
    · repeat walk_at "st"
      refine t_ifY (fun Q' kk => ?_) ?_
      · repeat walk_at "st"
        refine r_isi (.base (.lst ha)) (b := false) (by decide +kernel) ?_
        repeat walk_at "st"
        exact kk
      repeat walk_at "st"
      exact q _ fun _ _ e => e
end
end K5
end

section
set_option maxHeartbeats 4000000
/-! LA: after_deed, first_scene, scene_after. -/
namespace K5
open PySem PySem.Spec L2 NdefX LamX
open PyProof.Rows hiding St
local macro_rules | `(tactic| walk_at "lf") => `(tactic| first
  | assumption
  | (refine Same.im (by assumption) ?_; walk_at "lf")
  | (refine Same.ims (by assumption) ?_; walk_at "lf")
  | (refine Same.at (by assumption) ?_; walk_at "lf")
  | (refine Same.sqT (by assumption) ?_; walk_at "lf")
  | (refine Same.seq (by assumption) ?_; walk_at "lf")
  | exact SqL.of (by walk_at "lf")
  | exact SqT.of (by walk_at "lf"))
local macro_rules | `(tactic| walk_at "st") => `(tactic| first
  | ((with_reducible refine r_var (v := ?vv) ?rv ?_); (case rv => exact rfl))
  | with_reducible first
    | refine r_seq ?_
    | refine r_asg ?_
    | refine r_gName ?_
    | refine r_c ?_
    | refine r_op ?_
    | refine r_I0 ?_
    | refine r_exbl ?_
    | refine r_cb ?_
    | refine r_nil ?_
    | refine r_cons ?_
    | refine r_test ?_
    | refine r_tB ?_
    | refine r_and ?_
    | refine r_or ?_
    | refine r_not ?_
    | refine r_if ?_
    | refine r_ret ?_
    | refine r_next ?_
    | refine r_tup ?_
    | refine r_lst ?_
    | refine r_int ?_
    | refine r_exint ?_
    | refine r_sl ?_
    | refine r_part ?_
    | refine r_nopart ?_
    | refine r_par ?_
    | refine r_ex2 ?_
    | refine r_call ?_
    | refine r_un ?_
    | refine r_U ?_
    | refine r_andV ?_
    | refine r_orV ?_
    | refine r_notV ?_
    | refine r_chain ?_
    | refine r_isN ?_
    | refine r_notN ?_
    | refine r_drop ?_
    | refine r_I (by decide) ?_
    | refine r_EqI ?_
    | refine r_NeI ?_
    | refine r_EqS ?_
    | refine r_NeS ?_
    | refine r_gSub ?_
    | refine r_gCons ?_
    | refine r_gNil ?_
    | refine r_dget ?_
    | refine r_pcons ?_
    | refine r_pnil ?_
    | refine iteT ?_
    | refine iteF ?_
    | refine iteNF ?_
    | refine iteNT ?_
    | refine r_prop ?_
    | refine r_dget2 ?_
    | refine r_din ?_
    | refine r_dput ?_
    | refine r_mk ?_
    | refine r_propG ?_
    | refine r_mtd ?_
    | refine r_bm ?_
    | refine r_si ?_
    | refine r_for ?_
    | refine r_lc ?_
    | refine r_iT ?_
    | refine r_iL ?_
    | refine r_enT ?_
    | refine r_zip ?_
    | refine r_zs ?_
    | refine r_iR1 ?_
    | refine r_yes ?_
    | refine r_fld ?_
    | refine r_star1 ?_
    | refine r_ctE ?_
    | refine r_div (by decide) (by decide) ?_
    | refine r_mulL (by decide) (by decide) ?_
    | refine r_mulR (by decide) (by decide) ?_)
local macro_rules | `(tactic| walk_at "tq") => `(tactic| ((repeat walk_at "st"); first
  | assumption
  | (refine q_decT (by omega) (by assumption))
  | (refine q_decF (by omega) (by assumption))
  | (refine q_nT (by omega) (by assumption))
  | (refine q_nF (by omega) (by assumption))
  | (refine ite_dec (fun _ => ?_) (fun _ => ?_) <;> first | (exfalso; omega) | walk_at "tq")
  | (refine ite_ndec (fun _ => ?_) (fun _ => ?_) <;> first | (exfalso; omega) | walk_at "tq")))
theorem tup_at {H : Hp} {a : Addr} {xs : List V} {d : PyData} {ds : List PyData} (h : Im H (.ref a) (.tuple ds)) (e : H a = some (.tup xs)) : ImAll H xs ds := by
  cases h with
  | tup ha hx =>
    rw [e] at ha
    cases ha
    exact hx
/-! ### a pair among a rule's -/
theorem canLay_encP : ∀ rl : List (Nat × Nat), PyData.canLayAll0 (rl.map encP) = true
  | [] => by simp only [List.map_nil, PyData.canLayAll0]
  | p :: r => by simp only [List.map_cons, PyData.canLayAll0, encP, nD, PyData.canLay0, canLay_encP r, Bool.and_self]
theorem depth_encP : ∀ rl : List (Nat × Nat), PyData.depthAll (rl.map encP) ≤ 1
  | [] => by simp only [List.map_nil, PyData.depthAll]; omega
  | p :: r => by
    have := depth_encP r
    simp only [List.map_cons, PyData.depthAll, encP, nD, PyData.depth]
    omega
theorem shaped_encR (rl : List (Nat × Nat)) : SeqAt.shaped (encR rl) = true := by
  have h := depth_encP rl
  unfold SeqAt.shaped encR
  simp only [PyData.canLay0, canLay_encP, PyData.depth, Bool.true_and]
  exact decide_eq_true (by omega)
theorem shaped_encP (p : Nat × Nat) : SeqAt.shaped (encP p) = true := by
  unfold SeqAt.shaped encP nD
  simp only [PyData.canLay0, PyData.canLayAll0, PyData.depth, PyData.depthAll]
  rfl
theorem eqv_encP (p q : Nat × Nat) : PyData.eqv (encP p) (encP q) = decide (p = q) := by
  obtain ⟨a, b⟩ := p
  obtain ⟨c, d⟩ := q
  unfold encP nD
  simp only [PyData.eqv, PyData.eqvAll, Bool.and_true, Prod.mk.injEq]
  have e1 : ((a : Int) == (c : Int)) = decide (a = c) := by
    rw [Bool.eq_iff_iff, beq_iff_eq, decide_eq_true_iff]
    omega
  have e2 : ((b : Int) == (d : Int)) = decide (b = d) := by
    rw [Bool.eq_iff_iff, beq_iff_eq, decide_eq_true_iff]
    omega
  rw [e1, e2, Bool.decide_and]
theorem any_encP (p : Nat × Nat) : ∀ rl : List (Nat × Nat), ((rl.map encP).any fun z => PyData.eqv z (encP p)) = decide (p ∈ rl)
  | [] => by simp
  | q :: r => by
    rw [List.map_cons, List.any_cons, any_encP p r, eqv_encP, ← Bool.decide_or]
    refine decide_eq_decide.mpr ?_
    rw [List.mem_cons]
    exact ⟨fun z => z.elim (fun z => .inl z.symm) .inr, fun z => z.elim (fun z => .inl z.symm) .inr⟩
section
variable {P : Program} {w : World} {K : PySem.W.Frag} {mg : Str → Option Value} {base : Heap} {T : List NTab} {CP CB CF : Addr}
theorem ok_after (D : Df K mg "after_deed" (top 60)) (B : Bf mg) (Kc : Kcl P w K mg base CP CB CF) (cCalled : Cal P w K mg base "called" 26 ["plan", "setting", "scene", "function", "number"] (spCalled T CP CB CF 3)) :
    Cal P w K mg base "after_deed" 27 ["plan", "setting", "rule", "scene", "deed"] (spAfter T CP CB CF) := by
  have pBook := Kc.pBook
  have pBase := Kc.bBase
  have clP := Kc.clP
  have clB := Kc.clB
  refine D.cal (N := ["plan", "setting", "rule", "scene", "deed", "word", "one", "other", "found", "memory", "wording", "empty", "k", "row"]) (ps := ["plan", "setting", "rule", "scene", "deed"]) scAfter (fun _ _ _ _ _ _ us hl => match us, hl with | [_, _, _, _, _], _ => rfl) (fun vs H Q E h => ?_) fun f cdv A outer s H vs Q E hr h => ?_
  · obtain ⟨_, _, _, _, _, _, _, _, _, _, _, rfl, _⟩ := h
    rfl
  · obtain ⟨pl, rv, sv, dv, Bk, free, wd, M, rl, st, d, rfl, hp, bok, st0, st1, rok, hrl, wok, mok, hs, dok, hd, tabs, q⟩ := h
    refine ⟨_, (pss_cons (ps_asg (pv 4) (pg_tup rfl (pgs_cons (pg_name (i := 5) scAfter.nd rfl (by first | exact Or.inl rfl | exact Or.inr rfl)) (pgs_cons (pg_name (i := 6) scAfter.nd rfl (by first | exact Or.inl rfl | exact Or.inr rfl)) (pgs_cons (pg_name (i := 7) scAfter.nd rfl (by first | exact Or.inl rfl | exact Or.inr rfl)) pgs_nil)))))
      (pss_cons (ps_if (pt_cmpR op_eq (pv 5) pe_str (nomark _))
        (pss_cons (ps_asg (pe_cal cCalled hr (by omega) (pa_cons (pv 0) (pa_cons (pv 1) (pa_cons (pv 3) (pa_cons (pv 6) (pa_cons (pv 7) pa_nil)))))) (pg_tup rfl (pgs_cons (pg_name (i := 8) scAfter.nd rfl (by first | exact Or.inl rfl | exact Or.inr rfl)) (pgs_cons (pg_name (i := 9) scAfter.nd rfl (by first | exact Or.inl rfl | exact Or.inr rfl)) pgs_nil))))
        (pss_one (ps_ret (pe_tup (pa_cons (pe_tup (pa_cons (pe_ix ix_tup (pv 3) pe_int (fun _ _ => rfl)) (pa_cons (pv 9) pa_nil))) (pa_cons (pv 8) pa_nil))))))
        pss_nil)
      (pss_cons (ps_asg (pe_tup (pa_cons (pe_tup (StX.pa_star (pe_slice sl_tupA (pe_ix ix_tup (pv 3) pe_int (fun _ _ => rfl)) po_none (po_some (pv 6))) (pa_cons (pv 7) (StX.pa_star (pe_slice sl_tupA (pe_ix ix_tup (pv 3) pe_int (fun _ _ => rfl)) (po_some (pe_op op_add (pv 6) pe_int)) po_none) pa_nil)))) (pa_cons (pe_op op_repA (pe_tup (pa_cons pe_non pa_nil)) (pe_part pBase clB hr (by omega) (pe_part pBook clP hr (by omega) (pv 0)))) pa_nil))) (pg_tup rfl (pgs_cons (pg_name (i := 10) scAfter.nd rfl (by first | exact Or.inl rfl | exact Or.inr rfl)) (pgs_cons (pg_name (i := 11) scAfter.nd rfl (by first | exact Or.inl rfl | exact Or.inr rfl)) pgs_nil))))
      (pss_cons (ps_set (i := 9) scAfter.nd rfl (by first | exact Or.inl rfl | exact Or.inr rfl) (pe_callTy c_tup (by rfl) (B _ (by decide)) b_tuple (pa_cons (pe_lc (own := [("k", 12), ("row", 13)]) (g := (gTup _ 2 (gCons (gName 12) (gCons (gName 13) gNil)))) (tt := tYes) rfl scAfter.nd (pi_enumT (by rfl) (B _ (by decide)) (pa_cons (pe_ix ix_tup (pv 3) pe_int (fun _ _ => rfl)) pa_nil)) (blkOk_by (own := [("k", 12), ("row", 13)]) (N := ["plan", "setting", "rule", "scene", "deed", "word", "one", "other", "found", "memory", "wording", "empty", "k", "row"]) (sc := defScope (top 60)) (by decide +kernel)) (fun _ _ _ _ _ => (pg_tup rfl (pgs_cons (pg_name (i := 12) scAfter.nd rfl (by first | exact Or.inl rfl | exact Or.inr rfl)) (pgs_cons (pg_name (i := 13) scAfter.nd rfl (by first | exact Or.inl rfl | exact Or.inr rfl)) pgs_nil)))) (fun _ _ _ _ _ => pts_nil) (fun _ _ _ _ _ => (pe_ifExp (pt_cmpR (op_inTDK (K := K) rfl (u65 hr)) (pe_tup (pa_cons (pv 6) (pa_cons (pv 12) pa_nil))) (pv 2) (by with_unfolding_all rfl)) (pv 11) (pv 13)))) pa_nil)))
      (pss_one (ps_ret (pe_tup (pa_cons (pe_tup (pa_cons (pv 10) (pa_cons (pv 9) pa_nil))) (pa_cons pe_non pa_nil))))))))), ?_⟩
    have l3 := bok.fns.len3
    have b3 := bok.fns.base3
    have b2 := bok.fns.base2
    have sB := bok.setB
    obtain ⟨sa, sxs, rfl, hsa, hsx⟩ := im_tup hs
    cases hsx with
    | cons i1 r1 =>
    cases r1 with
    | cons i2 r2 =>
    cases r2
    obtain ⟨da, dxs, rfl, hda, hdx⟩ : ∃ a xs, dv = .ref a ∧ H a = some (.tup xs) ∧ xs = (match d with | .ask k g => [V.str "ask", .int (k : Int), .int g] | .put k b => [V.str "put", .int (k : Int), .int (b : Int)]) := by
      cases d with
      | ask k g =>
        obtain ⟨da, dxs, rfl, hda, hdx⟩ := im_tup hd
        cases hdx with
        | cons j1 r1 =>
        cases j1
        cases r1 with
        | cons j2 r2 =>
        cases j2
        cases r2 with
        | cons j3 r3 =>
        cases j3
        cases r3
        exact ⟨_, _, rfl, hda, rfl⟩
      | put k b =>
        obtain ⟨da, dxs, rfl, hda, hdx⟩ := im_tup hd
        cases hdx with
        | cons j1 r1 =>
        cases j1
        cases r1 with
        | cons j2 r2 =>
        cases j2
        cases r2 with
        | cons j3 r3 =>
        cases j3
        cases r3
        exact ⟨_, _, rfl, hda, rfl⟩
    subst hdx
    cases d with
    | ask k g =>
      obtain ⟨k1, g0, g1⟩ := dok
      repeat walk_at "st"
      refine r_gTup (.of hda) rfl ?_
      repeat walk_at "st"
      refine t_ifY (fun Q' kk => ?_) ?_
      · repeat walk_at "st"
        exact q_decT rfl kk
      repeat walk_at "st"
      refine r_called hp bok wok st0 (by omega) hsa i1 i2 mok (by omega) k1 g0 g1 tabs rfl fun p2 mv' H2 x2 t2 e2 im2 => ?_
      refine r_gTup (.of e2) rfl ?_
      repeat walk_at "st"
      have hsa2 := x2 _ _ hsa fun ps e => by cases e
      refine r_ixT (.of hsa2) rfl ?_
      repeat walk_at "st"
      refine r_newT (by show 2 ≤ sizeLine; decide) fun p3 H3 np3 s3 e3 => ?_
      repeat walk_at "st"
      refine r_newT (by show 2 ≤ sizeLine; decide) fun p4 H4 np4 s4 e4 => ?_
      have s34 := s3.trans s4
      refine q p4 H4 (fun b o h n => s34 _ _ (x2 b o h n)) (t2.ext s34) (.tup e4 (.cons (.tup (s4.at e3) (.cons (s34.im (x2.isn.im i1)) (.cons (s34.im im2) .nil))) (.cons (.int _) .nil)))
    | put k b =>
      obtain ⟨k1, kf, bl⟩ := dok
      repeat walk_at "st"
      refine r_gTup (.of hda) rfl ?_
      repeat walk_at "st"
      refine t_ifN (fun Q' kk => ?_) ?_
      · repeat walk_at "st"
        exact q_decF (by decide) kk
      repeat walk_at "st"
      obtain ⟨wa, wxs, rfl, hwa, hwx⟩ := im_tup i1
      obtain ⟨ma, mxs, rfl, hma, hmx⟩ := im_tup i2
      have wl : wxs.length = Bk.fns.length := by rw [hwx.length, List.length_map, wok.len]
      have ml : mxs.length = Bk.fns.length := by rw [hmx.length, List.length_map, mok.len]
      refine r_ixT (.of hsa) rfl ?_
      repeat walk_at "st"
      refine r_slT hwa fun p1 H1 s1 e1 => ?_
      repeat walk_at "st"
      refine r_starT e1 ?_
      repeat walk_at "st"
      refine r_ixT (.of (s1.at hsa)) rfl ?_
      repeat walk_at "st"
      refine r_slT (s1.at hwa) fun p2 H2 s2 e2 => ?_
      repeat walk_at "st"
      refine r_starT e2 ?_
      repeat walk_at "st"
      rw [cut_take _ (k : Int) k rfl, cut_drop _ ((k : Int) + 1) (k + 1) rfl]
      refine r_newT (by
        rw [List.length_append, List.length_cons, List.length_append, List.length_take, List.length_drop, List.length_nil]
        have hsz : 8 ≤ sizeLine := by decide
        omega) fun p3 H3 np3 s3 e3 => ?_
      have s13 := (s1.trans s2).trans s3
      repeat walk_at "st"
      refine r_newT (by show 1 ≤ sizeLine; decide) fun p4 H4 np4 s4 e4 => ?_
      repeat walk_at "st"
      refine r_pBook (hp.isn (s13.trans s4).isn) fun bk hbk => ?_
      refine r_bBase hbk ?_
      refine r_rep1 Bk.base e4 (by omega) (by omega) rfl fun p5 H5 s5 e5 => ?_
      have iE : Im H5 (.ref p5) (encRow (List.replicate Bk.base none)) := by
        rw [encRow_rep]
        exact .tup e5 (imAll_rep .non _)
      repeat walk_at "st"
      refine r_newT (by show 2 ≤ sizeLine; decide) fun p6 H6 np6 s6 e6 => ?_
      refine r_gTup (.of e6) rfl ?_
      have s16 := ((s13.trans s4).trans s5).trans s6
      repeat walk_at "st"
      refine r_ixT (.of (s16.at hsa)) rfl ?_
      have hma6 := s16.at hma
      refine ⟨ma, mxs, rfl, .of hma6, fun D nD => ?_⟩
      refine lc_w (walk_en (xs := mxs)) nD (fun i acc H' => ImAll H' acc (((forget rl Bk.base k M).map encRow).take i)) (fun i acc Ha Hb n z => n.ims z) (by omega) (fun H' s => .of (s.at hma6)) .nil (fun i x acc Ha Hb Kt Kf hi sa ia y kt _ => ?_) fun acc H7 s7 e7 al i7 => ?_
      · obtain ⟨Tp, a, r, rfl, sb, eT, ea, eb⟩ := ypair y
        cases ea
        obtain ⟨d, hd, ir⟩ := hmx.get' eb
        rw [List.getElem?_map] at hd
        obtain ⟨rr, hrr, rfl⟩ := Option.map_eq_some_iff.mp hd
        have nx : ((forget rl Bk.base k M).map encRow).take (i + 1) = ((forget rl Bk.base k M).map encRow).take i ++ [encRow (if (k, i) ∈ rl then List.replicate Bk.base none else rr)] := by
          rw [List.take_succ, List.getElem?_map]
          unfold forget
          rw [List.getElem?_mapIdx, hrr]
          rfl
        have s1b := (s16.trans sa).trans sb
        refine r_gTup (.of eT) rfl ?_
        repeat walk_at "st"
        refine ⟨rfl, ?_⟩
        repeat walk_at "st"
        refine r_newT (by show 2 ≤ sizeLine; decide) fun p8 H8 np8 s8 e8 => ?_
        have s18 := s1b.trans s8
        repeat walk_at "st"
        refine r_inTD (d := encP (k, i)) (.tup e8 (.cons (.int _) (.cons (.int _) .nil))) (s18.im hrl) (shaped_encP _) (shaped_encR rl) ?_
        rw [any_encP]
        repeat walk_at "st"
        have sa8 := sb.trans s8
        refine ite_dec (fun z => ?_) fun z => ?_
        · repeat walk_at "st"
          rw [if_pos z] at nx
          refine kt _ _ sa8 ?_
          rw [nx]
          exact (sa8.ims ia).app (.cons (((s6.trans sa).trans sa8).im iE) .nil)
        · repeat walk_at "st"
          rw [if_neg z] at nx
          refine kt _ _ sa8 ?_
          rw [nx]
          exact (sa8.ims ia).app (.cons (s18.im ir) .nil)
      · repeat walk_at "st"
        refine r_tupL (.of e7) fun p8 H8 np8 s8 e8 => ?_
        repeat walk_at "st"
        refine r_newT (by show 2 ≤ sizeLine; decide) fun p9 H9 np9 s9 e9 => ?_
        repeat walk_at "st"
        refine r_newT (by show 2 ≤ sizeLine; decide) fun pz Hz npz sz ez => ?_
        have s7z := (s8.trans s9).trans sz
        have s6z := s7.trans s7z
        have sH := s16.trans s6z
        have ml2 : ((forget rl Bk.base k M).map encRow).take mxs.length = (forget rl Bk.base k M).map encRow := List.take_of_length_le (by
          rw [List.length_map]
          unfold forget
          rw [List.length_mapIdx, mok.len]
          omega)
        rw [ml2] at i7
        have iw : Im Hz (.ref p3) (encW (wd.set k b)) := by
          unfold encW
          rw [List.set_eq_take_append_cons_drop, if_pos (by rw [wok.len]; exact k1), List.map_append, List.map_cons, List.map_take, List.map_drop]
          refine .tup (((s4.trans s5).trans s6).trans s6z |>.at e3) ((sH.ims (hwx.take _)).app (.cons (.int _) ?_))
          rw [List.append_nil]
          exact sH.ims (hwx.drop _)
        refine q pz Hz (fun b o h _ => sH _ _ h) (tabs.ext sH) (.tup ez (.cons (.tup (sz.at e9) (.cons iw (.cons (.tup ((s9.trans sz).at e8) (s7z.ims i7)) .nil))) (.cons .non .nil)))
theorem ok_fscene (D : Df K mg "first_scene" (top 61)) (cChkP : Cal P w K mg base "check_plan" 1 ["plan"] (spChkP CP)) (cFirst : Cal P w K mg base "first_of_scenes" 5 ["plan"] (spFirst CP CB CF)) :
    Cal P w K mg base "first_scene" 6 ["plan"] (spFirst CP CB CF) := by
  refine D.cal (N := ["plan"]) (ps := ["plan"]) scFscene (fun _ _ _ _ _ _ us hl => match us, hl with | [_], _ => rfl) (fun vs H Q E h => ?_) fun f cdv A outer s H vs Q E hr h => ?_
  · obtain ⟨_, _, _, rfl, _⟩ := h
    rfl
  · obtain ⟨pl, Bk, free, rfl, hp, bok, q⟩ := h
    obtain ⟨pa, dx, fs, rfl, hpa⟩ := hp.ins
    refine ⟨_, (pss_cons (ps_expr (pe_cal cChkP hr (by omega) (pa_cons (pv 0) pa_nil)))
      (pss_one (ps_ret (pe_cal cFirst hr (by omega) (pa_cons (pv 0) pa_nil))))), ?_⟩
    repeat walk_at "st"
    refine ⟨pa, dx, fs, rfl, hpa, ?_⟩
    repeat walk_at "st"
    exact ⟨_, Bk, free, rfl, hp, bok, q⟩
theorem ok_safter (D : Df K mg "scene_after" (top 62)) (cChkR : Cal P w K mg base "check_rule" 6 ["plan", "setting", "rule"] (spChkR CP CB CF)) (cIsSc : Cal P w K mg base "is_scene" 9 ["plan", "thing"] (spIsSc CP CB CF))
    (cIsDeed : Cal P w K mg base "is_scene_deed" 8 ["plan", "thing"] (spIsDeed CP CB CF)) (cAfter : Cal P w K mg base "after_deed" 27 ["plan", "setting", "rule", "scene", "deed"] (spAfter T CP CB CF)) : Cal P w K mg base "scene_after" 28 ["plan", "setting", "rule", "scene", "deed"] (spAfter T CP CB CF) := by
  refine D.cal (N := ["plan", "setting", "rule", "scene", "deed"]) (ps := ["plan", "setting", "rule", "scene", "deed"]) scSafter (fun _ _ _ _ _ _ us hl => match us, hl with | [_, _, _, _, _], _ => rfl) (fun vs H Q E h => ?_) fun f cdv A outer s H vs Q E hr h => ?_
  · obtain ⟨_, _, _, _, _, _, _, _, _, _, _, rfl, _⟩ := h
    rfl
  · obtain ⟨pl, rv, sv, dv, Bk, free, wd, M, rl, st, d, rfl, hp, bok, st0, st1, rok, hrl, wok, mok, hs, dok, hd, tabs, q⟩ := h
    refine ⟨_, (pss_cons (ps_expr (pe_cal cChkR hr (by omega) (pa_cons (pv 0) (pa_cons (pv 1) (pa_cons (pv 2) pa_nil)))))
      (pss_cons (ps_if (pt_not (pt_val (pe_cal cIsSc hr (by omega) (pa_cons (pv 0) (pa_cons (pv 3) pa_nil)))))
        (pss_one ps_never)
        pss_nil)
      (pss_cons (ps_if (pt_not (pt_val (pe_cal cIsDeed hr (by omega) (pa_cons (pv 0) (pa_cons (pv 4) pa_nil)))))
        (pss_one ps_never)
        pss_nil)
      (pss_one (ps_ret (pe_cal cAfter hr (by omega) (pa_cons (pv 0) (pa_cons (pv 1) (pa_cons (pv 2) (pa_cons (pv 3) (pa_cons (pv 4) pa_nil))))))))))), ?_⟩
    repeat walk_at "st"
    refine ⟨pl, rv, Bk, free, rl, st, rfl, hp, bok, st0, st1, rok, hrl, fun H1 s1 => ?_⟩
    repeat walk_at "st"
    dsimp only
    refine t_ifNS (fun Q' kk => ?_) fun H2 s2 => ?_
    · repeat walk_at "st"
      exact ⟨pl, sv, Bk, free, wd, M, rfl, hp.isn s1.isn, bok, wok, mok, s1.im hs, fun H' s => r_exbl (kk _ s)⟩
    repeat walk_at "st"
    have s02 := s1.trans s2
    refine t_ifNS (fun Q' kk => ?_) fun H3 s3 => ?_
    · repeat walk_at "st"
      exact ⟨pl, dv, Bk, free, true, rfl, hp.isn s02.isn, bok, .inl ⟨d, dok, s02.im hd, rfl⟩, fun H' s => r_exbl (kk _ s)⟩
    repeat walk_at "st"
    have s03 := s02.trans s3
    exact ⟨pl, rv, sv, dv, Bk, free, wd, M, rl, st, d, rfl, hp.isn s03.isn, bok, st0, st1, rok, s03.im hrl, wok, mok, s03.im hs, dok, s03.im hd, tabs.ext s03, fun p H' x t i => q p H' (fun b o h n => x b o (s03 b o h) n) t i⟩
end
end K5
end

section
set_option maxHeartbeats 4000000
/-! LB: forms: count_in, trees_in. -/
namespace K5
open PySem PySem.Spec L2
open PyProof.Rows hiding St
theorem r_zs {K : PySem.W.Frag} {σ : L2.St} {H : Hp} {ta : TA} {R : It → Hp → Prop} (q : ta σ H fun vs H1 => ∃ z a xs, vs = [.str z, .ref a] ∧ SqT K H1 a xs ∧ R (ItZs K z a) H1) : iZs K ta σ H R := q
local macro_rules | `(tactic| walk_at "lf") => `(tactic| first
  | assumption
  | (refine Same.im (by assumption) ?_; walk_at "lf")
  | (refine Same.ims (by assumption) ?_; walk_at "lf")
  | (refine Same.at (by assumption) ?_; walk_at "lf")
  | (refine Same.sqT (by assumption) ?_; walk_at "lf")
  | (refine Same.seq (by assumption) ?_; walk_at "lf")
  | exact SqL.of (by walk_at "lf")
  | exact SqT.of (by walk_at "lf"))
local macro_rules | `(tactic| walk_at "st") => `(tactic| first
  | ((with_reducible refine r_var (v := ?vv) ?rv ?_); (case rv => exact rfl))
  | with_reducible first
    | refine r_seq ?_
    | refine r_asg ?_
    | refine r_gName ?_
    | refine r_c ?_
    | refine r_op ?_
    | refine r_I0 ?_
    | refine r_exbl ?_
    | refine r_cb ?_
    | refine r_nil ?_
    | refine r_cons ?_
    | refine r_test ?_
    | refine r_tB ?_
    | refine r_and ?_
    | refine r_or ?_
    | refine r_not ?_
    | refine r_if ?_
    | refine r_ret ?_
    | refine r_next ?_
    | refine r_tup ?_
    | refine r_lst ?_
    | refine r_int ?_
    | refine r_exint ?_
    | refine r_sl ?_
    | refine r_part ?_
    | refine r_nopart ?_
    | refine r_par ?_
    | refine r_ex2 ?_
    | refine r_call ?_
    | refine r_un ?_
    | refine r_U ?_
    | refine r_andV ?_
    | refine r_orV ?_
    | refine r_notV ?_
    | refine r_chain ?_
    | refine r_isN ?_
    | refine r_notN ?_
    | refine r_drop ?_
    | refine r_I (by decide) ?_
    | refine r_EqI ?_
    | refine r_NeI ?_
    | refine r_EqS ?_
    | refine r_NeS ?_
    | refine r_gSub ?_
    | refine r_gCons ?_
    | refine r_gNil ?_
    | refine r_dget ?_
    | refine r_pcons ?_
    | refine r_pnil ?_
    | refine iteT ?_
    | refine iteF ?_
    | refine iteNF ?_
    | refine iteNT ?_
    | refine r_prop ?_
    | refine r_dget2 ?_
    | refine r_din ?_
    | refine r_dput ?_
    | refine r_mk ?_
    | refine r_propG ?_
    | refine r_mtd ?_
    | refine r_bm ?_
    | refine r_si ?_
    | refine r_for ?_
    | refine r_lc ?_
    | refine r_iT ?_
    | refine r_iL ?_
    | refine r_enT ?_
    | refine r_zip ?_
    | refine r_zs ?_
    | refine r_iR1 ?_
    | refine r_yes ?_
    | refine r_fld ?_
    | refine r_star1 ?_
    | refine r_ctE ?_
    | refine r_div (by decide) (by decide) ?_
    | refine r_mulL (by decide) (by decide) ?_
    | refine r_mulR (by decide) (by decide) ?_)
local macro_rules | `(tactic| walk_at "tq") => `(tactic| ((repeat walk_at "st"); first
  | assumption
  | (refine q_decT (by omega) (by assumption))
  | (refine q_decF (by omega) (by assumption))
  | (refine q_nT (by omega) (by assumption))
  | (refine q_nF (by omega) (by assumption))
  | (refine ite_dec (fun _ => ?_) (fun _ => ?_) <;> first | (exfalso; omega) | walk_at "tq")
  | (refine ite_ndec (fun _ => ?_) (fun _ => ?_) <;> first | (exfalso; omega) | walk_at "tq")))
/-! ### a tree's parts -/
inductive Pt where
  | sub (t : Tr) | n (x : Int) | c (x : Int)
def pts : Tr → List Pt
  | .num x => [.n x]
  | .given => []
  | .setting => []
  | .col x => [.c x]
  | .kept x => [.c x]
  | .call k t => [.n k, .sub t]
  | .two _ a b => [.sub a, .sub b]
  | .cond a b c => [.sub a, .sub b, .sub c]
def encPt : Pt → PyData
  | .sub t => enc t
  | .n x => .int x
  | .c x => .int x
def sgPt : Pt → Nat
  | .sub _ => 102
  | .n _ => 110
  | .c _ => 99
def cntP : Pt → Nat
  | .sub t => cnt t
  | _ => 0
def wfT : Tr → Prop
  | .num n => 0 ≤ n ∧ n ≤ 2
  | .given => True
  | .setting => True
  | .col c => 0 ≤ c ∧ c ≤ 1
  | .kept c => 0 ≤ c ∧ c ≤ 1
  | .call k t => k ≤ 2 ∧ wfT t
  | .two o a b => o < 4 ∧ wfT a ∧ wfT b
  | .cond a b c => wfT a ∧ wfT b ∧ wfT c
def wfP : Pt → Prop
  | .sub t => wfT t
  | .n x => 0 ≤ x ∧ x ≤ 2
  | .c x => 0 ≤ x ∧ x ≤ 1
theorem enc_pts (t : Tr) : enc t = .tuple (.str (wordOf t) :: (pts t).map encPt) := by cases t <;> rfl
theorem sg_of (t : Tr) : ∃ z, (wordOf t, z) ∈ signs ∧ z.cps.toList = (pts t).map sgPt := by
  cases t with
  | two o a b => exact ⟨"ff", (@opN_ne o).2.2.2, rfl⟩
  | num n => exact ⟨"n", by show (("number" : Str), ("n" : Str)) ∈ signs; decide, rfl⟩
  | given => exact ⟨"", by show (("given" : Str), ("" : Str)) ∈ signs; decide, rfl⟩
  | setting => exact ⟨"", by show (("setting" : Str), ("" : Str)) ∈ signs; decide, rfl⟩
  | col n => exact ⟨"c", by show (("column" : Str), ("c" : Str)) ∈ signs; decide, rfl⟩
  | kept n => exact ⟨"c", by show (("kept" : Str), ("c" : Str)) ∈ signs; decide, rfl⟩
  | call k t => exact ⟨"nf", by show (("call" : Str), ("nf" : Str)) ∈ signs; decide, rfl⟩
  | cond a b c => exact ⟨"fff", by show (("when" : Str), ("fff" : Str)) ∈ signs; decide, rfl⟩
theorem cnt_pts (t : Tr) : cnt t = 1 + ((pts t).map cntP).sum := by
  cases t <;> simp [cnt, pts, cntP] <;> omega
theorem wf_pts {t : Tr} {p : Pt} (h : wfT t) (m : p ∈ pts t) : wfP p := by
  cases t <;> simp [pts] at m <;> simp only [wfT] at h
  · subst m; exact h
  · subst m; exact h
  · subst m; exact h
  · rcases m with rfl | rfl
    · exact ⟨by omega, by omega⟩
    · exact h.2
  · rcases m with rfl | rfl
    · exact h.2.1
    · exact h.2.2
  · rcases m with rfl | rfl | rfl
    · exact h.1
    · exact h.2.1
    · exact h.2.2
theorem dep_pts {t t' : Tr} (m : .sub t' ∈ pts t) : dep t' < dep t := by
  cases t <;> simp [pts] at m <;> simp only [dep]
  · subst m; omega
  · rcases m with rfl | rfl <;> omega
  · rcases m with rfl | rfl | rfl <;> omega
theorem cnt_pos : ∀ t : Tr, 1 ≤ cnt t := fun t => by rw [cnt_pts]; omega
theorem sum_take {l : List Nat} {i x : Nat} (e : l[i]? = some x) : (l.take (i + 1)).sum = (l.take i).sum + x := by
  rw [List.take_succ, e, List.sum_append]
  simp
theorem sum_take_le (l : List Nat) (i : Nat) : (l.take i).sum ≤ l.sum := by
  have e := congrArg List.sum (List.take_append_drop i l)
  rw [List.sum_append] at e
  omega
theorem canLay_enc : ∀ t : Tr, PyData.canLay0 (enc t) = true := by
  intro t
  induction t <;> simp_all [enc, PyData.canLay0, PyData.canLayAll0] <;> first | decide +kernel | (unfold opN; split <;> decide +kernel)
theorem depth_enc : ∀ t : Tr, PyData.depth (enc t) ≤ dep t + 1 := by
  intro t
  induction t <;> simp_all [enc, PyData.depth, PyData.depthAll, dep] <;> omega
theorem shaped_enc {t : Tr} (h : dep t ≤ 60) : SeqAt.shaped (enc t) = true := by
  have := depth_enc t
  unfold SeqAt.shaped
  rw [canLay_enc, Bool.true_and]
  exact decide_eq_true (by omega)
theorem eqv_encN (t : Tr) : PyData.eqv (enc t) (.tuple []) = false := by
  rw [enc_pts]
  simp [PyData.eqv, PyData.eqvAll]
/-! ### x not in SIGNS -/
def KD (K : PySem.W.Frag) (w : World) (d : Addr) : Prop := ∃ es n, KDict K w d es n
def rNinKD (K : PySem.W.Frag) (w : World) (d : Addr) : R2 := fun x y H Q => ∃ z v, x = .str z ∧ y = .ref d ∧ KDct K w d z v ∧ Q (.bl false) H
theorem op_ninKD {X : Cx} {d : Addr} (D : KD X.K X.w d) : OpR X (compareOp .NotIn) (rNinKD X.K X.w d) := by
  intro pins s σ H x y v u Q I rx ry h
  obtain ⟨z, v', rfl, rfl, ⟨es, n, u', _, _, e, _⟩, q⟩ := h
  obtain ⟨es', n', D'⟩ := D
  exact op_notIn_kd D' pins s σ H _ _ _ _ Q I rx ry ⟨z, _, rfl, rfl, e, q⟩
/-! ### the text -/
theorem scCount : FnScope ["tree", "room", "word", "found", "sign", "part", "size"] ["tree", "room"] (defScope (top 22)) := ⟨rfl, rfl, rfl, by decide +kernel, rfl, by decide +kernel, by decide +kernel⟩
theorem scTrees : FnScope ["tree", "found", "part"] ["tree"] (defScope (top 23)) := ⟨rfl, rfl, rfl, by decide +kernel, rfl, by decide +kernel, by decide +kernel⟩
def spCount (d : Nat) : Sp := fun vs H Q _ => ∃ (tv : V) (t : Tr) (room : Int), vs = [tv, .int room] ∧ Im H tv (enc t) ∧ wfT t ∧ (cnt t : Int) ≤ room ∧ dep t < d ∧ ∀ H', Same H H' → Q (.int (cnt t)) H'
abbrev mosts : List (Str × V) := [("n", .int 2), ("c", .int 1)]
section
variable {P : Program} {w : World} {K : PySem.W.Frag} {mg : Str → Option Value} {base : Heap} {T : List NTab} {CP CB CF : Addr}
theorem count_step {l d : Nat} {dS dM : Addr} (D : Df K mg "count_in" (top 22)) (B : Bf mg) (gSg : mg "SIGNS" = some (.ref dS)) (sg : SgAt K w dS (signs.map fun q => (q.1, V.str q.2))) (dSg : KD K w dS) (gMo : mg "MOST" = some (.ref dM)) (mo : SgAt K w dM mosts) (hd60 : d ≤ 60)
    (cBtw : Cal P w K mg base "is_between" 1 ["thing", "low", "high"] spBtw) (hl : 1 ≤ l) (cCount : Cal P w K mg base "count_in" l ["tree", "room"] (spCount d)) : Cal P w K mg base "count_in" (l + 1) ["tree", "room"] (spCount (d + 1)) := by
  refine D.cal (N := ["tree", "room", "word", "found", "sign", "part", "size"]) (ps := ["tree", "room"]) scCount (fun _ _ _ _ _ _ us hl => match us, hl with | [_, _], _ => rfl) (fun vs H Q E h => ?_) fun f cdv A outer s H vs Q E hr h => ?_
  · obtain ⟨_, _, _, rfl, _⟩ := h
    rfl
  · obtain ⟨tv, t, room, rfl, im, wf, hc, hd, q⟩ := h
    refine ⟨_, (pss_cons (ps_if (pw_or (pt_cmpR op_lt (pv 1) pe_int (nomark _)) (pw_or (pt_not (pt_val (pe_callB c_isi (by rfl) (B _ (by decide)) b_isinstance (pa_cons (pv 0) (pa_cons (pe_bltn (v := .ty "tuple") (by rfl) (B _ (by decide)) b_tuple rfl) pa_nil))))) (pw_or1 (pt_cmpR (op_eqD hr.units) (pv 0) (pe_tup pa_nil) (nomark _))))).pt
        (pss_one (ps_ret pe_int))
        pss_nil)
      (pss_cons (ps_set (i := 2) scCount.nd rfl (by first | exact Or.inl rfl | exact Or.inr rfl) (pe_ix ix_tup (pv 0) pe_int (fun _ _ => rfl)))
      (pss_cons (ps_if (pw_or (pt_not (pt_val (pe_callB c_isi (by rfl) (B _ (by decide)) b_isinstance (pa_cons (pv 2) (pa_cons (pe_bltn (v := .ty "str") (by rfl) (B _ (by decide)) b_str rfl) pa_nil))))) (pw_or (pt_cmpR (op_ninKD dSg) (pv 2) (pe_globR gSg) (by with_unfolding_all rfl)) (pw_or1 (pt_cmpR op_ne (pe_callB c_len (by rfl) (B _ (by decide)) b_len (pa_cons (pv 0) pa_nil)) (pe_op op_add (pe_callB call_len_str (by rfl) (B _ (by decide)) b_len (pa_cons (pe_ix ix_kdict (pe_globR gSg) (pv 2) (fun _ _ => rfl)) pa_nil)) pe_int) (nomark _))))).pt
        (pss_one (ps_ret pe_int))
        pss_nil)
      (pss_cons (ps_set (i := 3) scCount.nd rfl (by first | exact Or.inl rfl | exact Or.inr rfl) pe_int)
      (pss_cons (ps_for PassesOwn.never rfl (pi_zipST (by rfl) (B _ (by decide)) (pa_cons (pe_ix ix_kdict (pe_globR gSg) (pv 2) (fun _ _ => rfl)) (pa_cons (pe_slice sl_tupA (pv 0) (po_some pe_int) po_none) pa_nil))) (pg_tup rfl (pgs_cons (pg_name (i := 4) scCount.nd rfl (by first | exact Or.inl rfl | exact Or.inr rfl)) (pgs_cons (pg_name (i := 5) scCount.nd rfl (by first | exact Or.inl rfl | exact Or.inr rfl)) pgs_nil)))
        (pss_one (ps_if (pt_cmpR op_eq (pv 4) pe_str (nomark _))
          (pss_cons (ps_set (i := 6) scCount.nd rfl (by first | exact Or.inl rfl | exact Or.inr rfl) (pe_cal cCount hr (by omega) (pa_cons (pv 5) (pa_cons (pe_op op_sub (pv 1) (pv 3)) pa_nil))))
          (pss_cons (ps_if (pt_cmpR op_eq (pv 6) pe_int (nomark _))
            (pss_one (ps_ret pe_int))
            pss_nil)
          (pss_one (ps_set (i := 3) scCount.nd rfl (by first | exact Or.inl rfl | exact Or.inr rfl) (pe_op op_add (pv 3) (pv 6))))))
          (pss_one (ps_if (pt_not (pt_val (pe_cal cBtw hr (by omega) (pa_cons (pv 5) (pa_cons pe_int (pa_cons (pe_ix ix_kdict (pe_globR gMo) (pv 4) (fun _ _ => rfl)) pa_nil))))))
            (pss_one (ps_ret pe_int))
            pss_nil)))))
      (pss_one (ps_ret (pv 3)))))))), ?_⟩
    have im0 := im
    rw [enc_pts] at im
    obtain ⟨ta, txs, rfl, hta, htx⟩ := im_tup im
    cases htx with
    | cons j1 j2 =>
    rename_i v1 pxs
    cases j1
    obtain ⟨z, hz, hzl⟩ := sg_of t
    have hkd : KDct K w dS (wordOf t) (.str z) := sg (wordOf t, .str z) (List.mem_map.mpr ⟨(wordOf t, z), hz, rfl⟩)
    have zl : z.cps.size = (pts t).length := by
      rw [← Array.length_toList, hzl, List.length_map]
    have pl : pxs.length = (pts t).length := by rw [j2.length, List.length_map]
    have ct := cnt_pts t
    have cp := cnt_pos t
    have p3 : (pts t).length ≤ 3 := by cases t <;> simp [pts]
    repeat walk_at "st"
    refine t_ifNS (fun Q' kk => ?_) fun H1 s1 => ?_
    · repeat walk_at "st"
      refine ite_dec (fun h => by omega) fun _ => ?_
      repeat walk_at "st"
      refine r_isi (.base (.tup hta)) (b := true) (by decide +kernel) ?_
      repeat walk_at "st"
      refine r_newT (by show 0 ≤ sizeLine; decide) fun p H1 np s1 e1 => ?_
      refine r_eqD (Im.dp _ _ (s1.im im0)) (Im.dp _ _ (.tup e1 .nil)) (shaped_enc (by omega)) (by decide +kernel) ?_
      rw [eqv_encN]
      repeat walk_at "st"
      exact kk _ s1
    repeat walk_at "st"
    have szl : (8 : Nat) ≤ sizeLine := by decide
    have zl2 : z.length = (pts t).length := zl
    refine r_ixT (.of (s1.at hta)) (atI_nat (j := 0) rfl) ?_
    repeat walk_at "st"
    refine t_ifN (fun Q' kk => ?_) ?_
    · repeat walk_at "st"
      refine r_isi (.base (.str _)) (b := true) (by decide +kernel) ?_
      repeat walk_at "st"
      refine ⟨_, _, rfl, rfl, hkd, ?_⟩
      repeat walk_at "st"
      refine r_lenT (.of (s1.at hta)) rfl ?_
      repeat walk_at "st"
      refine r_ixD hkd ?_
      repeat walk_at "st"
      refine ⟨z, rfl, by omega, ?_⟩
      repeat walk_at "st"
      refine q_nF ?_ kk
      rw [List.length_cons, pl, zl2]
      omega
    repeat walk_at "st"
    refine r_ixD hkd ?_
    repeat walk_at "st"
    refine r_slT (s1.at hta) fun c H2 s2 e2 => ?_
    rw [cut_drop _ 1 1 rfl, List.drop_succ_cons, List.drop_zero] at e2
    have s12 := s1.trans s2
    repeat walk_at "st"
    refine ⟨z, c, pxs, rfl, .of e2, ?_⟩
    refine for_w (walk_zs (z := z) (xs := pxs) (n := (pts t).length) (by omega) (by omega)) (fun i σ' H' => Same H2 H' ∧ ∃ o1 o2 o3, σ' = [some (.ref ta), some (.int room), some (.str (wordOf t)), some (.int (1 + (((pts t).map cntP).take i).sum : Nat)), o1, o2, o3])
      ⟨fun _ _ e => e, none, none, none, rfl⟩ (fun i σ' H' _ z => .of (z.1.at e2)) ?_ ?_
    · rintro i x σ' H3 H4 hi ⟨s3, o1, o2, o3, rfl⟩ y
      obtain ⟨Tp, a, v, rfl, s4, eT, ea, eb⟩ := ypair y
      obtain ⟨pt, hpt⟩ : ∃ pt, (pts t)[i]? = some pt := ⟨_, List.getElem?_eq_getElem hi⟩
      have hsg : z.cps[i]? = some (sgPt pt) := by
        rw [← Array.getElem?_toList, hzl, List.getElem?_map, hpt]
        rfl
      simp only [hsg, Option.map_some, Option.some.injEq] at ea
      subst ea
      obtain ⟨d', hd', iv⟩ := j2.get' eb
      rw [List.getElem?_map, hpt] at hd'
      obtain rfl : encPt pt = d' := Option.some.inj hd'
      have wp := wf_pts wf (List.mem_of_getElem? hpt)
      have nx : (((pts t).map cntP).take (i + 1)).sum = (((pts t).map cntP).take i).sum + cntP pt := sum_take (by rw [List.getElem?_map, hpt]; rfl)
      have le := sum_take_le ((pts t).map cntP) (i + 1)
      have s14 := (s12.trans s3).trans s4
      refine r_gTup (.of eT) rfl ?_
      repeat walk_at "st"
      dsimp only
      cases pt with
      | sub t' =>
        have cp' := cnt_pos t'
        have dp := dep_pts (List.mem_of_getElem? hpt)
        simp only [cntP] at nx
        refine t_ifY (fun Q' kk => ?_) ?_
        · repeat walk_at "st"
          exact q_decT (show (⟨#[102]⟩ : Str) = "f" by decide +kernel) kk
        repeat walk_at "st"
        refine ⟨v, t', _, rfl, s14.im iv, wp, by omega, by omega, fun H5 s5 => ?_⟩
        repeat walk_at "st"
        dsimp only
        refine t_ifN (fun Q' kk => ?_) ?_
        · repeat walk_at "st"
          exact q_decF (by omega) kk
        repeat walk_at "st"
        refine ⟨(s3.trans s4).trans s5, some (.str ⟨#[sgPt (.sub t')]⟩), some v, some (.int (cnt t')), ?_⟩
        rw [nx, ← Nat.add_assoc]
        rfl
      | n x =>
        simp only [cntP] at nx
        cases iv
        obtain ⟨w0, w1⟩ := wp
        refine t_ifN (fun Q' kk => ?_) ?_
        · repeat walk_at "st"
          exact q_decF (show ¬ (⟨#[110]⟩ : Str) = "f" by decide +kernel) kk
        refine t_ifN (fun Q' kk => ?_) ?_
        · repeat walk_at "st"
          refine r_ixD (mo ("n", .int 2) (by simp)) ?_
          repeat walk_at "st"
          refine r_btw (by omega) (by omega) ?_
          repeat walk_at "st"
          exact kk
        repeat walk_at "st"
        refine ⟨s3.trans s4, some (.str ⟨#[sgPt (.n x)]⟩), some (.int x), o3, ?_⟩
        rw [nx]
        rfl
      | c x =>
        simp only [cntP] at nx
        cases iv
        obtain ⟨w0, w1⟩ := wp
        refine t_ifN (fun Q' kk => ?_) ?_
        · repeat walk_at "st"
          exact q_decF (show ¬ (⟨#[99]⟩ : Str) = "f" by decide +kernel) kk
        refine t_ifN (fun Q' kk => ?_) ?_
        · repeat walk_at "st"
          refine r_ixD (mo ("c", .int 1) (by simp)) ?_
          repeat walk_at "st"
          refine r_btw (by omega) (by omega) ?_
          repeat walk_at "st"
          exact kk
        repeat walk_at "st"
        refine ⟨s3.trans s4, some (.str ⟨#[sgPt (.c x)]⟩), some (.int x), o3, ?_⟩
        rw [nx]
        rfl
    · rintro σ' H3 ⟨s3, o1, o2, o3, rfl⟩
      repeat walk_at "st"
      have e : 1 + (((pts t).map cntP).take (pts t).length).sum = cnt t := by
        rw [List.take_of_length_le (by rw [List.length_map]; omega), ← ct]
      rw [e]
      exact q _ (s12.trans s3)
theorem ok_count {dS dM : Addr} (D : Df K mg "count_in" (top 22)) (B : Bf mg) (gSg : mg "SIGNS" = some (.ref dS)) (sg : SgAt K w dS (signs.map fun q => (q.1, V.str q.2))) (dSg : KD K w dS) (gMo : mg "MOST" = some (.ref dM)) (mo : SgAt K w dM mosts)
    (cBtw : Cal P w K mg base "is_between" 1 ["thing", "low", "high"] spBtw) : ∀ d : Nat, d ≤ 60 → Cal P w K mg base "count_in" (1 + d) ["tree", "room"] (spCount d)
  | 0, _ => D.never (fun _ _ _ _ _ _ us hl => match us, hl with | [_, _], _ => rfl) fun vs H Q E h => by
    obtain ⟨_, _, _, _, _, _, _, hd, _⟩ := h
    omega
  | d + 1, h => count_step (l := 1 + d) D B gSg sg dSg gMo mo (by omega) cBtw (by omega) (ok_count D B gSg sg dSg gMo mo cBtw d (by omega))
end
end K5
end

section
set_option maxHeartbeats 4000000
/-! LC: own methods and properties; trees_in; numbers_of; contains. -/
namespace K5
open PySem PySem.Spec L2
open PyProof.Rows hiding St
def PrpS (P : Program) (w : World) (K : PySem.W.Frag) (mg : Str → Option Value) (base : Heap) (C : Addr) (f : Str) (k : Nat) (sp : Sp) : Prop :=
  ∃ p g fd, PropOf K C f p g ∧ FnOk P w K mg base CX0 k g fd ["self"] sp ∧ Binds K fd ["self"] []
section
variable {X : Cx} {C : Addr} {j k : Nat} {nm m : Str} {ps : List Str} {sp : Sp} {ta : TE} {t : TA} {o e : Expr} {es : List Expr} {pos apos : Pos}
theorem pe_propS (h : PrpS X.prog X.w X.K X.mg X.base C nm k sp) (c : Cls X.K C) (hr : Room j X.A) (hj : k + 1 ≤ j) (he : PE X e ta) (hab : attributeBase e nm X.env (eval e X.env) = eval e X.env := by rfl) : PE X (.Attribute e nm pos) (tProp C sp [] E0 ta) := by
  obtain ⟨p, g, fd, hp, F, hb⟩ := h
  exact pe_prop he c hp F (hr.mono hj) hb .nil pass0 hab
theorem pe_mtd {pl : Sem Bool} (M : Mtd X.prog X.w X.K X.mg X.base C m k ps sp) (c : Cls X.K C) (hr : Room j X.A) (hk : k ≤ j) (he : PE X o ta) (ha : PA X (e :: es) t)
    (hst : starEach (e :: es) X.env = (false, eval e X.env) :: starEach es X.env := by rfl) (hpl : (backTo pos (starEach es X.env)).any (·.1) = false := by rfl)
    (ht : eval (.Call (.Attribute o m apos) (e :: es) [] pos) X.env = (do
      let ov ← eval o X.env
      standAt apos.atName
      let (f, first) ← holding [ov] (getMethod ov m pl)
      callWith pos f first (backTo pos (starEach (e :: es) X.env)) (backToKw pos (keywordEach [] X.env))) := by rfl) : PE X (.Call (.Attribute o m apos) (e :: es) [] pos) (tMeth C m sp [] E0 ta t) := by
  obtain ⟨f, fd, h1, F, hb, _⟩ := M
  exact pe_meth he c h1 F (hr.mono hk) hb .nil pass0 ha hst hpl ht
end
section
variable {K : PySem.W.Frag} {σ : L2.St} {H : Hp} {Q : VK} {C : Addr} {sp : Sp} {ta to : TE} {t : TA} {m : Str}
theorem r_propG (q : ta σ H fun x H1 => ∃ a dx fs, x = .ref a ∧ H1 a = some (.ins C dx fs) ∧ sp [.ref a] H1 Q E0) : tProp C sp [] E0 ta σ H Q := q
theorem r_mtd (q : ta σ H fun x H1 => ∃ a dx fs, x = .ref a ∧ H1 a = some (.ins C dx fs) ∧ fs.lookup m = none ∧ t σ H1 fun vs H2 => sp (x :: vs) H2 Q E0) : tMeth C m sp [] E0 ta t σ H Q := by
  show ta σ H fun x H1 => ∃ a dx fs, x = .ref a ∧ H1 a = some (.ins C dx fs) ∧ fs.lookup m = none ∧ t σ H1 fun vs H2 => sp (x :: (vs ++ [])) H2 Q E0
  have e : (fun (x : V) (H1 : Hp) => ∃ a dx fs, x = .ref a ∧ H1 a = some (.ins C dx fs) ∧ fs.lookup m = none ∧ t σ H1 fun vs H2 => sp (x :: (vs ++ [])) H2 Q E0) = fun x H1 => ∃ a dx fs, x = .ref a ∧ H1 a = some (.ins C dx fs) ∧ fs.lookup m = none ∧ t σ H1 fun vs H2 => sp (x :: vs) H2 Q E0 := by
    funext x H1
    simp only [List.append_nil]
  rw [e]
  exact q
theorem r_bm {T : String} {r : V → List V → Hp → VK → Prop} (q : to σ H fun x H1 => tyV K T x H1 ∧ t σ H1 fun xs H2 => r x xs H2 Q) : tBM K T r to t σ H Q := q
theorem ty_l {a : Addr} {xs : List V} (h : H a = some (.lst xs)) : tyV K "list" (.ref a) H := .inl ⟨rfl, _, .of h⟩
theorem r_ext {l b : Addr} {xs zs : List V} (h : H l = some (.lst xs)) (hb : H b = some (.lst zs)) (hz : xs.length + zs.length ≤ sizeLine) (q : ∀ H', Mv l H H' → H' l = some (.lst (xs ++ zs)) → Q .non H') : rExtend (.ref l) [.ref b] H Q :=
  ⟨l, b, xs, zs, rfl, rfl, h, hb, hz, q _ ⟨fun b o n e => by rw [upd_ne n]; exact e, xs, h⟩ upd_same⟩
/-! ### sets of ints -/
def SiW (w : World) (J : It) (g : TG) (tt : TT) (te : TE) (vs : List Nat) (σ : L2.St) (H1 : Hp) (D : Addr) (Q : VK) : Prop := ∃ W : Nat → Nat → Hp → Prop, (∃ m, W 0 m (upd H1 D (SetO w D (fun _ => false) 0))) ∧ ∀ i m H, W i m H →
  (J.stop i H ∧ Q (.ref D) H) ∨ (J.go i H ∧ ∃ Nx : Hp → Prop, (∀ H', Nx H' → ∃ m', m' < m ∧ W (i + 1) m' H') ∧ ∀ x H', J.yld i H x H' → g x (wipe σ vs) H' fun σ2 H2 => wipe σ2 vs = wipe σ vs ∧ tt σ2 H2 fun b H3 =>
    if b = true then te σ2 H3 fun y H4 => ∃ (c : Int) (S : Int → Bool) (n : Nat), y = .int c ∧ H4 D = some (SetO w D S n) ∧ n + 1 < scanBound ∧ Nx (upd H4 D (SetO w D (fun j => S j || decide (j = c)) (if S c = true then n else n + 1))) else Nx H3)
theorem r_si {w : World} {wi : TI} {g : TG} {tt : TT} {te : TE} {vs : List Nat} (q : wi σ H fun J H1 => ∀ D, H1 D = none → SiW w J g tt te vs σ H1 D Q) : tSi w wi g tt te vs σ H Q := q
/-- the numbers that turns give: those of L at most -/
theorem si_w {w : World} {J : It} {n : Nat} {G : Hp → Prop} {Y : Nat → Hp → V → Hp → Prop} (wk : Walk J n G Y) {g : TG} {tt : TT} {te : TE} {vs : List Nat} {D : Addr} (nD : H D = none) (L : List Int) (hl : n ≤ 60) (hG : ∀ H', Same H H' → G H')
    (hs : ∀ i x H1 H' (Kt : VK) (Kf : Hp → Prop), i < n → Same H H1 → Y i H1 x H' → (∀ c H4, c ∈ L → Same H1 H4 → Kt (.int c) H4) → (∀ H3, Same H1 H3 → Kf H3) →
      g x (wipe σ vs) H' fun σ2 H2 => wipe σ2 vs = wipe σ vs ∧ tt σ2 H2 fun b H3 => if b = true then te σ2 H3 Kt else Kf H3)
    (hd : ∀ S m H', Same H H' → H' D = some (SetO w D S m) → m < 64 → (∀ k, S k = true → k ∈ L) → Q (.ref D) H') : SiW w J g tt te vs σ H D Q := by
  have szl : (61 : Nat) < scanBound := by decide
  refine ⟨fun i m H' => m = n - i ∧ i ≤ n ∧ ∃ S k, Same H H' ∧ H' D = some (SetO w D S k) ∧ k ≤ i ∧ ∀ j, S j = true → j ∈ L, ⟨n, by simp, Nat.zero_le _, fun _ => false, 0, fun b o h => by rw [upd_ne (ne_of_none h nD)]; exact h, upd_same, Nat.le_refl _, fun _ z => by cases z⟩, ?_⟩
  rintro i m H1 ⟨rfl, hi, S, k, s, e, l, sub⟩
  by_cases hlt : i < n
  · refine .inr ⟨wk.goes i H1 hlt (hG _ s), fun H' => ∃ S k, Same H H' ∧ H' D = some (SetO w D S k) ∧ k ≤ i + 1 ∧ ∀ j, S j = true → j ∈ L, fun H' p => ⟨n - (i + 1), by omega, rfl, hlt, p⟩, fun x H' y => ?_⟩
    refine hs i x H1 H' _ _ hlt s (wk.yields i H1 x H' hlt (hG _ s) y) (fun c H4 hc s4 => ?_) fun H3 s3 => ⟨S, k, s.trans s3, s3 _ _ e, by omega, sub⟩
    refine ⟨c, S, k, rfl, s4 _ _ e, by omega, _, _, fun b o h => ?_, upd_same, by split <;> omega, fun j hj => ?_⟩
    · rw [upd_ne (ne_of_none h nD)]
      exact s4 _ _ (s _ _ h)
    · rcases Bool.or_eq_true_iff.mp hj with z | z
      · exact sub j z
      · rw [of_decide_eq_true z]
        exact hc
  · obtain rfl : i = n := by omega
    exact .inl ⟨wk.stops H1 (hG _ s), hd S k H1 s e (by omega) sub⟩
end
local macro_rules | `(tactic| walk_at "lf") => `(tactic| first
  | assumption
  | (refine Same.im (by assumption) ?_; walk_at "lf")
  | (refine Same.ims (by assumption) ?_; walk_at "lf")
  | (refine Same.at (by assumption) ?_; walk_at "lf")
  | (refine Same.sqT (by assumption) ?_; walk_at "lf")
  | (refine Same.seq (by assumption) ?_; walk_at "lf")
  | exact SqL.of (by walk_at "lf")
  | exact SqT.of (by walk_at "lf"))
local macro_rules | `(tactic| walk_at "st") => `(tactic| first
  | ((with_reducible refine r_var (v := ?vv) ?rv ?_); (case rv => exact rfl))
  | with_reducible first
    | refine r_seq ?_
    | refine r_asg ?_
    | refine r_gName ?_
    | refine r_c ?_
    | refine r_op ?_
    | refine r_I0 ?_
    | refine r_exbl ?_
    | refine r_cb ?_
    | refine r_nil ?_
    | refine r_cons ?_
    | refine r_test ?_
    | refine r_tB ?_
    | refine r_and ?_
    | refine r_or ?_
    | refine r_not ?_
    | refine r_if ?_
    | refine r_ret ?_
    | refine r_next ?_
    | refine r_tup ?_
    | refine r_lst ?_
    | refine r_int ?_
    | refine r_exint ?_
    | refine r_sl ?_
    | refine r_part ?_
    | refine r_nopart ?_
    | refine r_par ?_
    | refine r_ex2 ?_
    | refine r_call ?_
    | refine r_un ?_
    | refine r_U ?_
    | refine r_andV ?_
    | refine r_orV ?_
    | refine r_notV ?_
    | refine r_chain ?_
    | refine r_isN ?_
    | refine r_notN ?_
    | refine r_drop ?_
    | refine r_I (by decide) ?_
    | refine r_EqI ?_
    | refine r_NeI ?_
    | refine r_EqS ?_
    | refine r_NeS ?_
    | refine r_gSub ?_
    | refine r_gCons ?_
    | refine r_gNil ?_
    | refine r_dget ?_
    | refine r_pcons ?_
    | refine r_pnil ?_
    | refine iteT ?_
    | refine iteF ?_
    | refine iteNF ?_
    | refine iteNT ?_
    | refine r_prop ?_
    | refine r_dget2 ?_
    | refine r_din ?_
    | refine r_dput ?_
    | refine r_mk ?_
    | refine r_propG ?_
    | refine r_mtd ?_
    | refine r_bm ?_
    | refine r_si ?_
    | refine r_for ?_
    | refine r_lc ?_
    | refine r_iT ?_
    | refine r_iL ?_
    | refine r_enT ?_
    | refine r_zip ?_
    | refine r_zs ?_
    | refine r_iR1 ?_
    | refine r_yes ?_
    | refine r_fld ?_
    | refine r_star1 ?_
    | refine r_ctE ?_
    | refine r_div (by decide) (by decide) ?_
    | refine r_mulL (by decide) (by decide) ?_
    | refine r_mulR (by decide) (by decide) ?_)
local macro_rules | `(tactic| walk_at "tq") => `(tactic| ((repeat walk_at "st"); first
  | assumption
  | (refine q_decT (by omega) (by assumption))
  | (refine q_decF (by omega) (by assumption))
  | (refine q_nT (by omega) (by assumption))
  | (refine q_nF (by omega) (by assumption))
  | (refine ite_dec (fun _ => ?_) (fun _ => ?_) <;> first | (exfalso; omega) | walk_at "tq")
  | (refine ite_ndec (fun _ => ?_) (fun _ => ?_) <;> first | (exfalso; omega) | walk_at "tq")))
/-! ### a tree's subtrees -/
def subs : Tr → List Tr
  | .call k t => .call k t :: subs t
  | .two o a b => .two o a b :: (subs a ++ subs b)
  | .cond a b c => .cond a b c :: (subs a ++ (subs b ++ subs c))
  | .num n => [.num n]
  | .given => [.given]
  | .setting => [.setting]
  | .col c => [.col c]
  | .kept c => [.kept c]
def subP : Pt → List Tr
  | .sub t => subs t
  | _ => []
theorem subs_pts (t : Tr) : subs t = t :: (pts t).flatMap subP := by
  cases t <;> simp [subs, pts, subP]
theorem len_subs : ∀ t : Tr, (subs t).length = cnt t := by
  intro t
  induction t <;> simp_all [subs, cnt] <;> omega
theorem len_subP (p : Pt) : (subP p).length = cntP p := by
  cases p with
  | sub t => exact len_subs t
  | n _ => rfl
  | c _ => rfl
theorem len_flat : ∀ l : List Pt, (l.flatMap subP).length = (l.map cntP).sum
  | [] => rfl
  | p :: r => by rw [List.flatMap_cons, List.length_append, len_flat r, len_subP, List.map_cons, List.sum_cons]
def SubsAt (H : Hp) (xs : List V) (ts : List Tr) : Prop := Each (fun v t => Im H v (enc t)) xs ts
theorem SubsAt.isn {H H' : Hp} {xs : List V} {ts : List Tr} (s : Isn H H') (h : SubsAt H xs ts) : SubsAt H' xs ts := h.imp fun _ _ z => s.im z
theorem Each.app {α β : Type} {R : α → β → Prop} : ∀ {as as' : List α} {bs bs' : List β}, Each R as bs → Each R as' bs' → Each R (as ++ as') (bs ++ bs')
  | _, _, _, _, .nil, h => h
  | _, _, _, _, .cons r t, h => .cons r (t.app h)
def spTrees (d : Nat) : Sp := fun vs H Q _ => ∃ (tv : V) (t : Tr), vs = [tv] ∧ Im H tv (enc t) ∧ cnt t ≤ 20 ∧ dep t < d ∧ ∀ l xs H', Same H H' → H' l = some (.lst xs) → SubsAt H' xs (subs t) → Q (.ref l) H'
section
variable {P : Program} {w : World} {K : PySem.W.Frag} {mg : Str → Option Value} {base : Heap} {T : List NTab} {CP CB CF : Addr}
theorem trees_step {l d : Nat} (D : Df K mg "trees_in" (top 23)) (B : Bf mg) (hl : 1 ≤ l) (cTrees : Cal P w K mg base "trees_in" l ["tree"] (spTrees d)) : Cal P w K mg base "trees_in" (l + 1) ["tree"] (spTrees (d + 1)) := by
  refine D.cal (N := ["tree", "found", "part"]) (ps := ["tree"]) scTrees (fun _ _ _ _ _ _ us hl => match us, hl with | [_], _ => rfl) (fun vs H Q E h => ?_) fun f cdv A outer s H vs Q E hr h => ?_
  · obtain ⟨_, _, rfl, _⟩ := h
    rfl
  · obtain ⟨tv, t, rfl, im, hc, hd, q⟩ := h
    refine ⟨_, (pss_cons (ps_set (i := 1) scTrees.nd rfl (by first | exact Or.inl rfl | exact Or.inr rfl) (pe_lst (pa_cons (pv 0) pa_nil)))
      (pss_cons (ps_for PassesOwn.never rfl (pi_tup (pe_slice sl_tupA (pv 0) (po_some pe_int) po_none)) (pg_name (i := 2) scTrees.nd rfl (by first | exact Or.inl rfl | exact Or.inr rfl))
        (pss_one (ps_if (pt_val (pe_callB c_isi (by rfl) (B _ (by decide)) b_isinstance (pa_cons (pv 2) (pa_cons (pe_bltn (v := .ty "tuple") (by rfl) (B _ (by decide)) b_tuple rfl) pa_nil))))
          (pss_one (ps_expr (pe_bm PySem.F.plainAttrs_list PySem.F.slot_list_extend PySem.F.type_list_extend mt_extend (pv 1) (pa_cons (pe_cal cTrees hr (by omega) (pa_cons (pv 2) pa_nil)) pa_nil))))
          pss_nil)))
      (pss_one (ps_ret (pv 1))))), ?_⟩
    have im0 := im
    rw [enc_pts] at im
    obtain ⟨ta, txs, rfl, hta, htx⟩ := im_tup im
    cases htx with
    | cons j1 j2 =>
    rename_i v1 pxs
    have pl : pxs.length = (pts t).length := by rw [j2.length, List.length_map]
    have ct := cnt_pts t
    have szl : (100 : Nat) ≤ sizeLine := by decide
    repeat walk_at "st"
    refine r_newL (by show 1 ≤ sizeLine; decide) fun l H1 nl s1 el => ?_
    repeat walk_at "st"
    refine r_slT (s1.at hta) fun c H2 s2 e2 => ?_
    rw [cut_drop _ 1 1 rfl, List.drop_succ_cons, List.drop_zero] at e2
    have s12 := s1.trans s2
    refine ⟨c, rfl, ⟨_, .of e2⟩, ?_⟩
    refine for_w (walk_tup (xs := pxs)) (fun i σ' H' => ∃ acc o, Same H H' ∧ H' c = some (.tup pxs) ∧ H' l = some (.lst acc) ∧ SubsAt H' acc (t :: ((pts t).take i).flatMap subP) ∧ σ' = [some (.ref ta), some (.ref l), o])
      ⟨[.ref ta], none, s12, e2, s2.at el, .cons (s12.im im0) .nil, rfl⟩ (fun i σ' H' _ ⟨acc, o, z⟩ => .of z.2.1) ?_ ?_
    · rintro i x σ' H4 H3 hi ⟨acc, o, s3, ec, ea, sub, rfl⟩ ⟨rfl, ex⟩
      obtain ⟨pt, hpt⟩ : ∃ pt, (pts t)[i]? = some pt := ⟨_, List.getElem?_eq_getElem (by omega)⟩
      obtain ⟨d', hd', iv⟩ := j2.get' ex
      rw [List.getElem?_map, hpt] at hd'
      obtain rfl : encPt pt = d' := Option.some.inj hd'
      have nx : ((pts t).take (i + 1)).flatMap subP = ((pts t).take i).flatMap subP ++ subP pt := by
        rw [List.take_succ, hpt, List.flatMap_append]
        simp
      repeat walk_at "st"
      dsimp only
      cases pt with
      | sub t' =>
        have dp := dep_pts (List.mem_of_getElem? hpt)
        have c' : cnt t' ≤ cnt t := by
          have e := sum_take (l := (pts t).map cntP) (i := i) (x := cnt t') (by rw [List.getElem?_map, hpt]; rfl)
          have := sum_take_le ((pts t).map cntP) (i + 1)
          omega
        have al : acc.length ≤ 20 := by
          have e := sub.length
          rw [List.length_cons, len_flat, List.map_take] at e
          have := sum_take_le ((pts t).map cntP) i
          omega
        obtain ⟨pa, pxs', rfl, hpa, _⟩ : ∃ a xs, x = .ref a ∧ H3 a = some (.tup xs) ∧ True := by
          have iv2 := s3.im iv
          simp only [encPt] at iv2
          rw [enc_pts] at iv2
          obtain ⟨a, xs, e1, e2, _⟩ := im_tup iv2
          exact ⟨a, xs, e1, e2, trivial⟩
        refine t_ifY (fun Q' kk => ?_) ?_
        · repeat walk_at "st"
          refine r_isi (.base (.tup hpa)) (b := true) (by decide +kernel) ?_
          repeat walk_at "st"
          exact kk
        repeat walk_at "st"
        refine ⟨ty_l ea, ?_⟩
        repeat walk_at "st"
        refine ⟨_, t', rfl, s3.im iv, by omega, by omega, fun l2 xs2 H5 s5 e5 sub5 => ?_⟩
        repeat walk_at "st"
        refine r_ext (s5.at ea) e5 (by
          have e := sub5.length
          rw [len_subs] at e
          omega) fun H6 m6 e6 => ?_
        repeat walk_at "st"
        refine ⟨_, _, Mv.same (s3.trans s5) m6 nl, m6.at (s5.at ec) (fun _ z => by cases z), e6, ?_, rfl⟩
        rw [nx, ← List.cons_append]
        exact ((sub.isn s5.isn).isn m6.isn).app (sub5.isn m6.isn)
      | n z =>
        cases iv
        refine t_ifN (fun Q' kk => ?_) ?_
        · repeat walk_at "st"
          refine r_isi (.base (.int _)) (b := false) (by decide +kernel) ?_
          repeat walk_at "st"
          exact kk
        repeat walk_at "st"
        exact ⟨acc, _, s3, ec, ea, by rw [nx]; simpa [subP] using sub, rfl⟩
      | c z =>
        cases iv
        refine t_ifN (fun Q' kk => ?_) ?_
        · repeat walk_at "st"
          refine r_isi (.base (.int _)) (b := false) (by decide +kernel) ?_
          repeat walk_at "st"
          exact kk
        repeat walk_at "st"
        exact ⟨acc, _, s3, ec, ea, by rw [nx]; simpa [subP] using sub, rfl⟩
    · rintro σ' H3 ⟨acc, o, s3, ec, ea, sub, rfl⟩
      repeat walk_at "st"
      refine q l acc H3 s3 ea ?_
      rw [subs_pts]
      rw [pl, List.take_length] at sub
      exact sub
theorem ok_trees (D : Df K mg "trees_in" (top 23)) (B : Bf mg) : ∀ d : Nat, Cal P w K mg base "trees_in" (1 + d) ["tree"] (spTrees d)
  | 0 => D.never (fun _ _ _ _ _ _ us hl => match us, hl with | [_], _ => rfl) fun vs H Q E h => by
    obtain ⟨_, _, _, _, _, hd, _⟩ := h
    omega
  | d + 1 => trees_step (l := 1 + d) D B (by omega) (ok_trees D B d)
end
end K5
end

section
set_option maxHeartbeats 4000000
/-! LD: Form's methods; bodies; functions; the making of forms and books. -/
namespace K5
open PySem PySem.Spec L2
open PyProof.Rows hiding St
local macro_rules | `(tactic| walk_at "lf") => `(tactic| first
  | assumption
  | (refine Same.im (by assumption) ?_; walk_at "lf")
  | (refine Same.ims (by assumption) ?_; walk_at "lf")
  | (refine Same.at (by assumption) ?_; walk_at "lf")
  | (refine Same.sqT (by assumption) ?_; walk_at "lf")
  | (refine Same.seq (by assumption) ?_; walk_at "lf")
  | exact SqL.of (by walk_at "lf")
  | exact SqT.of (by walk_at "lf"))
local macro_rules | `(tactic| walk_at "st") => `(tactic| first
  | ((with_reducible refine r_var (v := ?vv) ?rv ?_); (case rv => exact rfl))
  | with_reducible first
    | refine r_seq ?_
    | refine r_asg ?_
    | refine r_gName ?_
    | refine r_c ?_
    | refine r_op ?_
    | refine r_I0 ?_
    | refine r_exbl ?_
    | refine r_cb ?_
    | refine r_nil ?_
    | refine r_cons ?_
    | refine r_test ?_
    | refine r_tB ?_
    | refine r_and ?_
    | refine r_or ?_
    | refine r_not ?_
    | refine r_if ?_
    | refine r_ret ?_
    | refine r_next ?_
    | refine r_tup ?_
    | refine r_lst ?_
    | refine r_int ?_
    | refine r_exint ?_
    | refine r_sl ?_
    | refine r_part ?_
    | refine r_nopart ?_
    | refine r_par ?_
    | refine r_ex2 ?_
    | refine r_call ?_
    | refine r_un ?_
    | refine r_U ?_
    | refine r_andV ?_
    | refine r_orV ?_
    | refine r_notV ?_
    | refine r_chain ?_
    | refine r_isN ?_
    | refine r_notN ?_
    | refine r_drop ?_
    | refine r_I (by decide) ?_
    | refine r_EqI ?_
    | refine r_NeI ?_
    | refine r_EqS ?_
    | refine r_NeS ?_
    | refine r_gSub ?_
    | refine r_gCons ?_
    | refine r_gNil ?_
    | refine r_dget ?_
    | refine r_pcons ?_
    | refine r_pnil ?_
    | refine iteT ?_
    | refine iteF ?_
    | refine iteNF ?_
    | refine iteNT ?_
    | refine r_prop ?_
    | refine r_dget2 ?_
    | refine r_din ?_
    | refine r_dput ?_
    | refine r_mk ?_
    | refine r_propG ?_
    | refine r_mtd ?_
    | refine r_bm ?_
    | refine r_si ?_
    | refine r_for ?_
    | refine r_lc ?_
    | refine r_iT ?_
    | refine r_iL ?_
    | refine r_enT ?_
    | refine r_zip ?_
    | refine r_zs ?_
    | refine r_iR1 ?_
    | refine r_yes ?_
    | refine r_fld ?_
    | refine r_star1 ?_
    | refine r_ctE ?_
    | refine r_div (by decide) (by decide) ?_
    | refine r_mulL (by decide) (by decide) ?_
    | refine r_mulR (by decide) (by decide) ?_)
local macro_rules | `(tactic| walk_at "tq") => `(tactic| ((repeat walk_at "st"); first
  | assumption
  | (refine q_decT (by omega) (by assumption))
  | (refine q_decF (by omega) (by assumption))
  | (refine q_nT (by omega) (by assumption))
  | (refine q_nF (by omega) (by assumption))
  | (refine ite_dec (fun _ => ?_) (fun _ => ?_) <;> first | (exfalso; omega) | walk_at "tq")
  | (refine ite_ndec (fun _ => ?_) (fun _ => ?_) <;> first | (exfalso; omega) | walk_at "tq")))
def num1 : Tr → Option Int
  | .num n => some n
  | .col c => some c
  | .kept c => some c
  | .call k _ => some k
  | _ => none
def numsW (w : Str) (t : Tr) : List Int := (subs t).filterMap fun t' => if wordOf t' = w then num1 t' else none
def numWs : List Str := ["call", "column", "kept", "number"]
theorem opN_num {o : Nat} : opN o ∉ numWs := by
  unfold opN
  split <;> decide
theorem word_num {t : Tr} {w : Str} (hw : w ∈ numWs) (e : wordOf t = w) : ∃ c p r, num1 t = some c ∧ pts t = p :: r ∧ encPt p = .int c := by
  subst e
  cases t with
  | num n => exact ⟨n, _, _, rfl, rfl, rfl⟩
  | given => exact absurd hw (by show ("given" : Str) ∉ numWs; decide)
  | setting => exact absurd hw (by show ("setting" : Str) ∉ numWs; decide)
  | col c => exact ⟨c, _, _, rfl, rfl, rfl⟩
  | kept c => exact ⟨c, _, _, rfl, rfl, rfl⟩
  | call k t => exact ⟨k, _, _, rfl, rfl, rfl⟩
  | two o a b => exact absurd hw opN_num
  | cond a b c => exact absurd hw (by show ("when" : Str) ∉ numWs; decide)
/-- a subtree's tuple, its word, its number if it has one -/
theorem row_at {H : Hp} {v : V} {t : Tr} (h : Im H v (enc t)) : ∃ a xs, v = .ref a ∧ H a = some (.tup (.str (wordOf t) :: xs)) ∧ ∀ {w : Str}, w ∈ numWs → wordOf t = w → ∃ c, num1 t = some c ∧ xs[0]? = some (.int c) := by
  rw [enc_pts] at h
  obtain ⟨a, xs, rfl, ha, hx⟩ := im_tup h
  cases hx with
  | cons j1 j2 =>
  cases j1
  refine ⟨a, _, rfl, ha, fun {w} hw e => ?_⟩
  obtain ⟨c, p, r, h1, h2, h3⟩ := word_num hw e
  rw [h2, List.map_cons, h3] at j2
  cases j2 with
  | cons k1 k2 =>
  cases k1
  exact ⟨c, h1, rfl⟩
theorem mem_numsW {w : Str} {t t' : Tr} {c : Int} (m : t' ∈ subs t) (e : wordOf t' = w) (h : num1 t' = some c) : c ∈ numsW w t := List.mem_filterMap.mpr ⟨t', m, by rw [if_pos e]; exact h⟩
theorem of_numsW {w : Str} {t : Tr} {c : Int} (h : c ∈ numsW w t) : ∃ t' ∈ subs t, wordOf t' = w ∧ num1 t' = some c := by
  obtain ⟨t', m, e⟩ := List.mem_filterMap.mp h
  by_cases hw : wordOf t' = w
  · rw [if_pos hw] at e
    exact ⟨t', m, hw, e⟩
  · rw [if_neg hw] at e
    cases e
section
variable {K : PySem.W.Frag} {σ : L2.St} {H : Hp} {Q : VK}
theorem r_allRep {a : Addr} {k : Nat} (h : H a = some (.lst (List.replicate k (.bl true)))) (q : Q (.bl true) H) : rAll K [.ref a] H Q := by
  refine ⟨a, List.replicate k true, rfl, .of (by rw [h, List.map_replicate]), ?_⟩
  have e : (List.replicate k true).all id = true := by
    rw [List.all_eq_true]
    intro b hb
    rw [List.eq_of_mem_replicate hb]
    rfl
  rw [e]
  exact q
theorem r_inL {p : Addr} {x : V} {xs : List V} (h : SqL K H p xs) (f1 : flatV x = true) (f2 : xs.all flatV = true) (q : Q (.bl (inV x xs)) H) : rIn K false x (.ref p) H Q := ⟨p, xs, rfl, .inl h, f1, f2, q⟩
end
/-! ### promises -/
def spFormI (CF : Addr) : Sp := fun vs H Q _ => ∃ (x dx : Addr) (tv : V) (t : Tr), vs = [.ref x, tv] ∧ H x = some (.ins CF dx []) ∧ Im H tv (enc t) ∧ wfT t ∧ cnt t ≤ 12 ∧ ∀ H1, Same H H1 → Q .non (upd H1 x (.ins CF dx [("tree", tv)]))
def NumsTo (w : Str) (t : Tr) (H : Hp) (Q : VK) : Prop := ∀ (p : Addr) (ns : List Int) (H' : Hp), Same H H' → H' p = some (.tup (ns.map V.int)) → ns.length ≤ 64 → (∀ n ∈ ns, n ∈ numsW w t) → Q (.ref p) H'
def spNums (CF : Addr) : Sp := fun vs H Q _ => ∃ (fv : V) (t : Tr) (w : Str), vs = [fv, .str w] ∧ FormAt CF H fv t ∧ w ∈ numWs ∧ dep t < 13 ∧ cnt t ≤ 20 ∧ NumsTo w t H Q
def spNumsP (CF : Addr) (w : Str) : Sp := fun vs H Q _ => ∃ (fv : V) (t : Tr), vs = [fv] ∧ FormAt CF H fv t ∧ dep t < 13 ∧ cnt t ≤ 20 ∧ NumsTo w t H Q
def spCont (CF : Addr) : Sp := fun vs H Q _ => ∃ (fv : V) (t : Tr) (w : Str), vs = [fv, .str w] ∧ FormAt CF H fv t ∧ dep t < 13 ∧ cnt t ≤ 20 ∧ (∀ t' ∈ subs t, wordOf t' ≠ w) ∧ ∀ H', Same H H' → Q (.bl false) H'
def spHasN (CF : Addr) : Sp := fun vs H Q _ => ∃ (fv : V) (t : Tr) (b : Nat), vs = [fv, .int b] ∧ FormAt CF H fv t ∧ dep t < 13 ∧ cnt t ≤ 20 ∧ (∀ n ∈ numsW "number" t, n < b) ∧ ∀ H', Same H H' → Q (.bl true) H'
theorem FormAt.ins {CF : Addr} {H : Hp} {v : V} {t : Tr} (h : FormAt CF H v t) : ∃ a dx u, v = .ref a ∧ H a = some (.ins CF dx [("tree", u)]) := by
  obtain ⟨a, dx, u, e, h1, _⟩ := h
  exact ⟨a, dx, u, e, h1⟩
theorem scInit : FnScope ["self", "tree"] ["self", "tree"] (defScope (inClass (top 26) 0)) := ⟨rfl, rfl, rfl, by decide +kernel, rfl, by decide +kernel, by decide +kernel⟩
theorem scNumsOf : FnScope ["self", "word", "row"] ["self", "word"] (defScope (inClass (top 26) 7)) := ⟨rfl, rfl, rfl, by decide +kernel, rfl, by decide +kernel, by decide +kernel⟩
theorem scCont : FnScope ["self", "word", "row"] ["self", "word"] (defScope (inClass (top 26) 21)) := ⟨rfl, rfl, rfl, by decide +kernel, rfl, by decide +kernel, by decide +kernel⟩
theorem sc_fCalls : FnScope ["self"] ["self"] (defScope (inClass (top 26) 8)) := ⟨rfl, rfl, rfl, by decide +kernel, rfl, by decide +kernel, by decide +kernel⟩
theorem sc_fCols : FnScope ["self"] ["self"] (defScope (inClass (top 26) 9)) := ⟨rfl, rfl, rfl, by decide +kernel, rfl, by decide +kernel, by decide +kernel⟩
theorem sc_fReads : FnScope ["self"] ["self"] (defScope (inClass (top 26) 10)) := ⟨rfl, rfl, rfl, by decide +kernel, rfl, by decide +kernel, by decide +kernel⟩
theorem scHasN : FnScope ["form", "base", "row"] ["form", "base"] (defScope (top 31)) := ⟨rfl, rfl, rfl, by decide +kernel, rfl, by decide +kernel, by decide +kernel⟩
section
variable {P : Program} {w : World} {K : PySem.W.Frag} {mg : Str → Option Value} {base : Heap} {T : List NTab} {CP CB CF : Addr}
theorem ok_numsOf (D : MDf K CF "numbers_of" "Form.numbers_of" (inClass (top 26) 7)) (B : Bf mg) (Kc : Kcl P w K mg base CP CB CF) (cTrees : Cal P w K mg base "trees_in" 14 ["tree"] (spTrees 13)) : Mtd P w K mg base CF "numbers_of" 15 ["self", "word"] (spNums CF) := by
  refine D.mtd (N := ["self", "word", "row"]) (ps := ["self", "word"]) scNumsOf (fun _ _ _ _ _ _ us hl => match us, hl with | [_, _], _ => rfl) (fun vs H Q E h => ?_) fun f cdv A outer s H vs Q E hr h => ?_
  · obtain ⟨_, _, _, rfl, _⟩ := h
    rfl
  · obtain ⟨fv, t, wd, rfl, hf, hw, hd, hc, q⟩ := h
    refine ⟨_, (pss_one (ps_ret (pe_callTy c_tup (by rfl) (B _ (by decide)) b_tuple (pa_cons (pe_callB (cr_sortedSet rfl) (by rfl) (B _ (by decide)) b_sorted (pa_cons (pe_si (own := [("row", 2)]) (g := (gName 2)) rfl scNumsOf.nd (pi_list (pe_cal cTrees hr (by omega) (pa_cons (pe_fld (pv 0) rfl) pa_nil))) (blkOk_by (own := [("row", 2)]) (N := ["self", "word", "row"]) (sc := defScope (inClass (top 26) 7)) (by decide +kernel)) (fun _ _ _ _ _ => (pg_name (i := 2) scNumsOf.nd rfl (by first | exact Or.inl rfl | exact Or.inr rfl))) (fun _ _ _ _ _ => (pts_one (pt_cmpR op_eq (pe_ix (ix_tupK (K := K) rfl) (pv 2) pe_int (fun _ _ => rfl)) (pv 1) (nomark _)))) (fun _ _ _ _ _ => (pe_ix (ix_tupK (K := K) rfl) (pv 2) pe_int (fun _ _ => rfl)))) pa_nil)) pa_nil)))), ?_⟩
    repeat walk_at "st"
    refine r_treeF Kc.clF Kc.tree hf fun u iu => ?_
    repeat walk_at "st"
    refine ⟨u, t, rfl, iu, hc, hd, fun l xs H1 s1 el sub => ?_⟩
    have xl : xs.length ≤ 20 := by rw [sub.length, len_subs]; exact hc
    refine ⟨l, rfl, ⟨_, .of el⟩, fun D nD => ?_⟩
    refine si_w (walk_list (xs := xs)) nD (numsW wd t) (by omega) (fun H' s => .of (s.at el)) (fun i x H2 H3 Kt Kf hi s2 y kt kf => ?_) fun S m H4 s4 e4 hm sb => ?_
    · obtain ⟨rfl, ex⟩ := y
      obtain ⟨t', ht', it⟩ := sub.get' ex
      obtain ⟨a, rxs, rfl, ha, hn⟩ := row_at (s2.im it)
      have mem := List.mem_of_getElem? ht'
      repeat walk_at "st"
      refine ⟨rfl, ?_⟩
      repeat walk_at "st"
      refine r_ixT (.of ha) (atI_nat (j := 0) rfl) ?_
      repeat walk_at "st"
      refine ite_dec (fun e => ?_) fun _ => kf _ fun _ _ e => e
      obtain ⟨c, h1, h2⟩ := hn hw e
      repeat walk_at "st"
      refine r_ixT (.of ha) (atI_nat (j := 1) h2) ?_
      exact kt c _ (mem_numsW mem e h1) fun _ _ e => e
    · repeat walk_at "st"
      refine ⟨D, S, m, rfl, e4, hm, fun ns p _ hmem hlen np => ?_⟩
      repeat walk_at "st"
      refine r_tupL (.of upd_same) fun p5 H5 np5 s5 e5 => ?_
      exact q p5 ns H5 ((s1.trans s4).trans ((same_upd np).trans s5)) e5 (by omega) fun n hn => sb n ((hmem n).mp hn)
theorem ok_init {dS dM : Addr} (D : MDf K CF "__init__" "Form.__init__" (inClass (top 26) 0)) (Kc : Kcl P w K mg base CP CB CF) (gMF : ∃ t, mg "MOST_FORMS" = some (.int 12 t)) (cCount : Cal P w K mg base "count_in" 14 ["tree", "room"] (spCount 13)) :
    Mtd P w K mg base CF "__init__" 15 ["self", "tree"] (spFormI CF) := by
  obtain ⟨tMF, gMF⟩ := gMF
  refine D.mtd (N := ["self", "tree"]) (ps := ["self", "tree"]) scInit (fun _ _ _ _ _ _ us hl => match us, hl with | [_, _], _ => rfl) (fun vs H Q E h => ?_) fun f cdv A outer s H vs Q E hr h => ?_
  · obtain ⟨_, _, _, _, rfl, _⟩ := h
    rfl
  · obtain ⟨x, dx, tv, t, rfl, hx, im, wf, hc, q⟩ := h
    refine ⟨_, (pss_cons (ps_if (pt_cmpR op_eq (pe_cal cCount hr (by omega) (pa_cons (pv 1) (pa_cons (pe_glob (v := .int 12) (by rfl) gMF ⟨_, rfl⟩ rfl) pa_nil))) pe_int (nomark _))
        (pss_one ps_never)
        pss_nil)
      (pss_one (ps_fld (pv 0) (pv 1) rfl))), ?_⟩
    have dc := dep_cnt t
    have cp := cnt_pos t
    repeat walk_at "st"
    refine t_ifNS (fun Q' kk => ?_) fun H1 s1 => ?_
    · repeat walk_at "st"
      refine ⟨tv, t, 12, rfl, im, wf, by omega, by omega, fun H' s => ?_⟩
      repeat walk_at "st"
      exact q_decF (by omega) (kk _ s)
    repeat walk_at "st"
    exact ⟨tv, rfl, .ref x, rfl, x, CF, dx, [], rfl, s1.at hx, Kc.clF, Kc.tree, by show 0 < 1000; decide, q H1 s1⟩
theorem ok_cont (D : MDf K CF "__contains__" "Form.__contains__" (inClass (top 26) 21)) (B : Bf mg) (Kc : Kcl P w K mg base CP CB CF) (cTrees : Cal P w K mg base "trees_in" 14 ["tree"] (spTrees 13)) : Mtd P w K mg base CF "__contains__" 15 ["self", "word"] (spCont CF) := by
  refine D.mtd (N := ["self", "word", "row"]) (ps := ["self", "word"]) scCont (fun _ _ _ _ _ _ us hl => match us, hl with | [_, _], _ => rfl) (fun vs H Q E h => ?_) fun f cdv A outer s H vs Q E hr h => ?_
  · obtain ⟨_, _, _, rfl, _⟩ := h
    rfl
  · obtain ⟨fv, t, wd, rfl, hf, hd, hc, hno, q⟩ := h
    refine ⟨_, (pss_one (ps_ret (pe_and (pe_callB c_isi (by rfl) (B _ (by decide)) b_isinstance (pa_cons (pv 1) (pa_cons (pe_bltn (v := .ty "str") (by rfl) (B _ (by decide)) b_str rfl) pa_nil))) (pe_one (pe_cmpR op_in_seq (pv 1) (pe_lc (own := [("row", 2)]) (g := (gName 2)) (tt := tYes) rfl scCont.nd (pi_list (pe_cal cTrees hr (by omega) (pa_cons (pe_fld (pv 0) rfl) pa_nil))) (blkOk_by (own := [("row", 2)]) (N := ["self", "word", "row"]) (sc := defScope (inClass (top 26) 21)) (by decide +kernel)) (fun _ _ _ _ _ => (pg_name (i := 2) scCont.nd rfl (by first | exact Or.inl rfl | exact Or.inr rfl))) (fun _ _ _ _ _ => pts_nil) (fun _ _ _ _ _ => (pe_ix (ix_tupK (K := K) rfl) (pv 2) pe_int (fun _ _ => rfl)))) (by with_unfolding_all rfl)))))), ?_⟩
    repeat walk_at "st"
    refine r_isi (.base (.str _)) (b := true) (by decide +kernel) ?_
    repeat walk_at "st"
    refine r_treeF Kc.clF Kc.tree hf fun u iu => ?_
    repeat walk_at "st"
    refine ⟨u, t, rfl, iu, hc, hd, fun l xs H1 s1 el sub => ?_⟩
    have xl : xs.length = (subs t).length := sub.length
    have xl2 : xs.length ≤ 20 := by rw [xl, len_subs]; exact hc
    refine ⟨l, rfl, ⟨_, .of el⟩, fun D nD => ?_⟩
    refine lc_sc (walk_list (xs := xs)) nD (fun i => .str (wordOf ((subs t).getD i default))) (by omega) (fun H' s => .of (s.at el)) (fun i x H2 H3 Kt hi s2 y kt => ?_) fun H4 s4 e4 => ?_
    · obtain ⟨rfl, ex⟩ := y
      obtain ⟨t', ht', it⟩ := sub.get' ex
      obtain ⟨a, rxs, rfl, ha, hn⟩ := row_at (s2.im it)
      have e : (subs t).getD i default = t' := by rw [List.getD_eq_getElem?_getD, ht']; rfl
      simp only [e] at kt
      repeat walk_at "st"
      refine ⟨rfl, ?_⟩
      repeat walk_at "st"
      exact r_ixT (.of ha) (atI_nat (j := 0) rfl) (kt _ fun _ _ e => e)
    · refine r_inL (.of e4) rfl ?_ ?_
      · rw [List.all_eq_true]
        intro b hb
        obtain ⟨_, _, rfl⟩ := List.mem_map.mp hb
        rfl
      · have e : inV (.str wd) ((List.range xs.length).map fun i => .str (wordOf ((subs t).getD i default))) = false := by
          unfold inV
          rw [List.any_eq_false]
          intro b hb z
          obtain ⟨i, hi, rfl⟩ := List.mem_map.mp hb
          have hi2 : i < (subs t).length := by rw [← xl]; exact List.mem_range.mp hi
          have m : (subs t).getD i default ∈ subs t := by
            rw [List.getD_eq_getElem?_getD, List.getElem?_eq_getElem hi2]
            exact List.getElem_mem hi2
          exact hno _ m (of_decide_eq_true z)
        rw [e]
        exact q _ (s1.trans s4)
theorem ok_hasN (D : Df K mg "has_numbers_of" (top 31)) (B : Bf mg) (Kc : Kcl P w K mg base CP CB CF) (cTrees : Cal P w K mg base "trees_in" 14 ["tree"] (spTrees 13)) : Cal P w K mg base "has_numbers_of" 15 ["form", "base"] (spHasN CF) := by
  refine D.cal (N := ["form", "base", "row"]) (ps := ["form", "base"]) scHasN (fun _ _ _ _ _ _ us hl => match us, hl with | [_, _], _ => rfl) (fun vs H Q E h => ?_) fun f cdv A outer s H vs Q E hr h => ?_
  · obtain ⟨_, _, _, rfl, _⟩ := h
    rfl
  · obtain ⟨fv, t, b, rfl, hf, hd, hc, hn, q⟩ := h
    refine ⟨_, (pss_one (ps_ret (pe_callB (cr_all rfl) (by rfl) (B _ (by decide)) b_all (pa_cons (pe_lc (own := [("row", 2)]) (g := (gName 2)) rfl scHasN.nd (pi_list (pe_cal cTrees hr (by omega) (pa_cons (pe_fld (pv 0) rfl) pa_nil))) (blkOk_by (own := [("row", 2)]) (N := ["form", "base", "row"]) (sc := defScope (top 31)) (by decide +kernel)) (fun _ _ _ _ _ => (pg_name (i := 2) scHasN.nd rfl (by first | exact Or.inl rfl | exact Or.inr rfl))) (fun _ _ _ _ _ => (pts_one (pt_cmpR op_eq (pe_ix (ix_tupK (K := K) rfl) (pv 2) pe_int (fun _ _ => rfl)) pe_str (nomark _)))) (fun _ _ _ _ _ => (pe_cmpR op_lt (pe_ix (ix_tupK (K := K) rfl) (pv 2) pe_int (fun _ _ => rfl)) (pv 1) (nomark _)))) pa_nil)))), ?_⟩
    repeat walk_at "st"
    refine r_treeF Kc.clF Kc.tree hf fun u iu => ?_
    repeat walk_at "st"
    refine ⟨u, t, rfl, iu, hc, hd, fun l xs H1 s1 el sub => ?_⟩
    have xl2 : xs.length ≤ 20 := by rw [sub.length, len_subs]; exact hc
    refine ⟨l, rfl, ⟨_, .of el⟩, fun D nD => ?_⟩
    refine lc_w (walk_list (xs := xs)) nD (fun i acc _ => ∃ k, acc = List.replicate k (.bl true)) (fun _ _ _ _ _ z => z) (by omega) (fun H' s => .of (s.at el)) ⟨0, rfl⟩ (fun i x acc H2 H3 Kt Kf hi s2 p y kt kf => ?_) fun acc H4 s4 e4 al p => ?_
    · obtain ⟨rfl, ex⟩ := y
      obtain ⟨t', ht', it⟩ := sub.get' ex
      obtain ⟨a, rxs, rfl, ha, hnn⟩ := row_at (s2.im it)
      have mem := List.mem_of_getElem? ht'
      repeat walk_at "st"
      refine ⟨rfl, ?_⟩
      repeat walk_at "st"
      refine r_ixT (.of ha) (atI_nat (j := 0) rfl) ?_
      repeat walk_at "st"
      refine ite_dec (fun e => ?_) fun _ => kf _ (fun _ _ e => e) p
      obtain ⟨c, h1, h2⟩ := hnn (w := "number") (by decide) e
      repeat walk_at "st"
      refine r_ixT (.of ha) (atI_nat (j := 1) h2) ?_
      repeat walk_at "st"
      rw [decide_eq_true (hn c (mem_numsW mem e h1))]
      obtain ⟨k, rfl⟩ := p
      exact kt _ _ (fun _ _ e => e) ⟨k + 1, by rw [List.replicate_succ']⟩
    · obtain ⟨k, rfl⟩ := p
      repeat walk_at "st"
      exact r_allRep e4 (q _ (s1.trans s4))
end
end K5
end

section
set_option maxHeartbeats 4000000
/-! LE: bodies, functions, the making of a Book. -/
namespace K5
open PySem PySem.Spec L2
open PyProof.Rows hiding St
local macro_rules | `(tactic| walk_at "lf") => `(tactic| first
  | assumption
  | (refine Same.im (by assumption) ?_; walk_at "lf")
  | (refine Same.ims (by assumption) ?_; walk_at "lf")
  | (refine Same.at (by assumption) ?_; walk_at "lf")
  | (refine Same.sqT (by assumption) ?_; walk_at "lf")
  | (refine Same.seq (by assumption) ?_; walk_at "lf")
  | exact SqL.of (by walk_at "lf")
  | exact SqT.of (by walk_at "lf"))
local macro_rules | `(tactic| walk_at "st") => `(tactic| first
  | ((with_reducible refine r_var (v := ?vv) ?rv ?_); (case rv => exact rfl))
  | with_reducible first
    | refine r_seq ?_
    | refine r_asg ?_
    | refine r_gName ?_
    | refine r_c ?_
    | refine r_op ?_
    | refine r_I0 ?_
    | refine r_exbl ?_
    | refine r_cb ?_
    | refine r_nil ?_
    | refine r_cons ?_
    | refine r_test ?_
    | refine r_tB ?_
    | refine r_and ?_
    | refine r_or ?_
    | refine r_not ?_
    | refine r_if ?_
    | refine r_ret ?_
    | refine r_next ?_
    | refine r_tup ?_
    | refine r_lst ?_
    | refine r_int ?_
    | refine r_exint ?_
    | refine r_sl ?_
    | refine r_part ?_
    | refine r_nopart ?_
    | refine r_par ?_
    | refine r_ex2 ?_
    | refine r_call ?_
    | refine r_un ?_
    | refine r_U ?_
    | refine r_andV ?_
    | refine r_orV ?_
    | refine r_notV ?_
    | refine r_chain ?_
    | refine r_isN ?_
    | refine r_notN ?_
    | refine r_drop ?_
    | refine r_I (by decide) ?_
    | refine r_EqI ?_
    | refine r_NeI ?_
    | refine r_EqS ?_
    | refine r_NeS ?_
    | refine r_gSub ?_
    | refine r_gCons ?_
    | refine r_gNil ?_
    | refine r_dget ?_
    | refine r_pcons ?_
    | refine r_pnil ?_
    | refine iteT ?_
    | refine iteF ?_
    | refine iteNF ?_
    | refine iteNT ?_
    | refine r_prop ?_
    | refine r_dget2 ?_
    | refine r_din ?_
    | refine r_dput ?_
    | refine r_mk ?_
    | refine r_propG ?_
    | refine r_mtd ?_
    | refine r_bm ?_
    | refine r_si ?_
    | refine r_for ?_
    | refine r_lc ?_
    | refine r_iT ?_
    | refine r_iL ?_
    | refine r_enT ?_
    | refine r_zip ?_
    | refine r_zs ?_
    | refine r_iR1 ?_
    | refine r_yes ?_
    | refine r_fld ?_
    | refine r_star1 ?_
    | refine r_ctE ?_
    | refine r_div (by decide) (by decide) ?_
    | refine r_mulL (by decide) (by decide) ?_
    | refine r_mulR (by decide) (by decide) ?_)
local macro_rules | `(tactic| walk_at "tq") => `(tactic| ((repeat walk_at "st"); first
  | assumption
  | (refine q_decT (by omega) (by assumption))
  | (refine q_decF (by omega) (by assumption))
  | (refine q_nT (by omega) (by assumption))
  | (refine q_nF (by omega) (by assumption))
  | (refine ite_dec (fun _ => ?_) (fun _ => ?_) <;> first | (exfalso; omega) | walk_at "tq")
  | (refine ite_ndec (fun _ => ?_) (fun _ => ?_) <;> first | (exfalso; omega) | walk_at "tq")))
theorem self_subs (t : Tr) : t ∈ subs t := by
  rw [subs_pts]
  exact List.mem_cons_self
theorem okB_subs {b k : Nat} : ∀ {t t' : Tr}, okB b k t → t' ∈ subs t → okB b k t' := by
  intro t
  induction t with
  | call j t ih =>
    intro t' h m
    simp only [subs, List.mem_cons] at m
    rcases m with rfl | m
    · exact h
    · exact ih h.2 m
  | two o x y ih1 ih2 =>
    intro t' h m
    simp only [subs, List.mem_cons, List.mem_append] at m
    rcases m with rfl | m | m
    · exact h
    · exact ih1 h.2.1 m
    · exact ih2 h.2.2 m
  | cond x y z ih1 ih2 ih3 =>
    intro t' h m
    simp only [subs, List.mem_cons, List.mem_append] at m
    rcases m with rfl | m | m | m
    · exact h
    · exact ih1 h.1 m
    · exact ih2 h.2.1 m
    · exact ih3 h.2.2 m
  | _ =>
    intro t' h m
    simp only [subs, List.mem_cons, List.not_mem_nil, or_false] at m
    subst m
    exact h
/-- what a subtree with such a word is -/
theorem word_is {t : Tr} {w : Str} {c : Int} (e : wordOf t = w) (h : num1 t = some c) : (w = "number" ∧ t = .num c) ∨ (w = "column" ∧ t = .col c) ∨ (w = "kept" ∧ t = .kept c) ∨ (w = "call" ∧ ∃ k u, c = (k : Nat) ∧ t = .call k u) := by
  cases t <;> simp only [num1, Option.some.injEq, reduceCtorEq] at h
  · subst h; exact .inl ⟨e.symm, rfl⟩
  · subst h; exact .inr (.inl ⟨e.symm, rfl⟩)
  · subst h; exact .inr (.inr (.inl ⟨e.symm, rfl⟩))
  · subst h; exact .inr (.inr (.inr ⟨e.symm, _, _, rfl, rfl⟩))
theorem nums_col {b k : Nat} {t : Tr} (h : okB b k t) {c : Int} (m : c ∈ numsW "column" t) : False := by
  obtain ⟨t', m, e, hn⟩ := of_numsW m
  have ok := okB_subs h m
  rcases word_is e hn with ⟨z, _⟩ | ⟨_, rfl⟩ | ⟨z, _⟩ | ⟨z, _⟩
  · exact absurd z (by decide)
  · exact ok
  · exact absurd z (by decide)
  · exact absurd z (by decide)
theorem nums_kept {b k : Nat} {t : Tr} (h : okB b k t) {c : Int} (m : c ∈ numsW "kept" t) : False := by
  obtain ⟨t', m, e, hn⟩ := of_numsW m
  have ok := okB_subs h m
  rcases word_is e hn with ⟨z, _⟩ | ⟨z, _⟩ | ⟨_, rfl⟩ | ⟨z, _⟩
  · exact absurd z (by decide)
  · exact absurd z (by decide)
  · exact ok
  · exact absurd z (by decide)
theorem nums_call {b k : Nat} {t : Tr} (h : okB b k t) {c : Int} (m : c ∈ numsW "call" t) : c < k := by
  obtain ⟨t', m, e, hn⟩ := of_numsW m
  have ok := okB_subs h m
  rcases word_is e hn with ⟨z, _⟩ | ⟨z, _⟩ | ⟨z, _⟩ | ⟨_, j, u, rfl, rfl⟩
  · exact absurd z (by decide)
  · exact absurd z (by decide)
  · exact absurd z (by decide)
  · exact Int.ofNat_lt.mpr ok.1
theorem nums_num {b k : Nat} {t : Tr} (h : okB b k t) {c : Int} (m : c ∈ numsW "number" t) : c < b := by
  obtain ⟨t', m, e, hn⟩ := of_numsW m
  have ok := okB_subs h m
  rcases word_is e hn with ⟨_, rfl⟩ | ⟨z, _⟩ | ⟨z, _⟩ | ⟨z, _⟩
  · exact ok.2
  · exact absurd z (by decide)
  · exact absurd z (by decide)
  · exact absurd z (by decide)
theorem okB_wf {b k : Nat} (hb : b ≤ 3) (hk : k ≤ 3) : ∀ {t : Tr}, okB b k t → wfT t := by
  intro t
  induction t with
  | num n => intro h; exact ⟨h.1, by have := h.2; omega⟩
  | given => intro _; trivial
  | setting => intro _; trivial
  | col c => intro h; exact h.elim
  | kept c => intro h; exact h.elim
  | call j t ih => intro h; exact ⟨by have := h.1; omega, ih h.2⟩
  | two o x y i1 i2 => intro h; exact ⟨h.1, i1 h.2.1, i2 h.2.2⟩
  | cond x y z i1 i2 i3 => intro h; exact ⟨i1 h.1, i2 h.2.1, i3 h.2.2⟩
section
variable {σ : L2.St} {H : Hp} {Q : VK} {CF : Addr}
theorem r_nums {fv : V} {t : Tr} {w : Str} (hf : FormAt CF H fv t) (hd : dep t < 13) (hc : cnt t ≤ 20) (q : NumsTo w t H Q) : ∃ a dx fs, fv = .ref a ∧ H a = some (.ins CF dx fs) ∧ spNumsP CF w [.ref a] H Q E0 := by
  obtain ⟨a, dx, u, rfl, ha⟩ := hf.ins
  exact ⟨a, dx, _, rfl, ha, _, t, rfl, hf, hd, hc, q⟩
end
theorem walk_ints {K : PySem.W.Frag} {a : Addr} {ns : List Int} : Walk (Itt K a) ns.length (fun H => SqT K H a (ns.map V.int)) (YAt (ns.map V.int)) := by
  have wk := walk_tup (K := K) (a := a) (xs := ns.map V.int)
  rw [List.length_map] at wk
  exact wk
theorem r_fldset {K : PySem.W.Frag} {σ : L2.St} {H : Hp} {D : Ends} {ta tv : TE} {f : Str} (q : tv σ H fun y H1 => ta σ H1 fun x H2 => ∃ a C dx fs, x = .ref a ∧ H2 a = some (.ins C dx fs) ∧ Cls K C ∧ NoAttr K C f ∧ fs.length < 1000 ∧ D.nx σ (upd H2 a (.ins C dx (putF f y fs)))) : sFld K ta tv f D σ H := q
def spIsBody (CF : Addr) : Sp := fun vs H Q _ => ∃ (fv : V) (t : Tr) (b k : Nat), vs = [fv, .int b, .int k] ∧ FormAt CF H fv t ∧ dep t < 13 ∧ cnt t ≤ 20 ∧ okB b k t ∧ ∀ H', Same H H' → Q (.bl true) H'
def spAreF (CF : Addr) : Sp := fun vs H Q _ => ∃ (fa : Addr) (xs : List V) (fns : List (List Tr)) (b : Nat), vs = [.ref fa, .int b] ∧ H fa = some (.tup xs) ∧ Each (RowAt CF H) xs fns ∧ FnsOk fns b ∧ ∀ H', Same H H' → Q (.bl true) H'
def spBookI (CB CF : Addr) : Sp := fun vs H Q _ => ∃ (x dx fa : Addr) (xs : List V) (B : Book), vs = [.ref x, .int B.base, .int B.settings, .ref fa] ∧ H x = some (.ins CB dx []) ∧ H fa = some (.tup xs) ∧ Each (RowAt CF H) xs B.fns ∧ BookOk B ∧
  ∀ p H1, Same H H1 → H1 p = some (.tup [.int B.base, .int B.settings, .ref fa]) → Q .non (upd H1 x (.ins CB dx [("parts", .ref p)]))
theorem scIsBody : FnScope ["thing", "base", "function", "k"] ["thing", "base", "function"] (defScope (top 32)) := ⟨rfl, rfl, rfl, by decide +kernel, rfl, by decide +kernel, by decide +kernel⟩
theorem scAreF : FnScope ["functions", "base", "function", "bodies", "one"] ["functions", "base"] (defScope (top 33)) := ⟨rfl, rfl, rfl, by decide +kernel, rfl, by decide +kernel, by decide +kernel⟩
theorem scInitB : FnScope ["self", "base", "settings", "functions"] ["self", "base", "settings", "functions"] (defScope (inClass (top 34) 0)) := ⟨rfl, rfl, rfl, by decide +kernel, rfl, by decide +kernel, by decide +kernel⟩
section
variable {P : Program} {w : World} {K : PySem.W.Frag} {mg : Str → Option Value} {base : Heap} {T : List NTab} {CP CB CF : Addr}
theorem PDf.prpS {C : Addr} {m q : Str} {st : Stmt} {N : List Str} {k : Nat} {sp : Sp} (D : PDf K C m q st) (S : FnScope N ["self"] (defScope st))
    (hb : ∀ (kV doc pm : Value) (an : Option Addr) (cdv ct : Value) (us : List Value), us.length = 1 → bindArgs (PySem.W.fnOf m q (defArgs st) (defBody st) (defScope st) .none kV doc pm an cdv ct) ⟨us, []⟩ = pure ((["self"] : List Str).zip us))
    (len : ∀ vs H Q E, sp vs H Q E → vs.length = 1)
    (body : ∀ (f : Addr) (cdv : Value) (A : Around) (outer : List Env) (s : Shared) (H : Hp) (vs : List V) (Q : VK) (E : XK), Room k (A.deeper (envOfC q (defScope st) s.heap.objs.size f cdv)) → sp vs H Q E →
      ∃ t, PSs (cxOf CX0 P w K mg base N q (defScope st) f cdv A outer s H E).nox (defBody st) t ∧ t { nx := fun _ H' => Q .non H', rt := Q } (start N vs) H) : PrpS P w K mg base C m (k + 1) sp := by
  obtain ⟨p, f, fd, h1, F⟩ := D
  refine ⟨p, f, fd, h1, F.ok (ps := ["self"]) S len fun cdv A outer s H vs Q E hr hsp => ?_, F.bindsN hb⟩
  obtain ⟨t, ht, q⟩ := body f cdv A outer s H vs Q E hr hsp
  exact ⟨t, ht.nox, q⟩
theorem ok_fCalls (D : PDf K CF "calls" "Form.calls" (inClass (top 26) 8)) (clF : Cls K CF) (mNums : Mtd P w K mg base CF "numbers_of" 15 ["self", "word"] (spNums CF)) : PrpS P w K mg base CF "calls" 16 (spNumsP CF "call") := by
  refine D.prpS (N := ["self"]) sc_fCalls (fun _ _ _ _ _ _ us hl => match us, hl with | [_], _ => rfl) (fun vs H Q E h => ?_) fun f cdv A outer s H vs Q E hr h => ?_
  · obtain ⟨_, _, rfl, _⟩ := h
    rfl
  · obtain ⟨fv, t, rfl, hf, hd, hc, q⟩ := h
    refine ⟨_, (pss_one (ps_ret (pe_mtd mNums clF hr (by omega) (pv 0) (pa_cons pe_str pa_nil)))), ?_⟩
    obtain ⟨a, dx, u, rfl, ha⟩ := hf.ins
    repeat walk_at "st"
    refine ⟨a, dx, _, rfl, ha, rfl, ?_⟩
    repeat walk_at "st"
    exact ⟨_, t, _, rfl, hf, by decide, hd, hc, q⟩
theorem ok_fCols (D : PDf K CF "columns" "Form.columns" (inClass (top 26) 9)) (clF : Cls K CF) (mNums : Mtd P w K mg base CF "numbers_of" 15 ["self", "word"] (spNums CF)) : PrpS P w K mg base CF "columns" 16 (spNumsP CF "column") := by
  refine D.prpS (N := ["self"]) sc_fCols (fun _ _ _ _ _ _ us hl => match us, hl with | [_], _ => rfl) (fun vs H Q E h => ?_) fun f cdv A outer s H vs Q E hr h => ?_
  · obtain ⟨_, _, rfl, _⟩ := h
    rfl
  · obtain ⟨fv, t, rfl, hf, hd, hc, q⟩ := h
    refine ⟨_, (pss_one (ps_ret (pe_mtd mNums clF hr (by omega) (pv 0) (pa_cons pe_str pa_nil)))), ?_⟩
    obtain ⟨a, dx, u, rfl, ha⟩ := hf.ins
    repeat walk_at "st"
    refine ⟨a, dx, _, rfl, ha, rfl, ?_⟩
    repeat walk_at "st"
    exact ⟨_, t, _, rfl, hf, by decide, hd, hc, q⟩
theorem ok_fReads (D : PDf K CF "reads" "Form.reads" (inClass (top 26) 10)) (clF : Cls K CF) (mNums : Mtd P w K mg base CF "numbers_of" 15 ["self", "word"] (spNums CF)) : PrpS P w K mg base CF "reads" 16 (spNumsP CF "kept") := by
  refine D.prpS (N := ["self"]) sc_fReads (fun _ _ _ _ _ _ us hl => match us, hl with | [_], _ => rfl) (fun vs H Q E h => ?_) fun f cdv A outer s H vs Q E hr h => ?_
  · obtain ⟨_, _, rfl, _⟩ := h
    rfl
  · obtain ⟨fv, t, rfl, hf, hd, hc, q⟩ := h
    refine ⟨_, (pss_one (ps_ret (pe_mtd mNums clF hr (by omega) (pv 0) (pa_cons pe_str pa_nil)))), ?_⟩
    obtain ⟨a, dx, u, rfl, ha⟩ := hf.ins
    repeat walk_at "st"
    refine ⟨a, dx, _, rfl, ha, rfl, ?_⟩
    repeat walk_at "st"
    exact ⟨_, t, _, rfl, hf, by decide, hd, hc, q⟩
theorem ok_isBody (D : Df K mg "is_body" (top 32)) (B : Bf mg) (Kc : Kcl P w K mg base CP CB CF) (Km : Kcm K mg CP CB CF) (cHasN : Cal P w K mg base "has_numbers_of" 15 ["form", "base"] (spHasN CF))
    (pCalls : PrpS P w K mg base CF "calls" 16 (spNumsP CF "call")) (pCols : PrpS P w K mg base CF "columns" 16 (spNumsP CF "column")) (pReads : PrpS P w K mg base CF "reads" 16 (spNumsP CF "kept")) :
    Cal P w K mg base "is_body" 18 ["thing", "base", "function"] (spIsBody CF) := by
  have clF := Kc.clF
  have isForm := Km.insF
  have gForm := Km.gForm
  refine D.cal (N := ["thing", "base", "function", "k"]) (ps := ["thing", "base", "function"]) scIsBody (fun _ _ _ _ _ _ us hl => match us, hl with | [_, _, _], _ => rfl) (fun vs H Q E h => ?_) fun f cdv A outer s H vs Q E hr h => ?_
  · obtain ⟨_, _, _, _, rfl, _⟩ := h
    rfl
  · obtain ⟨fv, t, b, k, rfl, hf, hd, hc, ok, q⟩ := h
    refine ⟨_, (pss_cons (ps_if (pw_or (pt_not (pt_val (pe_callB (c_ins isForm) (by rfl) (B _ (by decide)) b_isinstance (pa_cons (pv 0) (pa_cons (pe_globR gForm) pa_nil))))) (pw_or1 (pt_not (pt_val (pe_cal cHasN hr (by omega) (pa_cons (pv 0) (pa_cons (pv 1) pa_nil))))))).pt
        (pss_one (ps_ret pe_bl))
        pss_nil)
      (pss_one (ps_ret (pe_and (pe_cmpR (op_eqD hr.units) (pe_propS pCols clF hr (by omega) (pv 0)) (pe_tup pa_nil) (nomark _)) (pe_and (pe_cmpR (op_eqD hr.units) (pe_propS pReads clF hr (by omega) (pv 0)) (pe_tup pa_nil) (nomark _)) (pe_one (pe_callB (cr_all rfl) (by rfl) (B _ (by decide)) b_all (pa_cons (pe_lc (own := [("k", 3)]) (g := (gName 3)) (tt := tYes) rfl scIsBody.nd (pi_tup (pe_propS pCalls clF hr (by omega) (pv 0))) (blkOk_by (own := [("k", 3)]) (N := ["thing", "base", "function", "k"]) (sc := defScope (top 32)) (by decide +kernel)) (fun _ _ _ _ _ => (pg_name (i := 3) scIsBody.nd rfl (by first | exact Or.inl rfl | exact Or.inr rfl))) (fun _ _ _ _ _ => pts_nil) (fun _ _ _ _ _ => (pe_cmpR op_lt (pv 3) (pv 2) (nomark _)))) pa_nil)))))))), ?_⟩
    obtain ⟨a, dx, u, rfl, ha⟩ := hf.ins
    repeat walk_at "st"
    refine t_ifNS (fun Q' kk => ?_) fun H1 s1 => ?_
    · repeat walk_at "st"
      refine ⟨a, dx, _, rfl, ha, ?_⟩
      repeat walk_at "st"
      refine ⟨_, t, b, rfl, hf, hd, hc, fun n hn => nums_num ok hn, fun H' s => ?_⟩
      repeat walk_at "st"
      exact kk _ s
    repeat walk_at "st"
    refine r_nums (hf.isn s1.isn) hd hc fun p ns H2 s2 e2 hlen hns => ?_
    obtain rfl : ns = [] := List.eq_nil_iff_forall_not_mem.mpr fun n hn => nums_col ok (hns n hn)
    repeat walk_at "st"
    refine r_newT (by show 0 ≤ sizeLine; decide) fun p3 H3 np3 s3 e3 => ?_
    refine r_eqD (Im.dp _ _ (.tup (s3.at e2) .nil)) (Im.dp _ _ (.tup e3 .nil)) (by decide +kernel) (by decide +kernel) ?_
    refine ⟨true, rfl, iteT ?_⟩
    have s13 := (s1.trans s2).trans s3
    repeat walk_at "st"
    refine r_nums (hf.isn s13.isn) hd hc fun p ns H4 s4 e4 hlen hns => ?_
    obtain rfl : ns = [] := List.eq_nil_iff_forall_not_mem.mpr fun n hn => nums_kept ok (hns n hn)
    repeat walk_at "st"
    refine r_newT (by show 0 ≤ sizeLine; decide) fun p5 H5 np5 s5 e5 => ?_
    refine r_eqD (Im.dp _ _ (.tup (s5.at e4) .nil)) (Im.dp _ _ (.tup e5 .nil)) (by decide +kernel) (by decide +kernel) ?_
    refine ⟨true, rfl, iteT ?_⟩
    have s15 := (s13.trans s4).trans s5
    repeat walk_at "st"
    refine r_nums (hf.isn s15.isn) hd hc fun p ns H6 s6 e6 hlen hns => ?_
    refine ⟨p, rfl, ⟨_, .of e6⟩, fun D nD => ?_⟩
    refine lc_sc walk_ints nD (fun _ => .bl true) (by omega) (fun H' s => SqT.of (s.at e6)) (fun i x H7 H8 Kt hi s7 y kt => ?_) fun H9 s9 e9 => ?_
    · obtain ⟨rfl, ex⟩ := y
      rw [List.getElem?_map] at ex
      obtain ⟨n, hn, rfl⟩ := Option.map_eq_some_iff.mp ex
      have lt := nums_call ok (hns n (List.mem_of_getElem? hn))
      repeat walk_at "st"
      refine ⟨rfl, ?_⟩
      repeat walk_at "st"
      rw [decide_eq_true lt]
      exact kt _ fun _ _ e => e
    · repeat walk_at "st"
      exact r_allR e9 (fun _ _ => rfl) (q _ ((s15.trans s6).trans s9))
theorem ok_areF (D : Df K mg "are_functions" (top 33)) (B : Bf mg) (gMFn : ∃ t, mg "MOST_FUNCTIONS" = some (.int 3 t)) (gMBd : ∃ t, mg "MOST_BODIES" = some (.int 3 t)) (cIsBody : Cal P w K mg base "is_body" 18 ["thing", "base", "function"] (spIsBody CF)) :
    Cal P w K mg base "are_functions" 19 ["functions", "base"] (spAreF CF) := by
  obtain ⟨t1, gMFn⟩ := gMFn
  obtain ⟨t2, gMBd⟩ := gMBd
  refine D.cal (N := ["functions", "base", "function", "bodies", "one"]) (ps := ["functions", "base"]) scAreF (fun _ _ _ _ _ _ us hl => match us, hl with | [_, _], _ => rfl) (fun vs H Q E h => ?_) fun f cdv A outer s H vs Q E hr h => ?_
  · obtain ⟨_, _, _, _, rfl, _⟩ := h
    rfl
  · obtain ⟨fa, xs, fns, b, rfl, hfa, hxs, ok, q⟩ := h
    refine ⟨_, (pss_cons (ps_if (pw_or (pt_not (pt_val (pe_callB c_isi (by rfl) (B _ (by decide)) b_isinstance (pa_cons (pv 0) (pa_cons (pe_bltn (v := .ty "tuple") (by rfl) (B _ (by decide)) b_tuple rfl) pa_nil))))) (pw_or1 (pt_not (pt_chain op_le op_le pe_int (pe_callB c_len (by rfl) (B _ (by decide)) b_len (pa_cons (pv 0) pa_nil)) (pe_glob (v := .int 3) (by rfl) gMFn ⟨_, rfl⟩ rfl))))).pt
        (pss_one (ps_ret pe_bl))
        pss_nil)
      (pss_cons (ps_for PassesOwn.never rfl (pi_enumT (by rfl) (B _ (by decide)) (pa_cons (pv 0) pa_nil)) (pg_tup rfl (pgs_cons (pg_name (i := 2) scAreF.nd rfl (by first | exact Or.inl rfl | exact Or.inr rfl)) (pgs_cons (pg_name (i := 3) scAreF.nd rfl (by first | exact Or.inl rfl | exact Or.inr rfl)) pgs_nil)))
        (pss_cons (ps_if (pw_or (pt_not (pt_val (pe_callB c_isi (by rfl) (B _ (by decide)) b_isinstance (pa_cons (pv 3) (pa_cons (pe_bltn (v := .ty "tuple") (by rfl) (B _ (by decide)) b_tuple rfl) pa_nil))))) (pw_or1 (pt_not (pt_chain op_le op_le pe_int (pe_callB c_len (by rfl) (B _ (by decide)) b_len (pa_cons (pv 3) pa_nil)) (pe_glob (v := .int 3) (by rfl) gMBd ⟨_, rfl⟩ rfl))))).pt
          (pss_one (ps_ret pe_bl))
          pss_nil)
        (pss_one (ps_if (pt_not (pt_val (pe_callB (cr_all rfl) (by rfl) (B _ (by decide)) b_all (pa_cons (pe_lc (own := [("one", 4)]) (g := (gName 4)) (tt := tYes) rfl scAreF.nd (pi_tup (pv 3)) (blkOk_by (own := [("one", 4)]) (N := ["functions", "base", "function", "bodies", "one"]) (sc := defScope (top 33)) (by decide +kernel)) (fun _ _ _ _ _ => (pg_name (i := 4) scAreF.nd rfl (by first | exact Or.inl rfl | exact Or.inr rfl))) (fun _ _ _ _ _ => pts_nil) (fun _ _ _ _ _ => (pe_cal cIsBody hr (by omega) (pa_cons (pv 4) (pa_cons (pv 1) (pa_cons (pv 2) pa_nil)))))) pa_nil))))
          (pss_one (ps_ret pe_bl))
          pss_nil))))
      (pss_one (ps_ret pe_bl)))), ?_⟩
    have xl := hxs.length
    have l1 := ok.len1
    have l3 := ok.len3
    repeat walk_at "st"
    refine t_ifN (fun Q' kk => ?_) ?_
    · repeat walk_at "st"
      refine r_isi (.base (.tup hfa)) (b := true) (by decide +kernel) ?_
      repeat walk_at "st"
      refine r_lenT (.of hfa) xl ?_
      repeat walk_at "st"
      refine ite_dec (fun _ => ?_) fun z => absurd (show (1 : Int) ≤ fns.length by omega) z
      repeat walk_at "st"
      exact q_nF (by omega) kk
    repeat walk_at "st"
    refine ⟨fa, xs, rfl, .of hfa, ?_⟩
    refine for_w (walk_en (xs := xs)) (fun i σ' H' => Same H H' ∧ ∃ o1 o2, σ' = [some (.ref fa), some (.int b), o1, o2, none]) ⟨fun _ _ e => e, none, none, rfl⟩ (fun i σ' H' _ z => .of (z.1.at hfa)) ?_ ?_
    · rintro i x σ' H1 H2 hi ⟨s1, o1, o2, rfl⟩ y
      obtain ⟨Tp, a, v, rfl, s2, eT, ea, eb⟩ := ypair y
      cases ea
      obtain ⟨r, hr', rat⟩ := hxs.get' eb
      have s12 := s1.trans s2
      obtain ⟨rb, rys, rfl, hrb, hrys⟩ := rat.isn s12.isn
      have rm := List.mem_of_getElem? hr'
      have r1 := ok.row1 r rm
      have r3 := ok.row3 r rm
      have rl := hrys.length
      refine r_gTup (.of eT) rfl ?_
      repeat walk_at "st"
      dsimp only
      refine t_ifN (fun Q' kk => ?_) ?_
      · repeat walk_at "st"
        refine r_isi (.base (.tup hrb)) (b := true) (by decide +kernel) ?_
        repeat walk_at "st"
        refine r_lenT (.of hrb) rl ?_
        repeat walk_at "st"
        refine ite_dec (fun _ => ?_) fun z => absurd (show (1 : Int) ≤ r.length by omega) z
        repeat walk_at "st"
        exact q_nF (by omega) kk
      repeat walk_at "st"
      dsimp only
      refine t_ifNS (fun Q' kk => ?_) fun H3 s3 => ?_
      · repeat walk_at "st"
        refine ⟨rb, rfl, ⟨_, .of hrb⟩, fun D nD => ?_⟩
        refine lc_sc (walk_tup (xs := rys)) nD (fun _ => .bl true) (by omega) (fun H' s => .of (s.at hrb)) (fun j x H4 H5 Kt hj s4 y kt => ?_) fun H6 s6 e6 => ?_
        · obtain ⟨rfl, ex⟩ := y
          obtain ⟨t, ht, fat⟩ := hrys.get' ex
          obtain ⟨bo, bc⟩ := ok.body i r hr' t (List.mem_of_getElem? ht)
          have dc := dep_cnt t
          repeat walk_at "st"
          refine ⟨rfl, ?_⟩
          repeat walk_at "st"
          exact ⟨_, t, b, i, rfl, fat.isn s4.isn, by omega, by omega, bo, fun H' s => kt _ s⟩
        · repeat walk_at "st"
          refine r_allR e6 (fun _ _ => rfl) ?_
          repeat walk_at "st"
          exact kk _ s6
      repeat walk_at "st"
      exact ⟨s12.trans s3, _, _, rfl⟩
    · rintro σ' H1 ⟨s1, o1, o2, rfl⟩
      repeat walk_at "st"
      exact q _ s1
theorem ok_initB (D : MDf K CB "__init__" "Book.__init__" (inClass (top 34) 0)) (Kc : Kcl P w K mg base CP CB CF) (Km : Kcm K mg CP CB CF) (cBtw : Cal P w K mg base "is_between" 1 ["thing", "low", "high"] spBtw) (cAreF : Cal P w K mg base "are_functions" 19 ["functions", "base"] (spAreF CF)) :
    Mtd P w K mg base CB "__init__" 20 ["self", "base", "settings", "functions"] (spBookI CB CF) := by
  refine D.mtd (N := ["self", "base", "settings", "functions"]) (ps := ["self", "base", "settings", "functions"]) scInitB (fun _ _ _ _ _ _ us hl => match us, hl with | [_, _, _, _], _ => rfl) (fun vs H Q E h => ?_) fun f cdv A outer s H vs Q E hr h => ?_
  · obtain ⟨_, _, _, _, _, rfl, _⟩ := h
    rfl
  · obtain ⟨x, dx, fa, xs, Bk, rfl, hx, hfa, hxs, bok, q⟩ := h
    refine ⟨_, (pss_cons (ps_if (pt_not (pt_val (pe_cal cBtw hr (by omega) (pa_cons (pv 1) (pa_cons pe_int (pa_cons pe_int pa_nil))))))
        (pss_one ps_never)
        pss_nil)
      (pss_cons (ps_if (pt_not (pt_val (pe_cal cBtw hr (by omega) (pa_cons (pv 2) (pa_cons pe_int (pa_cons (pv 1) pa_nil))))))
        (pss_one ps_never)
        pss_nil)
      (pss_cons (ps_if (pt_not (pt_val (pe_cal cAreF hr (by omega) (pa_cons (pv 3) (pa_cons (pv 1) pa_nil)))))
        (pss_one ps_never)
        pss_nil)
      (pss_one (ps_fld (pv 0) (pe_tup (pa_cons (pv 1) (pa_cons (pv 2) (pa_cons (pv 3) pa_nil)))) rfl))))), ?_⟩
    have b2 := bok.fns.base2
    have b3 := bok.fns.base3
    have t1 := bok.set1
    have t2 := bok.setB
    repeat walk_at "st"
    refine t_ifN (fun Q' kk => ?_) ?_
    · repeat walk_at "st"
      refine r_btw (by omega) (by omega) ?_
      repeat walk_at "st"
      exact kk
    repeat walk_at "st"
    refine t_ifN (fun Q' kk => ?_) ?_
    · repeat walk_at "st"
      refine r_btw (by omega) (by omega) ?_
      repeat walk_at "st"
      exact kk
    repeat walk_at "st"
    refine t_ifNS (fun Q' kk => ?_) fun H1 s1 => ?_
    · repeat walk_at "st"
      exact ⟨fa, xs, Bk.fns, Bk.base, rfl, hfa, hxs, bok.fns, fun H' s => r_exbl (kk _ s)⟩
    repeat walk_at "st"
    dsimp only
    refine r_fldset ?_
    repeat walk_at "st"
    refine r_newT (by show 3 ≤ sizeLine; decide) fun p H2 np s2 e2 => ?_
    exact ⟨.ref x, rfl, x, CB, dx, [], rfl, s2.at (s1.at hx), Kc.clB, Km.partsB, by show 0 < 1000; decide, q p H2 (s1.trans s2) e2⟩
end
end K5
end

section
set_option maxHeartbeats 4000000
/-! LF: things, rising tuples, the making of a Plan. -/
namespace K5
open PySem PySem.Spec L2
open PyProof.Rows hiding St
local macro_rules | `(tactic| walk_at "lf") => `(tactic| first
  | assumption
  | (refine Same.im (by assumption) ?_; walk_at "lf")
  | (refine Same.ims (by assumption) ?_; walk_at "lf")
  | (refine Same.at (by assumption) ?_; walk_at "lf")
  | (refine Same.sqT (by assumption) ?_; walk_at "lf")
  | (refine Same.seq (by assumption) ?_; walk_at "lf")
  | exact SqL.of (by walk_at "lf")
  | exact SqT.of (by walk_at "lf"))
local macro_rules | `(tactic| walk_at "st") => `(tactic| first
  | ((with_reducible refine r_var (v := ?vv) ?rv ?_); (case rv => exact rfl))
  | with_reducible first
    | refine r_seq ?_
    | refine r_asg ?_
    | refine r_gName ?_
    | refine r_c ?_
    | refine r_op ?_
    | refine r_I0 ?_
    | refine r_exbl ?_
    | refine r_cb ?_
    | refine r_nil ?_
    | refine r_cons ?_
    | refine r_test ?_
    | refine r_tB ?_
    | refine r_and ?_
    | refine r_or ?_
    | refine r_not ?_
    | refine r_if ?_
    | refine r_ret ?_
    | refine r_next ?_
    | refine r_tup ?_
    | refine r_lst ?_
    | refine r_int ?_
    | refine r_exint ?_
    | refine r_sl ?_
    | refine r_part ?_
    | refine r_nopart ?_
    | refine r_par ?_
    | refine r_ex2 ?_
    | refine r_call ?_
    | refine r_un ?_
    | refine r_U ?_
    | refine r_andV ?_
    | refine r_orV ?_
    | refine r_notV ?_
    | refine r_chain ?_
    | refine r_isN ?_
    | refine r_notN ?_
    | refine r_drop ?_
    | refine r_I (by decide) ?_
    | refine r_EqI ?_
    | refine r_NeI ?_
    | refine r_EqS ?_
    | refine r_NeS ?_
    | refine r_gSub ?_
    | refine r_gCons ?_
    | refine r_gNil ?_
    | refine r_dget ?_
    | refine r_pcons ?_
    | refine r_pnil ?_
    | refine iteT ?_
    | refine iteF ?_
    | refine iteNF ?_
    | refine iteNT ?_
    | refine r_prop ?_
    | refine r_dget2 ?_
    | refine r_din ?_
    | refine r_dput ?_
    | refine r_mk ?_
    | refine r_propG ?_
    | refine r_mtd ?_
    | refine r_bm ?_
    | refine r_si ?_
    | refine r_for ?_
    | refine r_lc ?_
    | refine r_iT ?_
    | refine r_iL ?_
    | refine r_enT ?_
    | refine r_zip ?_
    | refine r_zs ?_
    | refine r_iR1 ?_
    | refine r_yes ?_
    | refine r_fld ?_
    | refine r_star1 ?_
    | refine r_ctE ?_
    | refine r_div (by decide) (by decide) ?_
    | refine r_mulL (by decide) (by decide) ?_
    | refine r_mulR (by decide) (by decide) ?_)
local macro_rules | `(tactic| walk_at "tq") => `(tactic| ((repeat walk_at "st"); first
  | assumption
  | (refine q_decT (by omega) (by assumption))
  | (refine q_decF (by omega) (by assumption))
  | (refine q_nT (by omega) (by assumption))
  | (refine q_nF (by omega) (by assumption))
  | (refine ite_dec (fun _ => ?_) (fun _ => ?_) <;> first | (exfalso; omega) | walk_at "tq")
  | (refine ite_ndec (fun _ => ?_) (fun _ => ?_) <;> first | (exfalso; omega) | walk_at "tq")))
/-- a thing's form -/
def okT (nf base cols : Nat) : Tr → Prop
  | .num n => 0 ≤ n ∧ n < base
  | .given => False
  | .setting => True
  | .col c => 0 ≤ c ∧ c < cols
  | .kept _ => False
  | .call j t => j < nf ∧ okT nf base cols t
  | .two o a b => o < 4 ∧ okT nf base cols a ∧ okT nf base cols b
  | .cond a b c => okT nf base cols a ∧ okT nf base cols b ∧ okT nf base cols c
section
variable {nf base cols : Nat}
theorem okT_subs : ∀ {t t' : Tr}, okT nf base cols t → t' ∈ subs t → okT nf base cols t' := by
  intro t
  induction t with
  | call j t ih =>
    intro t' h m
    simp only [subs, List.mem_cons] at m
    rcases m with rfl | m
    · exact h
    · exact ih h.2 m
  | two o x y ih1 ih2 =>
    intro t' h m
    simp only [subs, List.mem_cons, List.mem_append] at m
    rcases m with rfl | m | m
    · exact h
    · exact ih1 h.2.1 m
    · exact ih2 h.2.2 m
  | cond x y z ih1 ih2 ih3 =>
    intro t' h m
    simp only [subs, List.mem_cons, List.mem_append] at m
    rcases m with rfl | m | m | m
    · exact h
    · exact ih1 h.1 m
    · exact ih2 h.2.1 m
    · exact ih3 h.2.2 m
  | _ =>
    intro t' h m
    simp only [subs, List.mem_cons, List.not_mem_nil, or_false] at m
    subst m
    exact h
theorem thg_of {t : Tr} {w : Str} {c : Int} (h : okT nf base cols t) (m : c ∈ numsW w t) : (w = "number" ∧ c < base) ∨ (w = "column" ∧ c < cols) ∨ (w = "call" ∧ c < nf) := by
  obtain ⟨t', m, e, hn⟩ := of_numsW m
  have ok := okT_subs h m
  rcases word_is e hn with ⟨z, rfl⟩ | ⟨z, rfl⟩ | ⟨_, rfl⟩ | ⟨z, j, u, rfl, rfl⟩
  · exact .inl ⟨z, ok.2⟩
  · exact .inr (.inl ⟨z, ok.2⟩)
  · exact ok.elim
  · exact .inr (.inr ⟨z, Int.ofNat_lt.mpr ok.1⟩)
theorem thg_num {t : Tr} {c : Int} (h : okT nf base cols t) (m : c ∈ numsW "number" t) : c < base := by
  rcases thg_of h m with ⟨_, z⟩ | ⟨z, _⟩ | ⟨z, _⟩
  · exact z
  · exact absurd z (by decide)
  · exact absurd z (by decide)
theorem thg_col {t : Tr} {c : Int} (h : okT nf base cols t) (m : c ∈ numsW "column" t) : c < cols := by
  rcases thg_of h m with ⟨z, _⟩ | ⟨_, z⟩ | ⟨z, _⟩
  · exact absurd z (by decide)
  · exact z
  · exact absurd z (by decide)
theorem thg_call {t : Tr} {c : Int} (h : okT nf base cols t) (m : c ∈ numsW "call" t) : c < nf := by
  rcases thg_of h m with ⟨z, _⟩ | ⟨z, _⟩ | ⟨_, z⟩
  · exact absurd z (by decide)
  · exact absurd z (by decide)
  · exact z
theorem thg_kept {t : Tr} {c : Int} (h : okT nf base cols t) (m : c ∈ numsW "kept" t) : False := by
  rcases thg_of h m with ⟨z, _⟩ | ⟨z, _⟩ | ⟨z, _⟩
  · exact absurd z (by decide)
  · exact absurd z (by decide)
  · exact absurd z (by decide)
theorem thg_given {t t' : Tr} (h : okT nf base cols t) (m : t' ∈ subs t) : wordOf t' ≠ "given" := by
  have ok := okT_subs h m
  intro e
  cases t' with
  | num n => exact absurd e (by show ("number" : Str) ≠ "given"; decide)
  | given => exact ok
  | setting => exact absurd e (by show ("setting" : Str) ≠ "given"; decide)
  | col c => exact absurd e (by show ("column" : Str) ≠ "given"; decide)
  | kept c => exact ok
  | call k t => exact absurd e (by show ("call" : Str) ≠ "given"; decide)
  | two o a b =>
    have e : opN o = "given" := e
    unfold opN at e
    split at e <;> exact absurd e (by decide)
  | cond a b c => exact absurd e (by show ("when" : Str) ≠ "given"; decide)
theorem okT_wf (hb : base ≤ 3) (hn : nf ≤ 3) (hc : cols ≤ 2) : ∀ {t : Tr}, okT nf base cols t → wfT t := by
  intro t
  induction t with
  | num n => intro h; exact ⟨h.1, by have := h.2; omega⟩
  | given => intro _; trivial
  | setting => intro _; trivial
  | col c => intro h; exact ⟨h.1, by have := h.2; omega⟩
  | kept c => intro h; exact h.elim
  | call j t ih => intro h; exact ⟨by have := h.1; omega, ih h.2⟩
  | two o x y i1 i2 => intro h; exact ⟨h.1, i1 h.2.1, i2 h.2.2⟩
  | cond x y z i1 i2 i3 => intro h; exact ⟨i1 h.1, i2 h.2.1, i3 h.2.2⟩
end
/-- a rising list of numbers below n -/
structure RisOk (n : Nat) (ns : List Nat) : Prop where
  low : ∀ x ∈ ns, x < n
  rise : ∀ (i x y : Nat), ns[i]? = some x → ns[i + 1]? = some y → x < y
  short : ns.length ≤ 100
def modes : List Str := ["kept", "again", "check"]
def ThAt (CF : Addr) (H : Hp) (a : Addr) (m : Str) (t : Tr) : Prop := ∃ b f, H a = some (.tup [.ref b]) ∧ H b = some (.tup [.str m, f]) ∧ FormAt CF H f t
theorem ThAt.isn {CF a : Addr} {H H' : Hp} {m : Str} {t : Tr} (s : Isn H H') (h : ThAt CF H a m t) : ThAt CF H' a m t := by
  obtain ⟨b, f, h1, h2, h3⟩ := h
  exact ⟨b, f, s _ _ rfl h1, s _ _ rfl h2, h3.isn s⟩
def spIsForm (CB CF : Addr) : Sp := fun vs H Q _ => ∃ (bk fv : V) (ah : Addr) (B : Book) (cols : Nat) (t : Tr), vs = [bk, .int cols, .ref ah, fv] ∧ BookAt CB CF H bk B ∧ BookOk B ∧ H ah = some (.tup []) ∧ FormAt CF H fv t ∧ okT B.fns.length B.base cols t ∧ cnt t ≤ 12 ∧ ∀ H', Same H H' → Q (.bl true) H'
def spAreT (CB CF : Addr) : Sp := fun vs H Q _ => ∃ (bk : V) (th : Addr) (B : Book) (cols : Nat) (m : Str) (t : Tr), vs = [bk, .int cols, .ref th] ∧ BookAt CB CF H bk B ∧ BookOk B ∧ ThAt CF H th m t ∧ m ∈ modes ∧ okT B.fns.length B.base cols t ∧ cnt t ≤ 12 ∧ ∀ H', Same H H' → Q (.bl true) H'
def spRising : Sp := fun vs H Q _ => ∃ (a : Addr) (n : Nat) (ns : List Nat), vs = [.ref a, .int n] ∧ H a = some (.tup (ns.map nI)) ∧ RisOk n ns ∧ ∀ H', Same H H' → Q (.bl true) H'
def spPlanI (CP CB CF : Addr) : Sp := fun vs H Q _ => ∃ (x dx th fr wr as_ : Addr) (bk : V) (B : Book) (cols : Nat) (m : Str) (t : Tr) (free ws as : List Nat), vs = [.ref x, bk, .int cols, .ref th, .ref fr, .ref wr, .ref as_] ∧ H x = some (.ins CP dx []) ∧ BookAt CB CF H bk B ∧ BookOk B ∧ 1 ≤ cols ∧ cols ≤ 2 ∧
  ThAt CF H th m t ∧ m ∈ modes ∧ okT B.fns.length B.base cols t ∧ cnt t ≤ 12 ∧ H fr = some (.tup (free.map nI)) ∧ RisOk B.fns.length free ∧ H wr = some (.tup (ws.map nI)) ∧ RisOk B.settings ws ∧ ws ≠ [] ∧ H as_ = some (.tup (as.map nI)) ∧ RisOk B.settings as ∧ as ≠ [] ∧
  ∀ p H1, Same H H1 → H1 p = some (.tup [bk, .int cols, .ref th, .ref fr, .ref wr, .ref as_]) → Q .non (upd H1 x (.ins CP dx [("parts", .ref p)]))
theorem scIsForm : FnScope ["book", "columns", "ahead", "form", "k", "c", "t"] ["book", "columns", "ahead", "form"] (defScope (top 45)) := ⟨rfl, rfl, rfl, by decide +kernel, rfl, by decide +kernel, by decide +kernel⟩
theorem scAreT : FnScope ["book", "columns", "things", "at", "pair"] ["book", "columns", "things"] (defScope (top 46)) := ⟨rfl, rfl, rfl, by decide +kernel, rfl, by decide +kernel, by decide +kernel⟩
theorem scRising : FnScope ["some", "many", "one", "other"] ["some", "many"] (defScope (top 47)) := ⟨rfl, rfl, rfl, by decide +kernel, rfl, by decide +kernel, by decide +kernel⟩
theorem scInitP : FnScope ["self", "book", "columns", "things", "free", "writers", "askers", "every", "some", "part"] ["self", "book", "columns", "things", "free", "writers", "askers"] (defScope (inClass (top 48) 0)) := ⟨rfl, rfl, rfl, by decide +kernel, rfl, by decide +kernel, by decide +kernel⟩
section
variable {P : Program} {w : World} {K : PySem.W.Frag} {mg : Str → Option Value} {base : Heap} {T : List NTab} {CP CB CF : Addr}
theorem ok_rising (D : Df K mg "is_rising" (top 47)) (B : Bf mg) (cBtw : Cal P w K mg base "is_between" 1 ["thing", "low", "high"] spBtw) : Cal P w K mg base "is_rising" 2 ["some", "many"] spRising := by
  refine D.cal (N := ["some", "many", "one", "other"]) (ps := ["some", "many"]) scRising (fun _ _ _ _ _ _ us hl => match us, hl with | [_, _], _ => rfl) (fun vs H Q E h => ?_) fun f cdv A outer s H vs Q E hr h => ?_
  · obtain ⟨_, _, _, rfl, _⟩ := h
    rfl
  · obtain ⟨a, n, ns, rfl, ha, rok, q⟩ := h
    refine ⟨_, (pss_cons (ps_if (pw_or (pt_not (pt_val (pe_callB c_isi (by rfl) (B _ (by decide)) b_isinstance (pa_cons (pv 0) (pa_cons (pe_bltn (v := .ty "tuple") (by rfl) (B _ (by decide)) b_tuple rfl) pa_nil))))) (pw_or1 (pt_not (pt_val (pe_callB (cr_all rfl) (by rfl) (B _ (by decide)) b_all (pa_cons (pe_lc (own := [("one", 2)]) (g := (gName 2)) (tt := tYes) rfl scRising.nd (pi_tup (pv 0)) (blkOk_by (own := [("one", 2)]) (N := ["some", "many", "one", "other"]) (sc := defScope (top 47)) (by decide +kernel)) (fun _ _ _ _ _ => (pg_name (i := 2) scRising.nd rfl (by first | exact Or.inl rfl | exact Or.inr rfl))) (fun _ _ _ _ _ => pts_nil) (fun _ _ _ _ _ => (pe_cal cBtw hr (by omega) (pa_cons (pv 2) (pa_cons pe_int (pa_cons (pe_op op_sub (pv 1) pe_int) pa_nil)))))) pa_nil)))))).pt
        (pss_one (ps_ret pe_bl))
        pss_nil)
      (pss_one (ps_ret (pe_callB (cr_all rfl) (by rfl) (B _ (by decide)) b_all (pa_cons (pe_lc (own := [("one", 2), ("other", 3)]) (g := (gTup _ 2 (gCons (gName 2) (gCons (gName 3) gNil)))) (tt := tYes) rfl scRising.nd (RZ.pi_zipA (by rfl) (B _ (by decide)) (pa_cons (pv 0) (pa_cons (pe_slice sl_tupA (pv 0) (po_some pe_int) po_none) pa_nil))) (blkOk_by (own := [("one", 2), ("other", 3)]) (N := ["some", "many", "one", "other"]) (sc := defScope (top 47)) (by decide +kernel)) (fun _ _ _ _ _ => (pg_tup rfl (pgs_cons (pg_name (i := 2) scRising.nd rfl (by first | exact Or.inl rfl | exact Or.inr rfl)) (pgs_cons (pg_name (i := 3) scRising.nd rfl (by first | exact Or.inl rfl | exact Or.inr rfl)) pgs_nil)))) (fun _ _ _ _ _ => pts_nil) (fun _ _ _ _ _ => (pe_cmpR op_lt (pv 2) (pv 3) (nomark _)))) pa_nil))))), ?_⟩
    have sh := rok.short
    have nl : (ns.map nI).length = ns.length := List.length_map _
    repeat walk_at "st"
    refine t_ifNS (fun Q' kk => ?_) fun H1 s1 => ?_
    · repeat walk_at "st"
      refine r_isi (.base (.tup ha)) (b := true) (by decide +kernel) ?_
      repeat walk_at "st"
      refine ⟨a, rfl, ⟨_, .of ha⟩, fun D nD => ?_⟩
      refine lc_sc (walk_tup (xs := ns.map nI)) nD (fun _ => .bl true) (by omega) (fun H' s => .of (s.at ha)) (fun i x H2 H3 Kt hi s2 y kt => ?_) fun H4 s4 e4 => ?_
      · obtain ⟨rfl, ex⟩ := y
        rw [List.getElem?_map] at ex
        obtain ⟨k, hk, rfl⟩ := Option.map_eq_some_iff.mp ex
        have lt := rok.low k (List.mem_of_getElem? hk)
        repeat walk_at "st"
        refine ⟨rfl, ?_⟩
        repeat walk_at "st"
        exact r_btw (by omega) (by omega) (kt _ fun _ _ e => e)
      · repeat walk_at "st"
        refine r_allR e4 (fun _ _ => rfl) ?_
        repeat walk_at "st"
        exact kk _ s4
    repeat walk_at "st"
    refine r_slT (s1.at ha) fun c H2 s2 e2 => ?_
    rw [cut_drop _ 1 1 rfl] at e2
    have ha2 := s2.at (s1.at ha)
    repeat walk_at "st"
    refine ⟨a, c, ns.map nI, (ns.map nI).drop 1, rfl, .inr ⟨.of ha2, .of e2, fun D nD => ?_⟩⟩
    refine lc_sc (n := ns.length - 1) (walk_zT (xs := ns.map nI) (ys := (ns.map nI).drop 1) (by rw [List.length_drop]; omega)) nD (fun _ => .bl true) (by omega) (fun H' s => ⟨.of (s.at ha2), .of (s.at e2)⟩) (fun i x H3 H4 Kt hi s3 y kt => ?_) fun H5 s5 e5 => ?_
    · obtain ⟨Tp, u, v, rfl, s4, eT, ea, eb⟩ := ypair y
      rw [List.getElem?_drop, Nat.add_comm] at eb
      rw [List.getElem?_map] at ea eb
      obtain ⟨k1, hk1, rfl⟩ := Option.map_eq_some_iff.mp ea
      obtain ⟨k2, hk2, rfl⟩ := Option.map_eq_some_iff.mp eb
      have lt := rok.rise i k1 k2 hk1 hk2
      refine r_gTup (.of eT) rfl ?_
      repeat walk_at "st"
      refine ⟨rfl, ?_⟩
      repeat walk_at "st"
      refine ⟨(k1 : Int), k2, rfl, rfl, ?_⟩
      dsimp only
      rw [decide_eq_true (show (k1 : Int) < k2 by omega)]
      exact kt _ s4
    · repeat walk_at "st"
      exact r_allR e5 (fun _ _ => rfl) (q _ ((s1.trans s2).trans s5))
theorem ok_isForm (D : Df K mg "is_form_of" (top 45)) (B : Bf mg) (Kc : Kcl P w K mg base CP CB CF) (Km : Kcm K mg CP CB CF) (lenB : Mtd P w K mg base CB "__len__" 3 ["self"] (spLenB CB CF)) (mCont : Mtd P w K mg base CF "__contains__" 15 ["self", "word"] (spCont CF)) (cHasN : Cal P w K mg base "has_numbers_of" 15 ["form", "base"] (spHasN CF))
    (pCalls : PrpS P w K mg base CF "calls" 16 (spNumsP CF "call")) (pCols : PrpS P w K mg base CF "columns" 16 (spNumsP CF "column")) (pReads : PrpS P w K mg base CF "reads" 16 (spNumsP CF "kept")) :
    Cal P w K mg base "is_form_of" 18 ["book", "columns", "ahead", "form"] (spIsForm CB CF) := by
  have clF := Kc.clF
  have clB := Kc.clB
  have pBase := Kc.bBase
  have isForm := Km.insF
  have gForm := Km.gForm
  refine D.cal (N := ["book", "columns", "ahead", "form", "k", "c", "t"]) (ps := ["book", "columns", "ahead", "form"]) scIsForm (fun _ _ _ _ _ _ us hl => match us, hl with | [_, _, _, _], _ => rfl) (fun vs H Q E h => ?_) fun f cdv A outer s H vs Q E hr h => ?_
  · obtain ⟨_, _, _, _, _, _, rfl, _⟩ := h
    rfl
  · obtain ⟨bk, fv, ah, Bk, cols, t, rfl, hb, bok, hah, hf, ok, hc, q⟩ := h
    refine ⟨_, (pss_cons (ps_if (pw_or (pt_not (pt_val (pe_callB (c_ins isForm) (by rfl) (B _ (by decide)) b_isinstance (pa_cons (pv 3) (pa_cons (pe_globR gForm) pa_nil))))) (pw_or (pt_not (pt_val (pe_cal cHasN hr (by omega) (pa_cons (pv 3) (pa_cons (pe_part pBase clB hr (by omega) (pv 0)) pa_nil))))) (pw_or1 (pt_cmpR (op_inO mCont hr (by omega)) pe_str (pv 3) (by with_unfolding_all rfl))))).pt
        (pss_one (ps_ret pe_bl))
        pss_nil)
      (pss_cons (ps_if (pw_or (pt_not (pt_val (pe_callB (cr_all rfl) (by rfl) (B _ (by decide)) b_all (pa_cons (pe_lc (own := [("k", 4)]) (g := (gName 4)) (tt := tYes) rfl scIsForm.nd (pi_tup (pe_propS pCalls clF hr (by omega) (pv 3))) (blkOk_by (own := [("k", 4)]) (N := ["book", "columns", "ahead", "form", "k", "c", "t"]) (sc := defScope (top 45)) (by decide +kernel)) (fun _ _ _ _ _ => (pg_name (i := 4) scIsForm.nd rfl (by first | exact Or.inl rfl | exact Or.inr rfl))) (fun _ _ _ _ _ => pts_nil) (fun _ _ _ _ _ => (pe_cmpR op_lt (pv 4) (pe_callB (c_lenO lenB hr (by omega)) (by rfl) (B _ (by decide)) b_len (pa_cons (pv 0) pa_nil)) (nomark _)))) pa_nil)))) (pw_or1 (pt_not (pt_val (pe_callB (cr_all rfl) (by rfl) (B _ (by decide)) b_all (pa_cons (pe_lc (own := [("c", 5)]) (g := (gName 5)) (tt := tYes) rfl scIsForm.nd (pi_tup (pe_propS pCols clF hr (by omega) (pv 3))) (blkOk_by (own := [("c", 5)]) (N := ["book", "columns", "ahead", "form", "k", "c", "t"]) (sc := defScope (top 45)) (by decide +kernel)) (fun _ _ _ _ _ => (pg_name (i := 5) scIsForm.nd rfl (by first | exact Or.inl rfl | exact Or.inr rfl))) (fun _ _ _ _ _ => pts_nil) (fun _ _ _ _ _ => (pe_cmpR op_lt (pv 5) (pv 1) (nomark _)))) pa_nil)))))).pt
        (pss_one (ps_ret pe_bl))
        pss_nil)
      (pss_one (ps_ret (pe_callB (cr_all rfl) (by rfl) (B _ (by decide)) b_all (pa_cons (pe_lc (own := [("t", 6)]) (g := (gName 6)) (tt := tYes) rfl scIsForm.nd (pi_tup (pe_propS pReads clF hr (by omega) (pv 3))) (blkOk_by (own := [("t", 6)]) (N := ["book", "columns", "ahead", "form", "k", "c", "t"]) (sc := defScope (top 45)) (by decide +kernel)) (fun _ _ _ _ _ => (pg_name (i := 6) scIsForm.nd rfl (by first | exact Or.inl rfl | exact Or.inr rfl))) (fun _ _ _ _ _ => pts_nil) (fun _ _ _ _ _ => (pe_and (pe_cmpR op_lt (pv 6) (pe_callB (c_lenK (K := K) rfl) (by rfl) (B _ (by decide)) b_len (pa_cons (pv 2) pa_nil)) (nomark _)) (pe_one (pe_cmpR op_eq (pe_ix (ix_tupK (K := K) rfl) (pe_ix (ix_tupK (K := K) rfl) (pv 2) (pv 6) (fun _ _ => rfl)) pe_int (fun _ _ => rfl)) pe_str (nomark _)))))) pa_nil)))))), ?_⟩
    have l3 := bok.fns.len3
    have dc := dep_cnt t
    obtain ⟨a, dx, u, rfl, ha⟩ := hf.ins
    repeat walk_at "st"
    refine t_ifNS (fun Q' kk => ?_) fun H1 s1 => ?_
    · repeat walk_at "st"
      refine ⟨a, dx, _, rfl, ha, ?_⟩
      repeat walk_at "st"
      refine r_bBase hb ?_
      repeat walk_at "st"
      refine ⟨_, t, Bk.base, rfl, hf, by omega, by omega, fun n hn => thg_num ok hn, fun H1 s1 => ?_⟩
      repeat walk_at "st"
      refine ⟨a, dx, _, rfl, s1.at ha, ?_⟩
      exact ⟨_, t, "given", rfl, hf.isn s1.isn, by omega, by omega, fun t' m => thg_given ok m, fun H2 s2 => ⟨false, rfl, r_exbl (kk _ (s1.trans s2))⟩⟩
    repeat walk_at "st"
    refine t_ifNS (fun Q' kk => ?_) fun H2 s2 => ?_
    · repeat walk_at "st"
      refine r_nums (hf.isn s1.isn) (by omega) (by omega) fun p ns H3 s3 e3 hlen hns => ?_
      refine ⟨p, rfl, ⟨_, .of e3⟩, fun D nD => ?_⟩
      refine lc_sc walk_ints nD (fun _ => .bl true) (by omega) (fun H' s => SqT.of (s.at e3)) (fun i x H4 H5 Kt hi s4 y kt => ?_) fun H6 s6 e6 => ?_
      · obtain ⟨rfl, ex⟩ := y
        rw [List.getElem?_map] at ex
        obtain ⟨n, hn, rfl⟩ := Option.map_eq_some_iff.mp ex
        have lt := thg_call ok (hns n (List.mem_of_getElem? hn))
        repeat walk_at "st"
        refine ⟨rfl, ?_⟩
        repeat walk_at "st"
        refine r_lenB (hb.isn ((s1.trans s3).trans s4).isn) l3 ?_
        repeat walk_at "st"
        rw [decide_eq_true lt]
        exact kt _ fun _ _ e => e
      repeat walk_at "st"
      refine r_allR e6 (fun _ _ => rfl) ?_
      repeat walk_at "st"
      have s36 := s3.trans s6
      refine r_nums (hf.isn (s1.trans s36).isn) (by omega) (by omega) fun p ns H7 s7 e7 hlen hns => ?_
      refine ⟨p, rfl, ⟨_, .of e7⟩, fun D nD => ?_⟩
      refine lc_sc walk_ints nD (fun _ => .bl true) (by omega) (fun H' s => SqT.of (s.at e7)) (fun i x H4 H5 Kt hi s4 y kt => ?_) fun H8 s8 e8 => ?_
      · obtain ⟨rfl, ex⟩ := y
        rw [List.getElem?_map] at ex
        obtain ⟨n, hn, rfl⟩ := Option.map_eq_some_iff.mp ex
        have lt := thg_col ok (hns n (List.mem_of_getElem? hn))
        repeat walk_at "st"
        refine ⟨rfl, ?_⟩
        repeat walk_at "st"
        rw [decide_eq_true lt]
        exact kt _ fun _ _ e => e
      repeat walk_at "st"
      refine r_allR e8 (fun _ _ => rfl) ?_
      repeat walk_at "st"
      exact kk _ ((s36.trans s7).trans s8)
    repeat walk_at "st"
    have s12 := s1.trans s2
    refine r_nums (hf.isn s12.isn) (by omega) (by omega) fun p ns H3 s3 e3 hlen hns => ?_
    obtain rfl : ns = [] := List.eq_nil_iff_forall_not_mem.mpr fun n hn => thg_kept ok (hns n hn)
    refine ⟨p, rfl, ⟨_, .of e3⟩, fun D nD => ?_⟩
    refine lc_sc (walk_tup (xs := [])) nD (fun _ => .bl true) (by show 0 ≤ 100000; decide) (fun H' s => .of (s.at e3)) (fun i x H4 H5 Kt hi s4 y kt => absurd hi (Nat.not_lt_zero i)) fun H6 s6 e6 => ?_
    repeat walk_at "st"
    exact r_allR e6 (fun _ _ => rfl) (q _ ((s12.trans s3).trans s6))
theorem ok_areT {dMd : Addr} (D : Df K mg "are_things" (top 46)) (B : Bf mg) (gMT : ∃ t, mg "MOST_THINGS" = some (.int 3 t)) (gMd : mg "MODES" = some (.ref dMd)) (mdT : ∀ H, SqT K H dMd (modes.map V.str)) (cIsForm : Cal P w K mg base "is_form_of" 18 ["book", "columns", "ahead", "form"] (spIsForm CB CF)) :
    Cal P w K mg base "are_things" 19 ["book", "columns", "things"] (spAreT CB CF) := by
  obtain ⟨t1, gMT⟩ := gMT
  refine D.cal (N := ["book", "columns", "things", "at", "pair"]) (ps := ["book", "columns", "things"]) scAreT (fun _ _ _ _ _ _ us hl => match us, hl with | [_, _, _], _ => rfl) (fun vs H Q E h => ?_) fun f cdv A outer s H vs Q E hr h => ?_
  · obtain ⟨_, _, _, _, _, _, rfl, _⟩ := h
    rfl
  · obtain ⟨bk, th, Bk, cols, m, t, rfl, hb, bok, hth, hm, ok, hc, q⟩ := h
    refine ⟨_, (pss_cons (ps_if (pw_or (pt_not (pt_val (pe_callB c_isi (by rfl) (B _ (by decide)) b_isinstance (pa_cons (pv 2) (pa_cons (pe_bltn (v := .ty "tuple") (by rfl) (B _ (by decide)) b_tuple rfl) pa_nil))))) (pw_or1 (pt_not (pt_chain op_le op_le pe_int (pe_callB c_len (by rfl) (B _ (by decide)) b_len (pa_cons (pv 2) pa_nil)) (pe_glob (v := .int 3) (by rfl) gMT ⟨_, rfl⟩ rfl))))).pt
        (pss_one (ps_ret pe_bl))
        pss_nil)
      (pss_cons (ps_for PassesOwn.never rfl (pi_enumT (by rfl) (B _ (by decide)) (pa_cons (pv 2) pa_nil)) (pg_tup rfl (pgs_cons (pg_name (i := 3) scAreT.nd rfl (by first | exact Or.inl rfl | exact Or.inr rfl)) (pgs_cons (pg_name (i := 4) scAreT.nd rfl (by first | exact Or.inl rfl | exact Or.inr rfl)) pgs_nil)))
        (pss_cons (ps_if (pw_or (pt_not (pt_val (pe_callB c_isi (by rfl) (B _ (by decide)) b_isinstance (pa_cons (pv 4) (pa_cons (pe_bltn (v := .ty "tuple") (by rfl) (B _ (by decide)) b_tuple rfl) pa_nil))))) (pw_or1 (pt_cmpR op_ne (pe_callB c_len (by rfl) (B _ (by decide)) b_len (pa_cons (pv 4) pa_nil)) pe_int (nomark _)))).pt
          (pss_one (ps_ret pe_bl))
          pss_nil)
        (pss_cons (ps_if (pw_or (pt_not (pt_val (pe_callB c_isi (by rfl) (B _ (by decide)) b_isinstance (pa_cons (pe_ix ix_tup (pv 4) pe_int (fun _ _ => rfl)) (pa_cons (pe_bltn (v := .ty "str") (by rfl) (B _ (by decide)) b_str rfl) pa_nil))))) (pw_or1 (pt_cmpR op_notIn_seq (pe_ix ix_tup (pv 4) pe_int (fun _ _ => rfl)) (pe_globR gMd) (by with_unfolding_all rfl)))).pt
          (pss_one (ps_ret pe_bl))
          pss_nil)
        (pss_one (ps_if (pt_not (pt_val (pe_cal cIsForm hr (by omega) (pa_cons (pv 0) (pa_cons (pv 1) (pa_cons (pe_slice sl_tupA (pv 2) po_none (po_some (pv 3))) (pa_cons (pe_ix ix_tup (pv 4) pe_int (fun _ _ => rfl)) pa_nil)))))))
          (pss_one (ps_ret pe_bl))
          pss_nil)))))
      (pss_one (ps_ret pe_bl)))), ?_⟩
    obtain ⟨pb, fv, hta, hpb, hf⟩ := hth
    repeat walk_at "st"
    refine t_ifN (fun Q' kk => ?_) ?_
    · repeat walk_at "st"
      refine r_isi (.base (.tup hta)) (b := true) (by decide +kernel) ?_
      repeat walk_at "st"
      refine r_lenT (.of hta) (n := 1) rfl ?_
      repeat walk_at "st"
      refine ite_dec (fun _ => ?_) fun z => absurd (show (1 : Int) ≤ (1 : Nat) by omega) z
      repeat walk_at "st"
      exact q_nF (by omega) kk
    repeat walk_at "st"
    refine ⟨th, _, rfl, .of hta, ?_⟩
    refine for_w (walk_en (xs := [.ref pb])) (fun i σ' H' => Same H H' ∧ ∃ o1 o2, σ' = [some bk, some (.int cols), some (.ref th), o1, o2]) ⟨fun _ _ e => e, none, none, rfl⟩ (fun i σ' H' _ z => .of (z.1.at hta)) ?_ ?_
    · rintro i x σ' H1 H2 hi ⟨s1, o1, o2, rfl⟩ y
      obtain ⟨Tp, a, v, rfl, s2, eT, ea, eb⟩ := ypair y
      cases ea
      have i0 : i = 0 := by
        have : i < 1 := hi
        omega
      subst i0
      cases eb
      have s12 := s1.trans s2
      have hp2 := s12.at hpb
      refine r_gTup (.of eT) rfl ?_
      repeat walk_at "st"
      dsimp only
      refine t_ifN (fun Q' kk => ?_) ?_
      · repeat walk_at "st"
        refine r_isi (.base (.tup hp2)) (b := true) (by decide +kernel) ?_
        repeat walk_at "st"
        refine r_lenT (.of hp2) (n := 2) rfl ?_
        repeat walk_at "st"
        exact q_nF rfl kk
      repeat walk_at "st"
      dsimp only
      refine t_ifN (fun Q' kk => ?_) ?_
      · repeat walk_at "st"
        refine r_ixT (.of hp2) (atI_nat (j := 0) rfl) ?_
        repeat walk_at "st"
        refine r_isi (.base (.str _)) (b := true) (by decide +kernel) ?_
        repeat walk_at "st"
        refine r_ixT (.of hp2) (atI_nat (j := 0) rfl) ?_
        repeat walk_at "st"
        refine r_ninT (mdT _) rfl rfl ?_
        have e : inV (.str m) (modes.map V.str) = true := by
          simp only [modes, List.mem_cons, List.not_mem_nil, or_false] at hm
          rcases hm with rfl | rfl | rfl <;> decide +kernel
        rw [e]
        repeat walk_at "st"
        exact kk
      repeat walk_at "st"
      dsimp only
      refine t_ifNS (fun Q' kk => ?_) fun H3 s3 => ?_
      · repeat walk_at "st"
        refine r_slT (s12.at hta) fun c H3 s3 e3 => ?_
        rw [cut_take _ ((0 : Nat) : Int) 0 rfl] at e3
        repeat walk_at "st"
        refine r_ixT (.of (s3.at hp2)) (atI_nat (j := 1) rfl) ?_
        repeat walk_at "st"
        exact ⟨bk, fv, c, Bk, cols, t, rfl, hb.isn (s12.trans s3).isn, bok, e3, hf.isn (s12.trans s3).isn, ok, hc, fun H4 s4 => r_exbl (kk _ (s3.trans s4))⟩
      repeat walk_at "st"
      exact ⟨s12.trans s3, _, _, rfl⟩
    · rintro σ' H1 ⟨s1, o1, o2, rfl⟩
      repeat walk_at "st"
      exact q _ s1
theorem ne_nilD {ns : List Nat} (h : ns ≠ []) : PyData.eqv (.tuple (ns.map nD)) (.tuple []) = false := by
  cases ns with
  | nil => exact absurd rfl h
  | cons n r => simp [PyData.eqv, PyData.eqvAll]
theorem im_nats {H : Hp} : ∀ ns : List Nat, ImAll H (ns.map nI) (ns.map nD)
  | [] => .nil
  | n :: r => .cons (.int n) (im_nats r)
theorem shaped_tnats (ns : List Nat) : SeqAt.shaped (.tuple (ns.map nD)) = true := by
  unfold SeqAt.shaped
  rw [nats_ints]
  simp only [PyData.canLay0, canLay_ints, PyData.depth, depth_ints]
  rfl
theorem ok_initP {q0 : Str} {kws : List (Str × V)} {f0 : Addr} {fd0 : FuncData} (D : FunD K "__init__" q0 (defArgs (inClass (top 48) 0)) (defBody (inClass (top 48) 0)) (defScope (inClass (top 48) 0)) [] kws f0 fd0) (B : Bf mg) (Kc : Kcl P w K mg base CP CB CF) (Km : Kcm K mg CP CB CF)
    (lenB : Mtd P w K mg base CB "__len__" 3 ["self"] (spLenB CB CF)) (cBtw : Cal P w K mg base "is_between" 1 ["thing", "low", "high"] spBtw) (cAreT : Cal P w K mg base "are_things" 19 ["book", "columns", "things"] (spAreT CB CF)) (cRising : Cal P w K mg base "is_rising" 2 ["some", "many"] spRising) :
    FnOk P w K mg base CX0 20 f0 fd0 ["self", "book", "columns", "things", "free", "writers", "askers"] (spPlanI CP CB CF) := by
  have clB := Kc.clB
  have pSet := Kc.bSet
  have isBook := Km.insB
  have gBook := Km.gBook
  refine D.ok (N := ["self", "book", "columns", "things", "free", "writers", "askers", "every", "some", "part"]) (ps := ["self", "book", "columns", "things", "free", "writers", "askers"]) scInitP (fun vs H Q E h => ?_) fun cdv A outer s H vs Q E hr h => ?_
  · obtain ⟨_, _, _, _, _, _, _, _, _, _, _, _, _, _, rfl, _⟩ := h
    rfl
  · obtain ⟨x, dx, th, fr, wr, as_, bk, Bk, cols, m, t, free, ws, as, rfl, hx, hb, bok, c1, c2, hth, hm, ok, hc, hfr, rfr, hwr, rwr, nws, has, ras, nas, q⟩ := h
    obtain ⟨ba, bdx, bfs, rfl, hba⟩ := hb.ins
    have l3 := bok.fns.len3
    have b3 := bok.fns.base3
    have sB := bok.setB
    suffices z : ∃ t, PSs (cxOf CX0 P w K mg base ["self", "book", "columns", "things", "free", "writers", "askers", "every", "some", "part"] q0 (defScope (inClass (top 48) 0)) f0 cdv A outer s H E).nox (defBody (inClass (top 48) 0)) t ∧ t { nx := fun _ H' => Q .non H', rt := Q } (start ["self", "book", "columns", "things", "free", "writers", "askers", "every", "some", "part"] [.ref x, .ref ba, .int cols, .ref th, .ref fr, .ref wr, .ref as_]) H from z.elim fun t h => ⟨t, h.1.nox, h.2⟩
    refine ⟨_, (pss_cons (ps_if (pt_not (pt_val (pe_callB (c_ins isBook) (by rfl) (B _ (by decide)) b_isinstance (pa_cons (pv 1) (pa_cons (pe_globR gBook) pa_nil)))))
        (pss_one ps_never)
        pss_nil)
      (pss_cons (ps_if (pt_not (pt_val (pe_cal cBtw hr (by omega) (pa_cons (pv 2) (pa_cons pe_int (pa_cons pe_int pa_nil))))))
        (pss_one ps_never)
        pss_nil)
      (pss_cons (ps_if (pt_not (pt_val (pe_cal cAreT hr (by omega) (pa_cons (pv 1) (pa_cons (pv 2) (pa_cons (pv 3) pa_nil))))))
        (pss_one ps_never)
        pss_nil)
      (pss_cons (ps_set (i := 7) scInitP.nd rfl (by first | exact Or.inl rfl | exact Or.inr rfl) (pe_tupRg rfl (by rfl) (B _ (by decide)) (prg_1 (by rfl) (B _ (by decide)) (pe_part pSet clB hr (by omega) (pv 1)))))
      (pss_cons (ps_set (i := 4) scInitP.nd rfl (by first | exact Or.inl rfl | exact Or.inr rfl) (pe_ifExp (pt_cmp (pc_isN (pv 4))) (pe_tupRg rfl (by rfl) (B _ (by decide)) (prg_1 (by rfl) (B _ (by decide)) (pe_callB (c_lenO lenB hr (by omega)) (by rfl) (B _ (by decide)) b_len (pa_cons (pv 1) pa_nil)))) (pv 4)))
      (pss_cons (ps_par (i := 5) (j := 6) rfl scInitP.nd rfl rfl (by decide) rfl rfl (pa_cons (pe_ifExp (pt_cmp (pc_isN (pv 5))) (pv 7) (pv 5)) (pa_cons (pe_ifExp (pt_cmp (pc_isN (pv 6))) (pv 7) (pv 6)) pa_nil)) rfl)
      (pss_cons (ps_if (pt_not (pt_val (pe_cal cRising hr (by omega) (pa_cons (pv 4) (pa_cons (pe_callB (c_lenO lenB hr (by omega)) (by rfl) (B _ (by decide)) b_len (pa_cons (pv 1) pa_nil)) pa_nil)))))
        (pss_one ps_never)
        pss_nil)
      (pss_cons (ps_for PassesOwn.never rfl (pi_tup (pe_tup (pa_cons (pe_tup (pa_cons (pv 5) (pa_cons pe_str pa_nil))) (pa_cons (pe_tup (pa_cons (pv 6) (pa_cons pe_str pa_nil))) pa_nil)))) (pg_tup rfl (pgs_cons (pg_name (i := 8) scInitP.nd rfl (by first | exact Or.inl rfl | exact Or.inr rfl)) (pgs_cons (pg_name (i := 9) scInitP.nd rfl (by first | exact Or.inl rfl | exact Or.inr rfl)) pgs_nil)))
        (pss_one (ps_if (pw_or (pt_not (pt_val (pe_cal cRising hr (by omega) (pa_cons (pv 8) (pa_cons (pe_part pSet clB hr (by omega) (pv 1)) pa_nil))))) (pw_or1 (pt_cmpR (op_eqD hr.units) (pv 8) (pe_tup pa_nil) (nomark _)))).pt
          (pss_one ps_never)
          pss_nil)))
      (pss_one (ps_fld (pv 0) (pe_tup (pa_cons (pv 1) (pa_cons (pv 2) (pa_cons (pv 3) (pa_cons (pv 4) (pa_cons (pv 5) (pa_cons (pv 6) pa_nil))))))) rfl)))))))))), ?_⟩
    repeat walk_at "st"
    refine t_ifN (fun Q' kk => ?_) ?_
    · repeat walk_at "st"
      refine ⟨ba, bdx, bfs, rfl, hba, ?_⟩
      repeat walk_at "st"
      exact kk
    repeat walk_at "st"
    refine t_ifN (fun Q' kk => ?_) ?_
    · repeat walk_at "st"
      refine r_btw (by omega) (by omega) ?_
      repeat walk_at "st"
      exact kk
    repeat walk_at "st"
    refine t_ifNS (fun Q' kk => ?_) fun H1 s1 => ?_
    · repeat walk_at "st"
      exact ⟨_, th, Bk, cols, m, t, rfl, hb, bok, hth, hm, ok, hc, fun H' s => r_exbl (kk _ s)⟩
    repeat walk_at "st"
    refine r_tRg Bk.settings (fun Q' kk => ?_) rfl (by omega) fun p2 H2 s2 e2 => ?_
    · repeat walk_at "st"
      exact r_bSet (hb.isn s1.isn) kk
    have s12 := s1.trans s2
    repeat walk_at "st"
    refine ite_dec (fun z => by cases z) fun _ => ?_
    repeat walk_at "st"
    refine ite_dec (fun z => by cases z) fun _ => ?_
    repeat walk_at "st"
    refine ite_dec (fun z => by cases z) fun _ => ?_
    repeat walk_at "st"
    dsimp only
    refine t_ifNS (fun Q' kk => ?_) fun H3 s3 => ?_
    · repeat walk_at "st"
      refine r_lenB (hb.isn s12.isn) l3 ?_
      repeat walk_at "st"
      exact ⟨fr, Bk.fns.length, free, rfl, s12.at hfr, rfr, fun H' s => r_exbl (kk _ s)⟩
    have s13 := s12.trans s3
    repeat walk_at "st"
    refine r_newT (by show 2 ≤ sizeLine; decide) fun p4 H4 np4 s4 e4 => ?_
    repeat walk_at "st"
    refine r_newT (by show 2 ≤ sizeLine; decide) fun p5 H5 np5 s5 e5 => ?_
    repeat walk_at "st"
    refine r_newT (by show 2 ≤ sizeLine; decide) fun p6 H6 np6 s6 e6 => ?_
    have s16 := ((s13.trans s4).trans s5).trans s6
    refine ⟨p6, rfl, ⟨_, .of e6⟩, ?_⟩
    refine for_w (walk_tup (xs := [.ref p4, .ref p5])) (fun i σ' H' => Same H6 H' ∧ ∃ o1 o2, σ' = [some (.ref x), some (.ref ba), some (.int cols), some (.ref th), some (.ref fr), some (.ref wr), some (.ref as_), some (.ref p2), o1, o2])
      ⟨fun _ _ e => e, none, none, rfl⟩ (fun i σ' H' _ z => .of (z.1.at e6)) ?_ ?_
    · rintro i y σ' H8 H7 hi ⟨s7, o1, o2, rfl⟩ ⟨rfl, ex⟩
      obtain ⟨pp, sa, sn, ps_, rfl, hpp, hsa, rsn, nsn⟩ : ∃ (pp sa : Addr) (sn : List Nat) (st_ : Str), y = .ref pp ∧ H7 pp = some (.tup [.ref sa, .str st_]) ∧ H7 sa = some (.tup (sn.map nI)) ∧ RisOk Bk.settings sn ∧ sn ≠ [] := by
        have i2 : i = 0 ∨ i = 1 := by
          have : i < 2 := hi
          omega
        rcases i2 with rfl | rfl
        · cases ex
          exact ⟨p4, wr, ws, _, rfl, s7.at (s6.at (s5.at e4)), s7.at (s16.at hwr), rwr, nws⟩
        · cases ex
          exact ⟨p5, as_, as, _, rfl, s7.at (s6.at e5), s7.at (s16.at has), ras, nas⟩
      refine r_gTup (.of hpp) rfl ?_
      repeat walk_at "st"
      dsimp only
      refine t_ifNS (fun Q' kk => ?_) fun H9 s9 => ?_
      · repeat walk_at "st"
        refine r_bSet (hb.isn (s16.trans s7).isn) ?_
        repeat walk_at "st"
        refine ⟨sa, Bk.settings, sn, rfl, hsa, rsn, fun H9 s9 => ?_⟩
        repeat walk_at "st"
        refine r_newT (by show 0 ≤ sizeLine; decide) fun pA HA npA sA eA => ?_
        refine r_eqD (Im.dp _ _ (.tup (sA.at (s9.at hsa)) (im_nats sn))) (Im.dp _ _ (.tup eA .nil)) (shaped_tnats sn) (by decide +kernel) ?_
        rw [ne_nilD nsn]
        exact r_exbl (kk _ (s9.trans sA))
      repeat walk_at "st"
      exact ⟨s7.trans s9, _, _, rfl⟩
    · rintro σ' H7 ⟨s7, o1, o2, rfl⟩
      dsimp only
      refine r_fldset ?_
      repeat walk_at "st"
      refine r_newT (by show 6 ≤ sizeLine; decide) fun p8 H8 np8 s8 e8 => ?_
      have s18 := (s16.trans s7).trans s8
      exact ⟨.ref x, rfl, x, CP, dx, [], rfl, s18.at hx, Kc.clP, Km.partsP, by show 0 < 1000; decide, q p8 H8 s18 e8⟩
end
end K5
end

section
set_option maxHeartbeats 4000000
/-! LG: what the law draws: rising tuples, functions. -/
namespace K5
open PySem PySem.Spec L2
open PyProof.Rows hiding St
local macro_rules | `(tactic| walk_at "lf") => `(tactic| first
  | assumption
  | (refine Same.im (by assumption) ?_; walk_at "lf")
  | (refine Same.ims (by assumption) ?_; walk_at "lf")
  | (refine Same.at (by assumption) ?_; walk_at "lf")
  | (refine Same.sqT (by assumption) ?_; walk_at "lf")
  | (refine Same.seq (by assumption) ?_; walk_at "lf")
  | exact SqL.of (by walk_at "lf")
  | exact SqT.of (by walk_at "lf"))
local macro_rules | `(tactic| walk_at "st") => `(tactic| first
  | ((with_reducible refine r_var (v := ?vv) ?rv ?_); (case rv => exact rfl))
  | with_reducible first
    | refine r_seq ?_
    | refine r_asg ?_
    | refine r_gName ?_
    | refine r_c ?_
    | refine r_op ?_
    | refine r_I0 ?_
    | refine r_exbl ?_
    | refine r_cb ?_
    | refine r_nil ?_
    | refine r_cons ?_
    | refine r_test ?_
    | refine r_tB ?_
    | refine r_and ?_
    | refine r_or ?_
    | refine r_not ?_
    | refine r_if ?_
    | refine r_ret ?_
    | refine r_next ?_
    | refine r_tup ?_
    | refine r_lst ?_
    | refine r_int ?_
    | refine r_exint ?_
    | refine r_sl ?_
    | refine r_part ?_
    | refine r_nopart ?_
    | refine r_par ?_
    | refine r_ex2 ?_
    | refine r_call ?_
    | refine r_un ?_
    | refine r_U ?_
    | refine r_andV ?_
    | refine r_orV ?_
    | refine r_notV ?_
    | refine r_chain ?_
    | refine r_isN ?_
    | refine r_notN ?_
    | refine r_drop ?_
    | refine r_I (by decide) ?_
    | refine r_EqI ?_
    | refine r_NeI ?_
    | refine r_EqS ?_
    | refine r_NeS ?_
    | refine r_gSub ?_
    | refine r_gCons ?_
    | refine r_gNil ?_
    | refine r_dget ?_
    | refine r_pcons ?_
    | refine r_pnil ?_
    | refine iteT ?_
    | refine iteF ?_
    | refine iteNF ?_
    | refine iteNT ?_
    | refine r_prop ?_
    | refine r_dget2 ?_
    | refine r_din ?_
    | refine r_dput ?_
    | refine r_mk ?_
    | refine r_propG ?_
    | refine r_mtd ?_
    | refine r_bm ?_
    | refine r_si ?_
    | refine r_for ?_
    | refine r_lc ?_
    | refine r_iT ?_
    | refine r_iL ?_
    | refine r_enT ?_
    | refine r_zip ?_
    | refine r_zs ?_
    | refine r_iR1 ?_
    | refine r_yes ?_
    | refine r_fld ?_
    | refine r_star1 ?_
    | refine r_ctE ?_
    | refine r_div (by decide) (by decide) ?_
    | refine r_mulL (by decide) (by decide) ?_
    | refine r_mulR (by decide) (by decide) ?_)
local macro_rules | `(tactic| walk_at "tq") => `(tactic| ((repeat walk_at "st"); first
  | assumption
  | (refine q_decT (by omega) (by assumption))
  | (refine q_decF (by omega) (by assumption))
  | (refine q_nT (by omega) (by assumption))
  | (refine q_nF (by omega) (by assumption))
  | (refine ite_dec (fun _ => ?_) (fun _ => ?_) <;> first | (exfalso; omega) | walk_at "tq")
  | (refine ite_ndec (fun _ => ?_) (fun _ => ?_) <;> first | (exfalso; omega) | walk_at "tq")))
/-! ### drawn trees -/
theorem ltree_P {ns : List Int} {leaves : List Tr} {calls : List Nat} (Pr : Tr → Prop) (hne : leaves ≠ []) (hl : ∀ t ∈ leaves, Pr t) (hc : ∀ k ∈ calls, ∀ t, Pr t → Pr (.call k t)) (h2 : ∀ o a b, o < 4 → Pr a → Pr b → Pr (.two o a b)) (h3 : ∀ a b c, Pr a → Pr b → Pr c → Pr (.cond a b c)) :
    ∀ (n size : Nat) (spot : Int), size < n → Pr (ltree ns leaves calls size spot)
  | 0, _, _, h => by omega
  | n + 1, size, spot, h => by
    have ih := ltree_P (ns := ns) (leaves := leaves) (calls := calls) Pr hne hl hc h2 h3 n
    unfold ltree
    split
    · exact hl _ (pick_mem hne _)
    · rename_i hs
      split
      · rename_i hcc
        exact hc _ (pick_mem hcc.1 _) _ (ih _ _ (by omega))
      · split
        · exact hl _ (pick_mem hne _)
        · split
          · exact h3 _ _ _ (ih _ _ (by omega)) (ih _ _ (by omega)) (ih _ _ (by omega))
          · have h0 : 0 ≤ lnum ns spot / 56 / 4 % ((size - 2 : Nat) : Int) := Int.emod_nonneg _ (by omega)
            have h1 : lnum ns spot / 56 / 4 % ((size - 2 : Nat) : Int) < ((size - 2 : Nat) : Int) := Int.emod_lt_of_pos _ (by omega)
            have o0 : 0 ≤ lnum ns spot / 56 % 4 := Int.emod_nonneg _ (by omega)
            have o1 : lnum ns spot / 56 % 4 < 4 := Int.emod_lt_of_pos _ (by omega)
            exact h2 _ _ _ (by omega) (ih _ _ (by omega)) (ih _ _ (by omega))
theorem ltree_cnt {ns : List Int} {leaves : List Tr} {calls : List Nat} (hne : leaves ≠ []) (hl : ∀ t ∈ leaves, cnt t = 1) : ∀ (n size : Nat) (spot : Int), size < n → 1 ≤ size → cnt (ltree ns leaves calls size spot) ≤ size
  | 0, _, _, h, _ => by omega
  | n + 1, size, spot, h, hp => by
    have ih := ltree_cnt (ns := ns) (leaves := leaves) (calls := calls) hne hl n
    unfold ltree
    split
    · rw [hl _ (pick_mem hne _)]
      exact hp
    · rename_i hs
      split
      · have := ih (size - 1) (spot + 1) (by omega) (by omega)
        simp only [cnt]
        omega
      · split
        · rw [hl _ (pick_mem hne _)]
          exact hp
        · split
          · rename_i h4
            have a1 := ih ((size - 1) / 3) (spot + 1) (by omega) (by omega)
            have a2 := ih ((size - 1) / 3) (spot + 15) (by omega) (by omega)
            have a3 := ih (size - 1 - 2 * ((size - 1) / 3)) (spot + 29) (by omega) (by omega)
            simp only [cnt]
            omega
          · have h0 : 0 ≤ lnum ns spot / 56 / 4 % ((size - 2 : Nat) : Int) := Int.emod_nonneg _ (by omega)
            have h1 : lnum ns spot / 56 / 4 % ((size - 2 : Nat) : Int) < ((size - 2 : Nat) : Int) := Int.emod_lt_of_pos _ (by omega)
            have a1 := ih (1 + (lnum ns spot / 56 / 4 % ((size - 2 : Nat) : Int)).toNat) (spot + 1) (by omega) (by omega)
            have a2 := ih (size - 1 - (1 + (lnum ns spot / 56 / 4 % ((size - 2 : Nat) : Int)).toNat)) (spot + 2 + (1 + (lnum ns spot / 56 / 4 % ((size - 2 : Nat) : Int)).toNat : Nat)) (by omega) (by omega)
            simp only [cnt]
            omega
/-! ### promises -/
def encB (r : List Tr) : PyData := .tuple (r.map enc)
def encF (fns : List (List Tr)) : PyData := .tuple (fns.map encB)
def spSome (K : PySem.W.Frag) : Sp := fun vs H Q _ => ∃ (a : Addr) (sc : List Int) (i : Int) (many least : Nat), vs = [.ref a, .int i, .int many, .int least] ∧ SqL K H a (sc.map V.int) ∧ sc.length ≤ 63 ∧ 1 ≤ many ∧ many ≤ 3 ∧ least ≤ 1 ∧
  ∀ p ns H', Same H H' → H' p = some (.tup (ns.map nI)) → RisOk many ns → least ≤ ns.length → Q (.ref p) H'
def spFns (K : PySem.W.Frag) : Sp := fun vs H Q _ => ∃ (a : Addr) (sc : List Int) (i : Int) (b most : Nat), vs = [.ref a, .int i, .int b, .int most] ∧ SqL K H a (sc.map V.int) ∧ sc.length ≤ 63 ∧ 2 ≤ b ∧ b ≤ 3 ∧ 1 ≤ most ∧ most ≤ 3 ∧
  ∀ p fns H', Same H H' → FnsOk fns b → Im H' (.ref p) (encF fns) → Q (.ref p) H'
theorem scSome : FnScope ["script", "at", "many", "least", "found", "one"] ["script", "at", "many", "least"] (defScope (top 68)) := ⟨rfl, rfl, rfl, by decide +kernel, rfl, by decide +kernel, by decide +kernel⟩
theorem scFns : FnScope ["script", "at", "base", "most", "found", "seed", "leaves", "function", "rows", "many", "body", "spot"] ["script", "at", "base", "most"] (defScope (top 67)) := ⟨rfl, rfl, rfl, by decide +kernel, rfl, by decide +kernel, by decide +kernel⟩
section
variable {P : Program} {w : World} {K : PySem.W.Frag} {mg : Str → Option Value} {base : Heap}
theorem ok_some (D : Df K mg "_law_some" (top 68)) (B : Bf mg) (cNum : Cal P w K mg base "_law_number" 1 ["script", "index"] (spNum K)) : Cal P w K mg base "_law_some" 2 ["script", "at", "many", "least"] (spSome K) := by
  refine D.cal (N := ["script", "at", "many", "least", "found", "one"]) (ps := ["script", "at", "many", "least"]) scSome (fun _ _ _ _ _ _ us hl => match us, hl with | [_, _, _, _], _ => rfl) (fun vs H Q E h => ?_) fun f cdv A outer s H vs Q E hr h => ?_
  · obtain ⟨_, _, _, _, _, rfl, _⟩ := h
    rfl
  · obtain ⟨a, sc, i, many, least, rfl, hS, hl, m1, m3, l1, q⟩ := h
    refine ⟨_, (pss_cons (ps_set (i := 4) scSome.nd rfl (by first | exact Or.inl rfl | exact Or.inr rfl) (pe_callTy c_tup (by rfl) (B _ (by decide)) b_tuple (pa_cons (pe_lc (own := [("one", 5)]) (g := (gName 5)) rfl scSome.nd (pi_range1 (by rfl) (B _ (by decide)) (pa_cons (pv 2) pa_nil)) (blkOk_by (own := [("one", 5)]) (N := ["script", "at", "many", "least", "found", "one"]) (sc := defScope (top 68)) (by decide +kernel)) (fun _ _ _ _ _ => (pg_name (i := 5) scSome.nd rfl (by first | exact Or.inl rfl | exact Or.inr rfl))) (fun _ _ _ _ _ => (pts_one (pt_cmpR op_gt (pe_op op_mod (pe_callTy c_int (by rfl) (B _ (by decide)) b_int (pa_cons (pe_cal cNum hr (by omega) (pa_cons (pv 0) (pa_cons (pe_op op_add (pv 1) (pv 5)) pa_nil))) pa_nil)) pe_int) pe_int (nomark _)))) (fun _ _ _ _ _ => (pv 5))) pa_nil)))
      (pss_one (ps_ret (pe_ifExp (pt_cmpR op_ge (pe_callB c_len (by rfl) (B _ (by decide)) b_len (pa_cons (pv 4) pa_nil)) (pv 3) (nomark _)) (pv 4) (pe_tup (pa_cons (pe_op op_mod (pe_callTy c_int (by rfl) (B _ (by decide)) b_int (pa_cons (pe_cal cNum hr (by omega) (pa_cons (pv 0) (pa_cons (pe_op op_add (pv 1) pe_int) pa_nil))) pa_nil)) (pv 2)) pa_nil)))))), ?_⟩
    repeat walk_at "st"
    refine ⟨(many : Int), rfl, by omega, by omega, ?_⟩
    rw [Int.toNat_natCast]
    intro D nD
    refine lc_w walk_range nD (fun j acc _ => ∃ ns : List Nat, acc = ns.map nI ∧ ns.Pairwise (· < ·) ∧ (∀ x ∈ ns, x < j) ∧ ns.length ≤ j) (fun _ _ _ _ _ z => z) (by omega) (fun _ _ => trivial) ⟨[], rfl, .nil, by simp, Nat.le_refl _⟩ (fun j x acc H2 H3 Kt Kf hj s2 p y kt kf => ?_) fun acc H4 s4 e4 al p => ?_
    · obtain ⟨rfl, rfl⟩ := y
      obtain ⟨ns, rfl, pw, lt, ln⟩ := p
      repeat walk_at "st"
      refine ⟨rfl, ?_⟩
      repeat walk_at "st"
      refine r_num (s2.seq hS) hl fun H5 s5 => ?_
      repeat walk_at "st"
      refine ite_dec (fun _ => ?_) fun _ => kf _ s5 ⟨ns, rfl, pw, fun x hx => by have := lt x hx; omega, by omega⟩
      repeat walk_at "st"
      refine kt _ _ s5 ⟨ns ++ [j], ?_, ?_, fun x hx => ?_, by rw [List.length_append]; show ns.length + 1 ≤ _; omega⟩
      · rw [List.map_append]
        show _ ++ [V.int (0 + (j : Int))] = _
        rw [Int.zero_add]
        rfl
      · rw [List.pairwise_append]
        exact ⟨pw, List.pairwise_singleton _ _, fun x hx y hy => by
          rw [List.mem_singleton.mp hy]
          exact lt x hx⟩
      · rcases List.mem_append.mp hx with z | z
        · have := lt x z
          omega
        · rw [List.mem_singleton.mp z]
          omega
    · obtain ⟨ns, rfl, pw, lt, ln⟩ := p
      have ris : RisOk many ns := ⟨fun x hx => lt x hx, fun j x y h1 h2 => by
        obtain ⟨l1, e1⟩ := List.getElem?_eq_some_iff.mp h1
        obtain ⟨l2, e2⟩ := List.getElem?_eq_some_iff.mp h2
        have := List.pairwise_iff_getElem.mp pw j (j + 1) l1 l2 (by omega)
        rw [e1, e2] at this
        exact this, by omega⟩
      repeat walk_at "st"
      refine r_tupL (.of e4) fun p H5 np s5 e5 => ?_
      have s45 := s4.trans s5
      repeat walk_at "st"
      refine r_lenT (.of e5) (List.length_map _) ?_
      repeat walk_at "st"
      refine ite_dec (fun z => ?_) fun z => ?_
      · repeat walk_at "st"
        exact q p ns H5 s45 e5 ris (by omega)
      · repeat walk_at "st"
        refine r_num (s45.seq hS) hl fun H6 s6 => ?_
        repeat walk_at "st"
        refine r_I (by omega) ?_
        repeat walk_at "st"
        refine r_newT (by show 1 ≤ sizeLine; decide) fun p7 H7 np7 s7 e7 => ?_
        have v0 : 0 ≤ lnum sc (i + 5) % (many : Int) := Int.emod_nonneg _ (by omega)
        have v1 : lnum sc (i + 5) % (many : Int) < many := Int.emod_lt_of_pos _ (by omega)
        refine q p7 [(lnum sc (i + 5) % (many : Int)).toNat] H7 ((s45.trans s6).trans s7) (by
          rw [e7]
          show _ = some (HO.tup [V.int ((lnum sc (i + 5) % (many : Int)).toNat : Int)])
          rw [Int.toNat_of_nonneg v0]) ⟨fun x hx => by rw [List.mem_singleton.mp hx]; omega, fun j x y h1 h2 => by simp at h2, by show 1 ≤ 100; decide⟩ (by show least ≤ 1; omega)
def lvF (b : Nat) : List Tr := [.given, .given, .setting, .num 1, .num 0, .num (b - 1)]
theorem lvF_ok {b k : Nat} (hb : 2 ≤ b) : ∀ t ∈ lvF b, okB b k t ∧ cnt t = 1 := by
  intro t ht
  simp only [lvF, List.mem_cons, List.not_mem_nil, or_false] at ht
  rcases ht with rfl | rfl | rfl | rfl | rfl | rfl
  · exact ⟨trivial, rfl⟩
  · exact ⟨trivial, rfl⟩
  · exact ⟨trivial, rfl⟩
  · exact ⟨⟨by omega, by omega⟩, rfl⟩
  · exact ⟨⟨by omega, by omega⟩, rfl⟩
  · exact ⟨⟨by omega, by omega⟩, rfl⟩
theorem imAll_snoc {H : Hp} {xs : List V} {v : V} {α : Type} {f : α → PyData} {l : List α} {x : α} (h : ImAll H xs (l.map f)) (hv : Im H v (f x)) : ImAll H (xs ++ [v]) ((l ++ [x]).map f) := by
  rw [List.map_append]
  exact h.app (.cons hv .nil)
theorem ok_fns (D : Df K mg "_law_functions" (top 67)) (B : Bf mg) (cNum : Cal P w K mg base "_law_number" 1 ["script", "index"] (spNum K)) (cTree : Cal P w K mg base "_law_tree" 8 ["script", "at", "size", "leaves", "calls"] (spTree K 7)) : Cal P w K mg base "_law_functions" 9 ["script", "at", "base", "most"] (spFns K) := by
  refine D.cal (N := ["script", "at", "base", "most", "found", "seed", "leaves", "function", "rows", "many", "body", "spot"]) (ps := ["script", "at", "base", "most"]) scFns (fun _ _ _ _ _ _ us hl => match us, hl with | [_, _, _, _], _ => rfl) (fun vs H Q E h => ?_) fun f cdv A outer s H vs Q E hr h => ?_
  · obtain ⟨_, _, _, _, _, rfl, _⟩ := h
    rfl
  · obtain ⟨a, sc, i, b, most, rfl, hS, hl, b2, b3, m1, m3, q⟩ := h
    refine ⟨_, (pss_cons (ps_par (i := 4) (j := 5) rfl scFns.nd rfl rfl (by decide) rfl rfl (pa_cons (pe_lst pa_nil) (pa_cons (pe_callTy c_int (by rfl) (B _ (by decide)) b_int (pa_cons (pe_cal cNum hr (by omega) (pa_cons (pv 0) (pa_cons (pv 1) pa_nil))) pa_nil)) pa_nil)) rfl)
      (pss_cons (ps_set (i := 6) scFns.nd rfl (by first | exact Or.inl rfl | exact Or.inr rfl) (pe_lst (pa_cons (pe_tup (pa_cons pe_str pa_nil)) (pa_cons (pe_tup (pa_cons pe_str pa_nil)) (pa_cons (pe_tup (pa_cons pe_str pa_nil)) (pa_cons (pe_tup (pa_cons pe_str (pa_cons pe_int pa_nil))) (pa_cons (pe_tup (pa_cons pe_str (pa_cons pe_int pa_nil))) (pa_cons (pe_tup (pa_cons pe_str (pa_cons (pe_op op_sub (pv 2) pe_int) pa_nil))) pa_nil))))))))
      (pss_cons (ps_for PassesOwn.never rfl (pi_range1 (by rfl) (B _ (by decide)) (pa_cons (pe_op op_add pe_int (pe_op op_mod (pe_callTy c_int (by rfl) (B _ (by decide)) b_int (pa_cons (pv 5) pa_nil)) (pv 3))) pa_nil)) (pg_name (i := 7) scFns.nd rfl (by first | exact Or.inl rfl | exact Or.inr rfl))
        (pss_cons (ps_par (i := 8) (j := 9) rfl scFns.nd rfl rfl (by decide) rfl rfl (pa_cons (pe_lst pa_nil) (pa_cons (pe_ix ix_tup (pe_tup (pa_cons pe_int (pa_cons pe_int (pa_cons pe_int (pa_cons pe_int pa_nil))))) (pe_op op_mod (pe_callTy c_int (by rfl) (B _ (by decide)) b_int (pa_cons (pe_op op_fdiv (pv 5) (pe_ix ix_tup (pe_tup (pa_cons pe_int (pa_cons pe_int (pa_cons pe_int pa_nil)))) (pv 7) (fun _ _ => rfl))) pa_nil)) pe_int) (fun _ _ => rfl)) pa_nil)) rfl)
        (pss_cons (ps_for PassesOwn.never rfl (pi_range1 (by rfl) (B _ (by decide)) (pa_cons (pv 9) pa_nil)) (pg_name (i := 10) scFns.nd rfl (by first | exact Or.inl rfl | exact Or.inr rfl))
          (pss_cons (ps_set (i := 11) scFns.nd rfl (by first | exact Or.inl rfl | exact Or.inr rfl) (pe_op op_add (pe_op op_add (pe_op op_add (pv 1) pe_int) (pe_op op_mul pe_int (pv 7))) (pe_op op_mul pe_int (pv 10))))
          (pss_one (ps_expr (pe_bm PySem.F.plainAttrs_list PySem.F.slot_list_append PySem.F.type_list_append mt_append (pv 8) (pa_cons (pe_cal cTree hr (by omega) (pa_cons (pv 0) (pa_cons (pv 11) (pa_cons (pe_op op_add pe_int (pe_op op_mod (pe_callTy c_int (by rfl) (B _ (by decide)) b_int (pa_cons (pe_cal cNum hr (by omega) (pa_cons (pv 0) (pa_cons (pe_op op_add (pv 11) pe_int) pa_nil))) pa_nil)) pe_int)) (pa_cons (pv 6) (pa_cons (pe_listRg rfl (by rfl) (B _ (by decide)) (prg_1 (by rfl) (B _ (by decide)) (pv 7))) pa_nil)))))) pa_nil))))))
        (pss_one (ps_expr (pe_bm PySem.F.plainAttrs_list PySem.F.slot_list_append PySem.F.type_list_append mt_append (pv 4) (pa_cons (pe_callTy c_tup (by rfl) (B _ (by decide)) b_tuple (pa_cons (pv 8) pa_nil)) pa_nil)))))))
      (pss_one (ps_ret (pe_callTy c_tup (by rfl) (B _ (by decide)) b_tuple (pa_cons (pv 4) pa_nil))))))), ?_⟩
    have szl : (1000 : Nat) ≤ sizeLine := by decide
    repeat walk_at "st"
    refine r_newL (by show 0 ≤ sizeLine; decide) fun l H1 nl s1 el => ?_
    repeat walk_at "st"
    refine r_num (s1.seq hS) hl fun H2 s2 => ?_
    repeat walk_at "st"
    refine r_newT (by show 1 ≤ sizeLine; decide) fun t1 H3 nt1 s3 et1 => ?_
    repeat walk_at "st"
    refine r_newT (by show 1 ≤ sizeLine; decide) fun t2 H4 nt2 s4 et2 => ?_
    repeat walk_at "st"
    refine r_newT (by show 1 ≤ sizeLine; decide) fun t3 H5 nt3 s5 et3 => ?_
    repeat walk_at "st"
    refine r_newT (by show 2 ≤ sizeLine; decide) fun t4 H6 nt4 s6 et4 => ?_
    repeat walk_at "st"
    refine r_newT (by show 2 ≤ sizeLine; decide) fun t5 H7 nt5 s7 et5 => ?_
    repeat walk_at "st"
    refine r_newT (by show 2 ≤ sizeLine; decide) fun t6 H8 nt6 s8 et6 => ?_
    repeat walk_at "st"
    refine r_newL (by show 6 ≤ sizeLine; decide) fun L H9 nL s9 eL => ?_
    have s12 := s1.trans s2
    have s28 := ((((s3.trans s4).trans s5).trans s6).trans s7).trans s8
    have s19 := (s12.trans s28).trans s9
    have el9 : H9 l = some (.lst []) := s9.at (s28.at (s2.at el))
    have hLl : L ≠ l := fun z => by
      have e : H8 l = some (.lst []) := s28.at (s2.at el)
      rw [← z, nL] at e
      cases e
    have iL : ImAll H9 [.ref t1, .ref t2, .ref t3, .ref t4, .ref t5, .ref t6] ((lvF b).map enc) :=
      .cons (.tup (s9.at (s8.at (s7.at (s6.at (s5.at (s4.at et1)))))) (.cons (.str _) .nil)) (.cons (.tup (s9.at (s8.at (s7.at (s6.at (s5.at et2))))) (.cons (.str _) .nil)) (.cons (.tup (s9.at (s8.at (s7.at (s6.at et3)))) (.cons (.str _) .nil))
        (.cons (.tup (s9.at (s8.at (s7.at et4))) (.cons (.str _) (.cons (.int _) .nil))) (.cons (.tup (s9.at (s8.at et5)) (.cons (.str _) (.cons (.int _) .nil))) (.cons (.tup (s9.at et6) (.cons (.str _) (.cons (.int _) .nil))) .nil)))))
    repeat walk_at "st"
    refine r_I (by omega) ?_
    have g0 : 0 ≤ lnum sc i % (most : Int) := Int.emod_nonneg _ (by omega)
    have g1 : lnum sc i % (most : Int) < most := Int.emod_lt_of_pos _ (by omega)
    repeat walk_at "st"
    refine ⟨_, rfl, by omega, by omega, ?_⟩
    obtain ⟨n, en⟩ : ∃ n : Nat, (1 + lnum sc i % (most : Int)).toNat = n := ⟨_, rfl⟩
    rw [en]
    refine for_w (walk_range (n := n)) (fun j σ' H' => ∃ (facc : List V) (fns : List (List Tr)) (o7 o8 o9 o10 o11 : Option V), Same H H' ∧ H' l = some (.lst facc) ∧ ImAll H' facc (fns.map encB) ∧ fns.length = j ∧ (∀ r ∈ fns, 1 ≤ r.length ∧ r.length ≤ 3) ∧
        (∀ (k : Nat) (r : List Tr), fns[k]? = some r → ∀ t ∈ r, okB b k t ∧ cnt t ≤ 6) ∧ H' L = some (.lst [.ref t1, .ref t2, .ref t3, .ref t4, .ref t5, .ref t6]) ∧ ImAll H' [.ref t1, .ref t2, .ref t3, .ref t4, .ref t5, .ref t6] ((lvF b).map enc) ∧
        σ' = [some (.ref a), some (.int i), some (.int b), some (.int most), some (.ref l), some (.int (lnum sc i)), some (.ref L), o7, o8, o9, o10, o11])
      ⟨[], [], none, none, none, none, none, s19, el9, .nil, rfl, by simp, by simp, eL, iL, rfl⟩ (fun _ _ _ _ _ => trivial) ?_ ?_
    · rintro j x σ' HX HA hj ⟨facc, fns, o7, o8, o9, o10, o11, sA, elA, iA, fl, fr, fb, eLA, iLA, rfl⟩ ⟨rfl, rfl⟩
      have j3 : j ≤ 2 := by omega
      repeat walk_at "st"
      refine r_newL (by show 0 ≤ sizeLine; decide) fun rl HB nrl sB erl => ?_
      repeat walk_at "st"
      refine r_newT (by show 4 ≤ sizeLine; decide) fun u1 HC nu1 sC eu1 => ?_
      repeat walk_at "st"
      refine r_newT (by show 3 ≤ sizeLine; decide) fun u2 HD nu2 sD eu2 => ?_
      repeat walk_at "st"
      obtain ⟨dv, hdv, d0, d1⟩ : ∃ dv : Int, atI [V.int 3, .int 12, .int 48] (0 + (j : Int)) = some (.int dv) ∧ 0 < dv ∧ dv < 1073741824 := by
        have z : j = 0 ∨ j = 1 ∨ j = 2 := by omega
        rcases z with rfl | rfl | rfl
        · exact ⟨3, rfl, by omega, by omega⟩
        · exact ⟨12, rfl, by omega, by omega⟩
        · exact ⟨48, rfl, by omega, by omega⟩
      refine r_ixT (.of eu2) hdv ?_
      repeat walk_at "st"
      refine r_div d0 d1 ?_
      repeat walk_at "st"
      obtain ⟨mm, hmm, mm1, mm3⟩ : ∃ mm : Nat, atI [V.int 2, .int 1, .int 3, .int 2] (lnum sc i / dv % 4) = some (.int mm) ∧ 1 ≤ mm ∧ mm ≤ 3 := by
        have g2 : 0 ≤ lnum sc i / dv % 4 := Int.emod_nonneg _ (by omega)
        have g3 : lnum sc i / dv % 4 < 4 := Int.emod_lt_of_pos _ (by omega)
        have z : lnum sc i / dv % 4 = 0 ∨ lnum sc i / dv % 4 = 1 ∨ lnum sc i / dv % 4 = 2 ∨ lnum sc i / dv % 4 = 3 := by omega
        rcases z with z | z | z | z <;> rw [z]
        · exact ⟨2, rfl, by omega, by omega⟩
        · exact ⟨1, rfl, by omega, by omega⟩
        · exact ⟨3, rfl, by omega, by omega⟩
        · exact ⟨2, rfl, by omega, by omega⟩
      refine r_ixT (.of (sD.at eu1)) hmm ?_
      have sBD := (sB.trans sC).trans sD
      repeat walk_at "st"
      refine ⟨(mm : Int), rfl, by omega, by omega, ?_⟩
      rw [Int.toNat_natCast]
      refine for_w (walk_range (n := mm)) (fun k σ' H' => ∃ (racc : List V) (r : List Tr) (o10 o11 : Option V), Same HA H' ∧ H' rl = some (.lst racc) ∧ ImAll H' racc (r.map enc) ∧ r.length = k ∧ (∀ t ∈ r, okB b j t ∧ cnt t ≤ 6) ∧
          σ' = [some (.ref a), some (.int i), some (.int b), some (.int most), some (.ref l), some (.int (lnum sc i)), some (.ref L), some (.int (0 + (j : Int))), some (.ref rl), some (.int mm), o10, o11])
        ⟨[], [], o10, o11, sBD, sD.at (sC.at erl), .nil, rfl, by simp, rfl⟩ (fun _ _ _ _ _ => trivial) ?_ ?_
      · rintro k x σ' HX HE hk ⟨racc, r, p10, p11, sE, erE, iE, rlE, rbE, rfl⟩ ⟨rfl, rfl⟩
        repeat walk_at "st"
        refine ⟨ty_l erE, ?_⟩
        repeat walk_at "st"
        refine r_num ((sA.trans sE).seq hS) hl fun HF sF => ?_
        repeat walk_at "st"
        generalize hz : lnum sc (i + 1 + 60 * (0 + (j : Int)) + 20 * (0 + (k : Int)) + 19) = zz
        have g4 : 0 ≤ zz % 6 := Int.emod_nonneg _ (by omega)
        have g5 : zz % 6 < 6 := Int.emod_lt_of_pos _ (by omega)
        refine r_lRg j (fun Q' kk => ?_) (Int.zero_add _) (by omega) fun C HG _ sG eC => ?_
        · repeat walk_at "st"
          exact kk
        have sEG := (sA.trans sE).trans (sF.trans sG)
        have sFG := sE.trans (sF.trans sG)
        repeat walk_at "st"
        refine r_tree (m := (1 + zz % 6).toNat) (sEG.seq hS) hl (sFG.at eLA) (sFG.ims iLA) (by simp [lvF]) (by simp [lvF]) eC (by rw [List.length_range]; omega) (by omega) (by omega) fun tv HI sI iI => ?_
        have sGI := (sF.trans sG).trans sI
        have ot : okB b j (ltree sc (lvF b) (List.range j) (1 + zz % 6).toNat (i + 1 + 60 * (0 + (j : Int)) + 20 * (0 + (k : Int)))) :=
          ltree_P (okB b j) (by simp [lvF]) (fun t ht => (lvF_ok b2 t ht).1) (fun k hk t ht => ⟨List.mem_range.mp hk, ht⟩) (fun o x y ho hx hy => ⟨ho, hx, hy⟩) (fun x y z hx hy hz => ⟨hx, hy, hz⟩) 7 _ _ (by omega)
        have ct := ltree_cnt (ns := sc) (leaves := lvF b) (calls := List.range j) (by simp [lvF]) (fun t ht => (lvF_ok (k := 0) b2 t ht).2) 7 (1 + zz % 6).toNat (i + 1 + 60 * (0 + (j : Int)) + 20 * (0 + (k : Int))) (by omega) (by omega)
        repeat walk_at "st"
        refine r_append (sGI.at erE) (by have := iE.length; rw [List.length_map] at this; omega) fun HJ mJ eJ => ?_
        repeat walk_at "st"
        refine ⟨racc ++ [tv], r ++ [_], _, _, Mv.same (sE.trans sGI) mJ nrl, eJ, imAll_snoc (mJ.ims (sGI.ims iE)) (mJ.im iI), by rw [List.length_append]; show r.length + 1 = _; omega, fun t ht => ?_, rfl⟩
        rcases List.mem_append.mp ht with z | z
        · exact rbE t z
        · rw [List.mem_singleton.mp z]
          exact ⟨ot, by omega⟩
      · rintro σ' HE ⟨racc, r, p10, p11, sE, erE, iE, rlE, rbE, rfl⟩
        dsimp only
        repeat walk_at "st"
        refine ⟨ty_l (sE.at elA), ?_⟩
        repeat walk_at "st"
        refine r_tupL (.of erE) fun p HF np sF eF => ?_
        have sAF := sE.trans sF
        repeat walk_at "st"
        refine r_append (sAF.at elA) (by have := iA.length; rw [List.length_map] at this; omega) fun HJ mJ eJ => ?_
        repeat walk_at "st"
        refine ⟨facc ++ [.ref p], fns ++ [r], _, _, _, _, _, Mv.same (sA.trans sAF) mJ nl, eJ, imAll_snoc (mJ.ims (sAF.ims iA)) (.tup (mJ.at eF fun _ z => by cases z) (mJ.ims (sF.ims iE))), by rw [List.length_append]; show fns.length + 1 = _; omega, fun r' hr' => ?_, fun k r' hk t ht => ?_,
          mJ.rest _ _ hLl (sAF.at eLA), mJ.ims (sAF.ims iLA), rfl⟩
        · rcases List.mem_append.mp hr' with z | z
          · exact fr r' z
          · rw [List.mem_singleton.mp z]
            omega
        · by_cases hkk : k < fns.length
          · rw [List.getElem?_append_left hkk] at hk
            exact fb k r' hk t ht
          · rw [List.getElem?_append_right (by omega)] at hk
            have k0 : k - fns.length = 0 := by
              have := (List.getElem?_eq_some_iff.mp hk).1
              simp at this
              omega
            rw [k0] at hk
            obtain rfl : r = r' := Option.some.inj hk
            have kj : k = j := by omega
            rw [kj]
            exact rbE t ht
    · rintro σ' HA ⟨facc, fns, o7, o8, o9, o10, o11, sA, elA, iA, fl, fr, fb, eLA, iLA, rfl⟩
      repeat walk_at "st"
      refine r_tupL (.of elA) fun p HB np sB eB => ?_
      refine q p fns HB (sA.trans sB) ⟨b2, b3, by omega, by omega, fun r hr => (fr r hr).1, fun r hr => (fr r hr).2, fb⟩ (.tup eB (sB.ims iA))
end
end K5
end

section
set_option maxHeartbeats 4000000
/-! LH: the drawn plan. -/
namespace K5
open PySem PySem.Spec L2
open PyProof.Rows hiding St
local macro_rules | `(tactic| walk_at "lf") => `(tactic| first
  | assumption
  | (refine Same.im (by assumption) ?_; walk_at "lf")
  | (refine Same.ims (by assumption) ?_; walk_at "lf")
  | (refine Same.at (by assumption) ?_; walk_at "lf")
  | (refine Same.sqT (by assumption) ?_; walk_at "lf")
  | (refine Same.seq (by assumption) ?_; walk_at "lf")
  | exact SqL.of (by walk_at "lf")
  | exact SqT.of (by walk_at "lf"))
local macro_rules | `(tactic| walk_at "st") => `(tactic| first
  | ((with_reducible refine r_var (v := ?vv) ?rv ?_); (case rv => exact rfl))
  | with_reducible first
    | refine r_seq ?_
    | refine r_asg ?_
    | refine r_gName ?_
    | refine r_c ?_
    | refine r_op ?_
    | refine r_I0 ?_
    | refine r_exbl ?_
    | refine r_cb ?_
    | refine r_nil ?_
    | refine r_cons ?_
    | refine r_test ?_
    | refine r_tB ?_
    | refine r_and ?_
    | refine r_or ?_
    | refine r_not ?_
    | refine r_if ?_
    | refine r_ret ?_
    | refine r_next ?_
    | refine r_tup ?_
    | refine r_lst ?_
    | refine r_int ?_
    | refine r_exint ?_
    | refine r_sl ?_
    | refine r_part ?_
    | refine r_nopart ?_
    | refine r_par ?_
    | refine r_ex2 ?_
    | refine r_call ?_
    | refine r_un ?_
    | refine r_U ?_
    | refine r_andV ?_
    | refine r_orV ?_
    | refine r_notV ?_
    | refine r_chain ?_
    | refine r_isN ?_
    | refine r_notN ?_
    | refine r_drop ?_
    | refine r_I (by decide) ?_
    | refine r_EqI ?_
    | refine r_NeI ?_
    | refine r_EqS ?_
    | refine r_NeS ?_
    | refine r_gSub ?_
    | refine r_gCons ?_
    | refine r_gNil ?_
    | refine r_dget ?_
    | refine r_pcons ?_
    | refine r_pnil ?_
    | refine iteT ?_
    | refine iteF ?_
    | refine iteNF ?_
    | refine iteNT ?_
    | refine r_prop ?_
    | refine r_dget2 ?_
    | refine r_din ?_
    | refine r_dput ?_
    | refine r_mk ?_
    | refine r_propG ?_
    | refine r_mtd ?_
    | refine r_bm ?_
    | refine r_si ?_
    | refine r_for ?_
    | refine r_lc ?_
    | refine r_iT ?_
    | refine r_iL ?_
    | refine r_enT ?_
    | refine r_zip ?_
    | refine r_zs ?_
    | refine r_iR1 ?_
    | refine r_yes ?_
    | refine r_fld ?_
    | refine r_star1 ?_
    | refine r_ctE ?_
    | refine r_div (by decide) (by decide) ?_
    | refine r_mulL (by decide) (by decide) ?_
    | refine r_mulR (by decide) (by decide) ?_)
local macro_rules | `(tactic| walk_at "tq") => `(tactic| ((repeat walk_at "st"); first
  | assumption
  | (refine q_decT (by omega) (by assumption))
  | (refine q_decF (by omega) (by assumption))
  | (refine q_nT (by omega) (by assumption))
  | (refine q_nF (by omega) (by assumption))
  | (refine ite_dec (fun _ => ?_) (fun _ => ?_) <;> first | (exfalso; omega) | walk_at "tq")
  | (refine ite_ndec (fun _ => ?_) (fun _ => ?_) <;> first | (exfalso; omega) | walk_at "tq")))
/-- a drawn plan -/
structure PD where
  base : Nat
  settings : Nat
  cols : Nat
  fns : List (List Tr)
  mode : Str
  th : Tr
  free : List Nat
  ws : List Nat
  as : List Nat
def PD.book (d : PD) : Book := ⟨d.base, d.settings, d.fns⟩
structure PDOk (d : PD) : Prop where
  book : BookOk d.book
  cols1 : 1 ≤ d.cols
  cols2 : d.cols ≤ 2
  mode : d.mode ∈ modes
  th : okT d.fns.length d.base d.cols d.th
  cnt : cnt d.th ≤ 12
  free : RisOk d.fns.length d.free
  ws : RisOk d.settings d.ws
  ws1 : d.ws ≠ []
  as : RisOk d.settings d.as
  as1 : d.as ≠ []
def encT (m : Str) (t : Tr) : PyData := .tuple [.tuple [.str m, enc t]]
/-- its dict -/
structure PartsAt (H : Hp) (v : V) (d : PD) : Prop where
  ex : ∃ (a : Addr) (kvs : List (Key × V)) (fv tv fr wr av : V), v = .ref a ∧ H a = some (.dK kvs) ∧ valV kvs (.inr "base") = some (.int d.base) ∧ valV kvs (.inr "settings") = some (.int d.settings) ∧ valV kvs (.inr "functions") = some fv ∧ valV kvs (.inr "columns") = some (.int d.cols) ∧
    valV kvs (.inr "things") = some tv ∧ valV kvs (.inr "free") = some fr ∧ valV kvs (.inr "writers") = some wr ∧ valV kvs (.inr "askers") = some av ∧
    Im H fv (encF d.fns) ∧ Im H tv (encT d.mode d.th) ∧ Im H fr (.tuple (d.free.map nD)) ∧ Im H wr (.tuple (d.ws.map nD)) ∧ Im H av (.tuple (d.as.map nD))
theorem PartsAt.isn {H H' : Hp} {v : V} {d : PD} (s : Isn H H') (h : PartsAt H v d) : PartsAt H' v d := by
  obtain ⟨a, kvs, fv, tv, fr, wr, av, e, h1, h2, h3, h4, h5, h6, h7, h8, h9, i1, i2, i3, i4, i5⟩ := h.ex
  exact ⟨a, kvs, fv, tv, fr, wr, av, e, s _ _ rfl h1, h2, h3, h4, h5, h6, h7, h8, h9, s.im i1, s.im i2, s.im i3, s.im i4, s.im i5⟩
/-! ### lists joined, repeated -/
section
variable {K : PySem.W.Frag} {H : Hp} {Q : VK}
theorem r_cat {l b : Addr} {xs zs : List V} (h : H l = some (.lst xs)) (hb : H b = some (.lst zs)) (hz : xs.length + zs.length ≤ 100000) (q : ∀ p H', Same H H' → H' p = some (.lst (xs ++ zs)) → Q (.ref p) H') : rCat (.ref l) (.ref b) H Q := by
  have e : (100000 : Nat) ≤ sizeLine := by decide
  exact ⟨l, b, xs, zs, rfl, rfl, h, hb, by omega, fun p hp => q p _ (same_upd hp) upd_same⟩
theorem r_rep2 {l : Addr} {xs : List V} (h : H l = some (.lst xs)) (hz : xs.length ≤ 1000) (q : ∀ p H', Same H H' → H' p = some (.lst (xs ++ xs)) → Q (.ref p) H') : rRep (.ref l) (.int 2) H Q := by
  have e : (100000 : Nat) ≤ sizeLine := by decide
  refine ⟨l, 2, xs, rfl, rfl, h, by omega, by omega, ?_, fun p hp => q p _ (same_upd hp) ?_⟩
  · show xs.length * 2 ≤ sizeLine
    omega
  · rw [upd_same]
    show some (HO.lst (xs ++ (xs ++ []))) = _
    rw [List.append_nil]
end
theorem r_put {C : Hp → Prop} {H : Hp} {pd : Addr} {kvs : List (Key × V)} {y v : V} (k : Key) (hy : y = kV k) (e : H pd = some (.dK kvs)) (hl : kvs.length ≤ 1000) (q : ∀ H', (∀ b o, b ≠ pd → H b = some o → H' b = some o) → Tsm H H' → H' pd = some (.dK (putK kvs k v)) → C H') : ∃ a' H', V.ref pd = .ref a' ∧ DPut H a' y v H' ∧ C H' := by
  subst hy
  have z : (1000 : Nat) < sizeLine := by decide
  exact ⟨pd, _, rfl, DPut.k e (by omega), q _ (fun b o n h => by rw [upd_ne n]; exact h) (fun b xs h => by rw [upd_ne (fun z => by rw [z, e] at h; cases h)]; exact h) upd_same⟩
theorem len_putK {κ : Type} [DecidableEq κ] (kvs : List (κ × V)) (k : κ) (v : V) : (putK kvs k v).length ≤ kvs.length + 1 := by
  unfold putK
  split
  · rw [List.length_map]
    omega
  · rw [List.length_append]
    show kvs.length + 1 ≤ _
    omega
theorem r_dput {td ty tv : TE} {σ : L2.St} {H : Hp} {D : Ends} (q : tv σ H fun v H1 => td σ H1 fun x H2 => ty σ H2 fun y H3 => ∃ a H4, x = .ref a ∧ DPut H3 a y v H4 ∧ D.nx σ H4) : sDPut td ty tv D σ H := q
/-- a row of the sizes -/
structure Sz where
  base : Nat
  settings : Nat
  most : Nat
def encSz (z : Sz) : PyData := .tuple [nD z.base, nD z.settings, nD 1, nD z.most, nD 1]
structure SzOk (z : Sz) : Prop where
  b2 : 2 ≤ z.base
  b3 : z.base ≤ 3
  s1 : 1 ≤ z.settings
  s2 : z.settings ≤ z.base
  m1 : 1 ≤ z.most
  m3 : z.most ≤ 3
def spPlanL (K : PySem.W.Frag) : Sp := fun vs H Q _ => ∃ (a sa : Addr) (sc : List Int) (i : Int) (xs : List V) (szs : List Sz), vs = [.ref a, .int i, .ref sa] ∧ SqL K H a (sc.map V.int) ∧ sc.length ≤ 63 ∧ H sa = some (.lst xs) ∧ ImAll H xs (szs.map encSz) ∧ szs ≠ [] ∧ szs.length ≤ 100 ∧ (∀ z ∈ szs, SzOk z) ∧
  ∀ v d H', Same H H' → PDOk d → PartsAt H' v d → Q v H'
theorem scPlan : FnScope ["script", "at", "sizes", "base", "settings", "columns", "most", "many", "functions", "things", "every", "thing", "leaves", "c", "t", "spot", "mode", "tree", "found"] ["script", "at", "sizes"] (defScope (top 69)) := ⟨rfl, rfl, rfl, by decide +kernel, rfl, by decide +kernel, by decide +kernel⟩
section
variable {P : Program} {w : World} {K : PySem.W.Frag} {mg : Str → Option Value} {base : Heap}
theorem ok_planL (D : Df K mg "_law_plan" (top 69)) (B : Bf mg) (cNum : Cal P w K mg base "_law_number" 1 ["script", "index"] (spNum K)) (cTree : Cal P w K mg base "_law_tree" 8 ["script", "at", "size", "leaves", "calls"] (spTree K 7)) (cFns : Cal P w K mg base "_law_functions" 9 ["script", "at", "base", "most"] (spFns K))
    (cSome : Cal P w K mg base "_law_some" 2 ["script", "at", "many", "least"] (spSome K)) : Cal P w K mg base "_law_plan" 10 ["script", "at", "sizes"] (spPlanL K) := by
  refine D.cal (N := ["script", "at", "sizes", "base", "settings", "columns", "most", "many", "functions", "things", "every", "thing", "leaves", "c", "t", "spot", "mode", "tree", "found"]) (ps := ["script", "at", "sizes"]) scPlan (fun _ _ _ _ _ _ us hl => match us, hl with | [_, _, _], _ => rfl) (fun vs H Q E h => ?_) fun f cdv A outer s H vs Q E hr h => ?_
  · obtain ⟨_, _, _, _, _, _, rfl, _⟩ := h
    rfl
  · obtain ⟨a, sa, sc, i, sxs, szs, rfl, hS, hl, hsa, hsx, sne, slen, sok, q⟩ := h
    refine ⟨_, (pss_cons (ps_asg (pe_ix ix_list (pv 2) (pe_op op_mod (pe_callTy c_int (by rfl) (B _ (by decide)) b_int (pa_cons (pe_cal cNum hr (by omega) (pa_cons (pv 0) (pa_cons (pv 1) pa_nil))) pa_nil)) (pe_callB c_len (by rfl) (B _ (by decide)) b_len (pa_cons (pv 2) pa_nil))) (fun _ _ => rfl)) (pg_tup rfl (pgs_cons (pg_name (i := 3) scPlan.nd rfl (by first | exact Or.inl rfl | exact Or.inr rfl)) (pgs_cons (pg_name (i := 4) scPlan.nd rfl (by first | exact Or.inl rfl | exact Or.inr rfl)) (pgs_cons (pg_name (i := 5) scPlan.nd rfl (by first | exact Or.inl rfl | exact Or.inr rfl)) (pgs_cons (pg_name (i := 6) scPlan.nd rfl (by first | exact Or.inl rfl | exact Or.inr rfl)) (pgs_cons (pg_name (i := 7) scPlan.nd rfl (by first | exact Or.inl rfl | exact Or.inr rfl)) pgs_nil)))))))
      (pss_cons (ps_asg (pe_tup (pa_cons (pe_cal cFns hr (by omega) (pa_cons (pv 0) (pa_cons (pe_op op_add (pv 1) pe_int) (pa_cons (pv 3) (pa_cons (pv 6) pa_nil))))) (pa_cons (pe_lst pa_nil) pa_nil))) (pg_tup rfl (pgs_cons (pg_name (i := 8) scPlan.nd rfl (by first | exact Or.inl rfl | exact Or.inr rfl)) (pgs_cons (pg_name (i := 9) scPlan.nd rfl (by first | exact Or.inl rfl | exact Or.inr rfl)) pgs_nil))))
      (pss_cons (ps_set (i := 10) scPlan.nd rfl (by first | exact Or.inl rfl | exact Or.inr rfl) (pe_listRg rfl (by rfl) (B _ (by decide)) (prg_1 (by rfl) (B _ (by decide)) (pe_callB c_len (by rfl) (B _ (by decide)) b_len (pa_cons (pv 8) pa_nil)))))
      (pss_cons (ps_for PassesOwn.never rfl (pi_range1 (by rfl) (B _ (by decide)) (pa_cons (pe_op op_add pe_int (pe_op op_mod (pe_callTy c_int (by rfl) (B _ (by decide)) b_int (pa_cons (pe_cal cNum hr (by omega) (pa_cons (pv 0) (pa_cons (pe_op op_add (pv 1) pe_int) pa_nil))) pa_nil)) (pv 7))) pa_nil)) (pg_name (i := 11) scPlan.nd rfl (by first | exact Or.inl rfl | exact Or.inr rfl))
        (pss_cons (ps_set (i := 12) scPlan.nd rfl (by first | exact Or.inl rfl | exact Or.inr rfl) (pe_op op_cat (pe_op op_rep (pe_lc (own := [("c", 13)]) (g := (gName 13)) (tt := tYes) rfl scPlan.nd (pi_range1 (by rfl) (B _ (by decide)) (pa_cons (pv 5) pa_nil)) (blkOk_by (own := [("c", 13)]) (N := ["script", "at", "sizes", "base", "settings", "columns", "most", "many", "functions", "things", "every", "thing", "leaves", "c", "t", "spot", "mode", "tree", "found"]) (sc := defScope (top 69)) (by decide +kernel)) (fun _ _ _ _ _ => (pg_name (i := 13) scPlan.nd rfl (by first | exact Or.inl rfl | exact Or.inr rfl))) (fun _ _ _ _ _ => pts_nil) (fun _ _ _ _ _ => (pe_tup (pa_cons pe_str (pa_cons (pv 13) pa_nil))))) pe_int) (pe_lst (pa_cons (pe_tup (pa_cons pe_str pa_nil)) (pa_cons (pe_tup (pa_cons pe_str (pa_cons (pe_op op_sub (pv 3) pe_int) pa_nil))) pa_nil)))))
        (pss_cons (ps_set (i := 12) scPlan.nd rfl (by first | exact Or.inl rfl | exact Or.inr rfl) (pe_op op_cat (pv 12) (pe_op op_rep (pe_lc (own := [("t", 14)]) (g := (gName 14)) rfl scPlan.nd (pi_range1 (by rfl) (B _ (by decide)) (pa_cons (pv 11) pa_nil)) (blkOk_by (own := [("t", 14)]) (N := ["script", "at", "sizes", "base", "settings", "columns", "most", "many", "functions", "things", "every", "thing", "leaves", "c", "t", "spot", "mode", "tree", "found"]) (sc := defScope (top 69)) (by decide +kernel)) (fun _ _ _ _ _ => (pg_name (i := 14) scPlan.nd rfl (by first | exact Or.inl rfl | exact Or.inr rfl))) (fun _ _ _ _ _ => (pts_one (pt_cmpR op_eq (pe_ix (ix_tupK (K := K) rfl) (pe_ix (ix_listK (K := K) rfl) (pv 9) (pv 14) (fun _ _ => rfl)) pe_int (fun _ _ => rfl)) pe_str (nomark _)))) (fun _ _ _ _ _ => (pe_tup (pa_cons pe_str (pa_cons (pv 14) pa_nil))))) pe_int)))
        (pss_cons (ps_set (i := 15) scPlan.nd rfl (by first | exact Or.inl rfl | exact Or.inr rfl) (pe_op op_add (pe_op op_add (pv 1) pe_int) (pe_op op_mul pe_int (pv 11))))
        (pss_cons (ps_set (i := 16) scPlan.nd rfl (by first | exact Or.inl rfl | exact Or.inr rfl) (pe_ix ix_tup (pe_tup (pa_cons pe_str (pa_cons pe_str (pa_cons pe_str (pa_cons pe_str pa_nil))))) (pe_op op_mod (pe_callTy c_int (by rfl) (B _ (by decide)) b_int (pa_cons (pe_cal cNum hr (by omega) (pa_cons (pv 0) (pa_cons (pv 15) pa_nil))) pa_nil)) pe_int) (fun _ _ => rfl)))
        (pss_cons (ps_set (i := 17) scPlan.nd rfl (by first | exact Or.inl rfl | exact Or.inr rfl) (pe_cal cTree hr (by omega) (pa_cons (pv 0) (pa_cons (pe_op op_add (pv 15) pe_int) (pa_cons (pe_op op_add pe_int (pe_op op_mod (pe_callTy c_int (by rfl) (B _ (by decide)) b_int (pa_cons (pe_cal cNum hr (by omega) (pa_cons (pv 0) (pa_cons (pe_op op_add (pv 15) pe_int) pa_nil))) pa_nil)) pe_int)) (pa_cons (pv 12) (pa_cons (pv 10) pa_nil)))))))
        (pss_one (ps_expr (pe_bm PySem.F.plainAttrs_list PySem.F.slot_list_append PySem.F.type_list_append mt_append (pv 9) (pa_cons (pe_tup (pa_cons (pv 16) (pa_cons (pv 17) pa_nil))) pa_nil))))))))))
      (pss_cons (ps_set (i := 18) scPlan.nd rfl (by first | exact Or.inl rfl | exact Or.inr rfl) (pe_disp (pps_cons pe_str (pv 3) (pps_cons pe_str (pv 4) (pps_cons pe_str (pv 8) pps_nil))) (by rfl) (by rfl) (fun z => by cases z) (by decide)))
      (pss_cons (ps_asg (pe_tup (pa_cons (pv 5) (pa_cons (pe_callTy c_tup (by rfl) (B _ (by decide)) b_tuple (pa_cons (pv 9) pa_nil)) pa_nil))) (pg_tup rfl (pgs_cons (pg_sub (pv 18) pe_str (set_dict (hu_of hr))) (pgs_cons (pg_sub (pv 18) pe_str (set_dict (hu_of hr))) pgs_nil))))
      (pss_cons (ps_dput (hu_of hr) (pv 18) pe_str (pe_cal cSome hr (by omega) (pa_cons (pv 0) (pa_cons (pe_op op_add (pv 1) pe_int) (pa_cons (pe_callB c_len (by rfl) (B _ (by decide)) b_len (pa_cons (pv 8) pa_nil)) (pa_cons pe_int pa_nil))))) rfl)
      (pss_cons (ps_dput (hu_of hr) (pv 18) pe_str (pe_cal cSome hr (by omega) (pa_cons (pv 0) (pa_cons (pe_op op_add (pv 1) pe_int) (pa_cons (pv 4) (pa_cons pe_int pa_nil))))) rfl)
      (pss_cons (ps_dput (hu_of hr) (pv 18) pe_str (pe_cal cSome hr (by omega) (pa_cons (pv 0) (pa_cons (pe_op op_add (pv 1) pe_int) (pa_cons (pv 4) (pa_cons pe_int pa_nil))))) rfl)
      (pss_one (ps_ret (pv 18)))))))))))), ?_⟩
    have szl : (1000 : Nat) ≤ sizeLine := by decide
    have sxl : sxs.length = szs.length := by rw [hsx.length, List.length_map]
    have spos := List.length_pos_iff.mpr sne
    repeat walk_at "st"
    refine r_num (hS) hl fun H1 s1 => ?_
    repeat walk_at "st"
    refine r_lenL (.of (s1.at hsa)) sxl ?_
    repeat walk_at "st"
    refine r_I (by omega) ?_
    have v0 : 0 ≤ lnum sc i % (szs.length : Int) := Int.emod_nonneg _ (by omega)
    have v1 : lnum sc i % (szs.length : Int) < szs.length := Int.emod_lt_of_pos _ (by omega)
    obtain ⟨z, hz⟩ : ∃ z, szs[(lnum sc i % (szs.length : Int)).toNat]? = some z := ⟨_, List.getElem?_eq_getElem (by omega)⟩
    obtain ⟨zv, hzv, iz⟩ := hsx.get (i := (lnum sc i % (szs.length : Int)).toNat) (d := encSz z) (by rw [List.getElem?_map, hz]; rfl)
    have zok := sok z (List.mem_of_getElem? hz)
    have ezv := atI_nat hzv
    rw [Int.toNat_of_nonneg v0] at ezv
    refine r_ixL (.of (s1.at hsa)) ezv ?_
    obtain ⟨za, zxs, rfl, hza, izx⟩ := im_tup (s1.im iz)
    obtain rfl : zxs = [.int z.base, .int z.settings, .int 1, .int z.most, .int 1] := by
      cases izx with
      | cons j1 r1 =>
      cases j1
      cases r1 with
      | cons j2 r2 =>
      cases j2
      cases r2 with
      | cons j3 r3 =>
      cases j3
      cases r3 with
      | cons j4 r4 =>
      cases j4
      cases r4 with
      | cons j5 r5 =>
      cases j5
      cases r5
      rfl
    refine r_gTup (.of hza) rfl ?_
    repeat walk_at "st"
    have zb2 := zok.b2
    have zb3 := zok.b3
    refine ⟨a, sc, _, z.base, z.most, rfl, s1.seq hS, hl, zok.b2, zok.b3, zok.m1, zok.m3, fun fa fns H2 s2 fok ifn => ?_⟩
    obtain ⟨_, fxs, efa, hfa, hfx⟩ := im_tup ifn
    cases efa
    have fxl : fxs.length = fns.length := by rw [hfx.length, List.length_map]
    have f1 := fok.len1
    have f3 := fok.len3
    repeat walk_at "st"
    refine r_newL (by show 0 ≤ sizeLine; decide) fun tl H3 ntl s3 etl => ?_
    repeat walk_at "st"
    refine r_newT (by show 2 ≤ sizeLine; decide) fun pp H4 npp s4 epp => ?_
    refine r_gTup (.of epp) rfl ?_
    have s14 := ((s1.trans s2).trans s3).trans s4
    have s24 := s3.trans s4
    repeat walk_at "st"
    refine r_lRg fns.length (fun Q' kk => ?_) rfl (by omega) fun ev H5 nev s5 eev => ?_
    · repeat walk_at "st"
      exact r_lenT (.of (s24.at hfa)) fxl kk
    have s15 := s14.trans s5
    repeat walk_at "st"
    refine r_num (s15.seq hS) hl fun H6 s6 => ?_
    repeat walk_at "st"
    rw [Int.emod_one]
    refine ⟨_, rfl, by omega, by omega, ?_⟩
    have s16 := s15.trans s6
    have etl6 : H6 tl = some (.lst []) := s6.at (s5.at (s4.at etl))
    refine for_w (walk_range (n := 1)) (fun j σ' H' => ∃ (tacc : List V) (o11 o12 o13 o14 o15 o16 o17 : Option V), Same H2 H' ∧ H' tl = some (.lst tacc) ∧ H' ev = some (.lst ((List.range fns.length).map nI)) ∧ (j = 0 → tacc = []) ∧
        (j = 1 → ∃ m t, m ∈ modes ∧ okT fns.length z.base 1 t ∧ cnt t ≤ 12 ∧ ImAll H' tacc [.tuple [.str m, enc t]]) ∧
        σ' = [some (.ref a), some (.int i), some (.ref sa), some (.int z.base), some (.int z.settings), some (.int 1), some (.int z.most), some (.int 1), some (.ref fa), some (.ref tl), some (.ref ev), o11, o12, o13, o14, o15, o16, o17, none])
      ⟨[], none, none, none, none, none, none, none, (s24.trans s5).trans s6, etl6, s6.at eev, fun _ => rfl, by simp, rfl⟩ (fun _ _ _ _ _ => trivial) ?_ ?_
    · rintro j x σ' HX HA hj ⟨tacc, o11, o12, o13, o14, o15, o16, o17, sA, eA, evA, t0, _, rfl⟩ ⟨rfl, rfl⟩
      obtain rfl : j = 0 := by omega
      obtain rfl := t0 rfl
      have s2A := (s1.trans s2).trans sA
      repeat walk_at "st"
      refine ⟨1, rfl, by omega, by omega, fun D nD => ?_⟩
      refine lc_w (walk_range (n := 1)) nD (fun k acc H' => ImAll H' acc ((List.range k).map fun c => enc (.col (c : Nat)))) (fun _ _ _ _ n z => n.ims z) (by omega) (fun _ _ => trivial) .nil (fun k x acc HB HC Kt Kf hk sB p y kt _ => ?_) fun acc HB sB eB al p => ?_
      · obtain ⟨rfl, rfl⟩ := y
        repeat walk_at "st"
        refine ⟨rfl, ?_⟩
        repeat walk_at "st"
        refine r_newT (by show 2 ≤ sizeLine; decide) fun p1 HD np1 sD eD => ?_
        refine kt _ _ sD ?_
        rw [List.range_succ, List.map_append]
        refine (sD.ims p).app (.cons (.tup eD (.cons (.str _) (.cons ?_ .nil))) .nil)
        show Im HD (.int (0 + (k : Int))) (.int (k : Nat))
        rw [Int.zero_add]
        exact .int _
      · have bl := al
        repeat walk_at "st"
        refine r_rep2 eB (by omega) fun p2 HC sC eC => ?_
        repeat walk_at "st"
        refine r_newT (by show 1 ≤ sizeLine; decide) fun p3 HD np3 sD eD => ?_
        repeat walk_at "st"
        refine r_newT (by show 2 ≤ sizeLine; decide) fun p4 HE np4 sE eE => ?_
        repeat walk_at "st"
        refine r_newL (by show 2 ≤ sizeLine; decide) fun p5 HF np5 sF eF => ?_
        refine r_cat (sF.at (sE.at (sD.at eC))) eF (by rw [List.length_append]; show acc.length + acc.length + 2 ≤ 100000; omega) fun p6 HG sG eG => ?_
        have sCG := ((sD.trans sE).trans sF).trans sG
        have iacc : ImAll HG acc ([Tr.col 0].map enc) := (sC.trans sCG).ims p
        repeat walk_at "st"
        refine ⟨0, rfl, by omega, by omega, fun D2 nD2 => ?_⟩
        refine lc_w (walk_range (n := 0)) nD2 (fun _ acc _ => acc = []) (fun _ _ _ _ _ z => z) (by omega) (fun _ _ => trivial) rfl (fun k x acc HB HC Kt Kf hk => absurd hk (Nat.not_lt_zero k)) fun acc2 HH sH eH _ p2' => ?_
        subst p2'
        repeat walk_at "st"
        refine r_rep2 eH (by show 0 ≤ 1000; decide) fun p7 HI sI eI => ?_
        refine r_cat (sI.at (sH.at eG)) eI (by rw [List.length_append, List.length_append, List.length_append]; show acc.length + acc.length + 2 + 0 ≤ 100000; omega) fun p8 HJ sJ eJ => ?_
        have sGJ := (sH.trans sI).trans sJ
        have sAJ := ((sB.trans sC).trans sCG).trans sGJ
        obtain ⟨lv, elv, ilv⟩ : ∃ lv : List Tr, lv = [.col 0, .col 0, .setting, .num (z.base - 1)] ∧ ImAll HJ (((acc ++ acc) ++ [.ref p3, .ref p4]) ++ ([] ++ [])) (lv.map enc) := by
          refine ⟨_, rfl, ?_⟩
          rw [List.append_nil, List.append_nil]
          have i3 : Im HJ (.ref p3) (enc .setting) := sGJ.im (sG.im (.tup (sF.at (sE.at eD)) (.cons (.str _) .nil)))
          have i4 : Im HJ (.ref p4) (enc (.num (z.base - 1))) := sGJ.im (sG.im (.tup (sF.at eE) (.cons (.str _) (.cons (.int _) .nil))))
          exact ((sGJ.ims iacc).app (sGJ.ims iacc)).app (.cons i3 (.cons i4 .nil))
        repeat walk_at "st"
        refine r_newT (by show 4 ≤ sizeLine; decide) fun p9 HK np9 sK eK => ?_
        repeat walk_at "st"
        refine r_num ((s2A.trans (sAJ.trans sK)).seq hS) hl fun HL sL => ?_
        repeat walk_at "st"
        generalize hmz : lnum sc (i + 220 + 40 * (0 + ((0 : Nat) : Int))) = mz
        obtain ⟨mode, emode, mmode⟩ : ∃ mode : Str, atI [V.str "kept", .str "again", .str "kept", .str "check"] (mz % 4) = some (.str mode) ∧ mode ∈ modes := by
          have g2 : 0 ≤ mz % 4 := Int.emod_nonneg _ (by omega)
          have g3 : mz % 4 < 4 := Int.emod_lt_of_pos _ (by omega)
          have z : mz % 4 = 0 ∨ mz % 4 = 1 ∨ mz % 4 = 2 ∨ mz % 4 = 3 := by omega
          rcases z with z | z | z | z <;> rw [z]
          · exact ⟨"kept", rfl, by simp [modes]⟩
          · exact ⟨"again", rfl, by simp [modes]⟩
          · exact ⟨"kept", rfl, by simp [modes]⟩
          · exact ⟨"check", rfl, by simp [modes]⟩
        refine r_ixT (.of (sL.at eK)) emode ?_
        repeat walk_at "st"
        have sAL := (sAJ.trans sK).trans sL
        refine r_num ((s2A.trans sAL).seq hS) hl fun HM sM => ?_
        repeat walk_at "st"
        generalize hsz : lnum sc (i + 220 + 40 * (0 + ((0 : Nat) : Int)) + 2) = zz
        have g4 : 0 ≤ zz % 5 := Int.emod_nonneg _ (by omega)
        have g5 : zz % 5 < 5 := Int.emod_lt_of_pos _ (by omega)
        have sAM := sAL.trans sM
        have sJM := (sK.trans sL).trans sM
        refine r_tree (m := (2 + zz % 5).toNat) (leaves := lv) (calls := List.range fns.length) ((s2A.trans sAM).seq hS) hl (sJM.at eJ) (sJM.ims ilv) (by simp [elv]) (by simp [elv]) (sAM.at evA) (by rw [List.length_range]; omega) (by omega) (by omega) fun tv HN sN iN => ?_
        have lvok : ∀ t ∈ lv, okT fns.length z.base 1 t ∧ cnt t = 1 := by
          intro t ht
          simp only [elv, List.mem_cons, List.not_mem_nil, or_false] at ht
          rcases ht with rfl | rfl | rfl | rfl
          · exact ⟨⟨by omega, by omega⟩, rfl⟩
          · exact ⟨⟨by omega, by omega⟩, rfl⟩
          · exact ⟨trivial, rfl⟩
          · exact ⟨⟨by omega, by omega⟩, rfl⟩
        have ot := ltree_P (ns := sc) (leaves := lv) (calls := List.range fns.length) (okT fns.length z.base 1) (by simp [elv]) (fun t ht => (lvok t ht).1) (fun k hk t ht => ⟨List.mem_range.mp hk, ht⟩) (fun o x y ho hx hy => ⟨ho, hx, hy⟩) (fun x y z hx hy hz => ⟨hx, hy, hz⟩) 7 (2 + zz % 5).toNat (i + 220 + 40 * (0 + ((0 : Nat) : Int)) + 1) (by omega)
        have ctt := ltree_cnt (ns := sc) (leaves := lv) (calls := List.range fns.length) (by simp [elv]) (fun t ht => (lvok t ht).2) 7 (2 + zz % 5).toNat (i + 220 + 40 * (0 + ((0 : Nat) : Int)) + 1) (by omega) (by omega)
        have sAN := sAM.trans sN
        repeat walk_at "st"
        dsimp only
        repeat walk_at "st"
        refine ⟨ty_l (sAN.at eA), ?_⟩
        repeat walk_at "st"
        refine r_newT (by show 2 ≤ sizeLine; decide) fun pA HO_ npA sO eO => ?_
        repeat walk_at "st"
        refine r_append (sO.at (sAN.at eA)) (by show 0 < sizeLine; decide) fun HP mP eP => ?_
        repeat walk_at "st"
        have tlev : ev ≠ tl := fun zq => by
          have e : H4 tl = some (.lst []) := s4.at etl
          rw [← zq, nev] at e
          cases e
        refine ⟨[.ref pA], _, _, _, _, _, _, _, Mv.same (sA.trans (sAN.trans sO)) mP ntl, eP, mP.rest _ _ tlev (sO.at (sAN.at evA)), fun z => absurd z (by decide), fun _ => ⟨mode, _, mmode, ot, by omega, .cons (.tup (mP.at eO fun _ z => by cases z) (.cons (.str _) (.cons (mP.im (sO.im iN)) .nil))) .nil⟩, rfl⟩
    · rintro σ' HA ⟨tacc, o11, o12, o13, o14, o15, o16, o17, sA, eA, evA, _, t1, rfl⟩
      obtain ⟨mode, th, mmode, oth, cth, ith⟩ := t1 rfl
      have s2A := (s1.trans s2).trans sA
      repeat walk_at "st"
      refine r_disp fun pd HB npd sB eB => ?_
      repeat walk_at "st"
      refine ⟨eB, [(.inr "base", .int z.base), (.inr "settings", .int z.settings), (.inr "functions", .ref fa)], rfl, by show 3 ≤ 15; decide, ?_⟩
      obtain ⟨HC, eHC, sC, eC⟩ : ∃ HC, upd HB pd (.dK (mergeK [] [((.inr "base" : Key), V.int z.base), (.inr "settings", .int z.settings), (.inr "functions", .ref fa)])) = HC ∧ Same HA HC ∧ HC pd = some (.dK (mergeK [] [((.inr "base" : Key), V.int z.base), (.inr "settings", .int z.settings), (.inr "functions", .ref fa)])) :=
        ⟨_, rfl, fun b o h => by rw [upd_ne (ne_of_none h npd)]; exact sB _ _ h, upd_same⟩
      rw [eHC]
      repeat walk_at "st"
      dsimp only
      repeat walk_at "st"
      refine r_tupL (.of (sC.at eA)) fun tt HD ntt sD eD => ?_
      repeat walk_at "st"
      refine r_newT (by show 2 ≤ sizeLine; decide) fun p2 HE np2 sE eE => ?_
      refine r_gTup (.of eE) rfl ?_
      repeat walk_at "st"
      obtain ⟨k0, ek0⟩ : ∃ k0, mergeK [] [((.inr "base" : Key), V.int z.base), (.inr "settings", .int z.settings), (.inr "functions", .ref fa)] = k0 := ⟨_, rfl⟩
      have l0 : k0.length ≤ 3 := by rw [← ek0]; exact Nat.le_refl 3
      rw [ek0] at eC
      refine r_put (.inr "columns") rfl (sE.at (sD.at eC)) (by omega) fun HF pF tF eF => ?_
      have l1 := len_putK k0 (.inr "columns") (.int 1)
      have sAF : Same HA HF := fun b o h => pF b o (ne_of_none h npd) ((sC.trans (sD.trans sE)) _ _ h)
      repeat walk_at "st"
      refine r_put (.inr "things") rfl eF (by omega) fun HG pG tG eG => ?_
      have l2 := len_putK (putK k0 (.inr "columns") (.int 1)) (.inr "things") (.ref tt)
      have sAG : Same HA HG := fun b o h => pG b o (ne_of_none h npd) (sAF _ _ h)
      have iT : Im HG (.ref tt) (encT mode th) := Im.ts (fun b xs h => tG b xs (tF b xs h)) _ _ (sE.im (.tup eD (sD.ims (sC.ims ith))))
      repeat walk_at "st"
      refine r_dput ?_
      repeat walk_at "st"
      refine r_lenT (.of ((sA.trans sAG).at hfa)) fxl ?_
      repeat walk_at "st"
      refine ⟨a, sc, _, fns.length, 0, rfl, (s2A.trans sAG).seq hS, hl, f1, f3, by omega, fun fp free HH sH efp rfree _ => ?_⟩
      repeat walk_at "st"
      refine r_put (.inr "free") rfl (sH.at eG) (by omega) fun HI pI tI eI => ?_
      have l3 := len_putK (putK (putK k0 (.inr "columns") (.int 1)) (.inr "things") (.ref tt)) (.inr "free") (.ref fp)
      have sAI : Same HA HI := fun b o h => pI b o (ne_of_none h npd) (sH _ _ (sAG _ _ h))
      repeat walk_at "st"
      refine r_dput ?_
      repeat walk_at "st"
      have s1z := zok.s1
      have s2z := zok.s2
      refine ⟨a, sc, _, z.settings, 1, rfl, (s2A.trans sAI).seq hS, hl, s1z, by omega, by omega, fun wp ws HJ sJ ewp rws wl => ?_⟩
      repeat walk_at "st"
      refine r_put (.inr "writers") rfl (sJ.at eI) (by omega) fun HK pK tK eK => ?_
      have l4 := len_putK (putK (putK (putK k0 (.inr "columns") (.int 1)) (.inr "things") (.ref tt)) (.inr "free") (.ref fp)) (.inr "writers") (.ref wp)
      have sAK : Same HA HK := fun b o h => pK b o (ne_of_none h npd) (sJ _ _ (sAI _ _ h))
      repeat walk_at "st"
      refine r_dput ?_
      repeat walk_at "st"
      refine ⟨a, sc, _, z.settings, 1, rfl, (s2A.trans sAK).seq hS, hl, s1z, by omega, by omega, fun ap as HL sL eap ras al => ?_⟩
      repeat walk_at "st"
      refine r_put (.inr "askers") rfl (sL.at eK) (by omega) fun HM pM tM eM => ?_
      have sAM : Same HA HM := fun b o h => pM b o (ne_of_none h npd) (sL _ _ (sAK _ _ h))
      repeat walk_at "st"
      have iTM : Im HM (.ref tt) (encT mode th) := Im.ts tM _ _ (sL.im (Im.ts tK _ _ (sJ.im (Im.ts tI _ _ (sH.im iT)))))
      have ifr : Im HM (.ref fp) (.tuple (free.map nD)) := Im.ts tM _ _ (sL.im (Im.ts tK _ _ (sJ.im (Im.ts tI _ _ (.tup efp (im_nats free))))))
      have iwr : Im HM (.ref wp) (.tuple (ws.map nD)) := Im.ts tM _ _ (sL.im (Im.ts tK _ _ (.tup ewp (im_nats ws))))
      have ias : Im HM (.ref ap) (.tuple (as.map nD)) := Im.ts tM _ _ (.tup eap (im_nats as))
      have nn : ∀ {l : List Nat}, 1 ≤ l.length → l ≠ [] := fun h z => by rw [z] at h; exact absurd h (by decide)
      refine q (.ref pd) ⟨z.base, z.settings, 1, fns, mode, th, free, ws, as⟩ HM (s2A.trans sAM) ⟨⟨fok, s1z, s2z⟩, by show 1 ≤ 1; decide, by show 1 ≤ 2; decide, mmode, oth, cth, rfree, rws, nn wl, ras, nn al⟩
        ⟨pd, _, .ref fa, .ref tt, .ref fp, .ref wp, .ref ap, rfl, eM, ?_, ?_, ?_, ?_, ?_, ?_, ?_, ?_, (sA.trans sAM).im ifn, iTM, ifr, iwr, ias⟩
      all_goals subst ek0
      all_goals rfl
end
end K5
end

section
set_option maxHeartbeats 4000000
/-! LI: the program's objects made of a drawn plan. -/
namespace K5
open PySem PySem.Spec L2
open PyProof.Rows hiding St
section
variable {X : Cx} {K : PySem.W.Frag}
theorem c_tupK (h : X.K = K) : CallR X (.type "tuple") (rTupOf K) := h ▸ c_tup
theorem pi_tupK {tg l : Expr} {tl : TE} (h : X.K = K) (hl : PE X l tl) : PI X tg l (iTup K tl) := h ▸ pi_tup hl
theorem blkOk_in {N : List Str} {sc scope : Scope} {own : List (Str × Nat)} (h : blkC N scope scope own = true) (nf : ∀ y ∈ scope.names, y.2 ≠ NameKind.free) : BlkOk N sc scope own :=
  have k := blkOk_by (sc := scope) h
  ⟨k.kind, k.uniq, k.ix, fun y hy e => absurd e (nf y hy), k.own⟩
variable {C : Addr} {j k : Nat} {x : Str} {ps : List Str} {sp : Sp} {t : TA} {e : Expr} {es : List Expr} {p pos : Pos}
theorem pe_makeM (M : Mtd X.prog X.w X.K X.mg X.base C "__init__" k ps sp) (mk : PySem.W.makesIn X.K C = true ∧ PySem.W.keepIn X.K (.ref C) = true) (hr : Room j X.A) (hk : k + 1 ≤ j) (hm : X.mg x = some (.ref C)) (ha : PA X (e :: es) t) (hg : Gl X x := by rfl)
    (hdb : (x == ("__debug__" : Str)) = false := by decide) (he : starEach (e :: es) X.env = (false, eval e X.env) :: starEach es X.env := by rfl) (hpl : (backTo pos (starEach es X.env)).any (·.1) = false := by rfl) :
    PE X (.Call (.Name x p) (e :: es) [] pos) (tMake C sp [] E0 t) := by
  obtain ⟨f, fd, h1, F, hb, _⟩ := M
  exact pe_make ⟨mk.1, h1.at_, h1.fn, mk.2⟩ F (hr.mono hk) hg hm hb .nil pass0 ha hdb he hpl
end
section
variable {σ : L2.St} {H : Hp} {Q : VK} {C : Addr} {sp : Sp} {t : TA} {CP CB CF : Addr}
def MkIn (C : Addr) (sp : Sp) (vs : List V) (H1 : Hp) (Q : VK) : Prop := ∀ x dx, H1 x = none → H1 dx = none → dx ≠ x → sp (.ref x :: vs) (upd (upd H1 dx (.own x)) x (.ins C dx [])) (fun v H2 => v = .non ∧ Q (.ref x) H2) E0
theorem r_mk (q : t σ H fun vs H1 => MkIn C sp vs H1 Q) : tMake C sp [] E0 t σ H Q := by
  show t σ H fun vs H1 => ∀ x dx, H1 x = none → H1 dx = none → dx ≠ x → sp (.ref x :: (vs ++ [])) (upd (upd H1 dx (.own x)) x (.ins C dx [])) (fun v H2 => v = .non ∧ Q (.ref x) H2) E0
  simp only [List.append_nil]
  exact q
theorem same_mk {x dx : Addr} (hx : H x = none) (hd : H dx = none) (n : dx ≠ x) : Same H (upd (upd H dx (.own x)) x (.ins C dx [])) := fun b o h => by
  rw [upd_ne (ne_of_none h hx), upd_ne (ne_of_none h hd)]
  exact h
theorem same_put {H1 H2 : Hp} {x : Addr} {o : HO} (s : Same H H1) (hx : H x = none) : Same H (upd H1 x o) := fun b p h => by
  rw [upd_ne (ne_of_none h hx)]
  exact s _ _ h
theorem mk_form {tv : V} {t : Tr} (im : Im H tv (enc t)) (wf : wfT t) (hc : cnt t ≤ 12) (q : ∀ x H', Same H H' → FormAt CF H' (.ref x) t → Q (.ref x) H') : MkIn CF (spFormI CF) [tv] H Q := fun x dx hx hd n => by
  have s := same_mk (C := CF) hx hd n
  refine ⟨x, dx, tv, t, rfl, upd_same, s.im im, wf, hc, fun H1 s1 => ⟨rfl, ?_⟩⟩
  have s2 : Same H (upd H1 x (.ins CF dx [("tree", tv)])) := same_put (H2 := H1) (s.trans s1) hx
  exact q x _ s2 ⟨x, dx, tv, rfl, upd_same, s2.im im⟩
theorem mk_book {fa : Addr} {xs : List V} {B : Book} (hfa : H fa = some (.tup xs)) (hxs : Each (RowAt CF H) xs B.fns) (bok : BookOk B) (q : ∀ x H', Same H H' → BookAt CB CF H' (.ref x) B → Q (.ref x) H') : MkIn CB (spBookI CB CF) [.int B.base, .int B.settings, .ref fa] H Q := fun x dx hx hd n => by
  have s := same_mk (C := CB) hx hd n
  refine ⟨x, dx, fa, xs, B, rfl, upd_same, s.at hfa, hxs.imp fun _ _ z => z.isn s.isn, bok, fun p H1 s1 e1 => ⟨rfl, ?_⟩⟩
  have s2 : Same H (upd H1 x (.ins CB dx [("parts", .ref p)])) := same_put (H2 := H1) (s.trans s1) hx
  have hp : p ≠ x := fun z => by
    have e : H1 x = some (.ins CB dx []) := s1.at upd_same
    rw [← z, e1] at e
    cases e
  exact q x _ s2 ⟨x, dx, p, fa, xs, rfl, upd_same, by rw [upd_ne hp]; exact e1, s2.at hfa, hxs.imp fun _ _ z => z.isn s2.isn⟩
theorem r_mkK {n : Nat} {ks : List Str} {tk : TA} (q : t σ H fun vs H1 => tk σ H1 fun zs H2 => vs.length = n ∧ zs.length = ks.length ∧ MkIn C sp (vs ++ zs) H2 Q) : tMakeK C n ks.length sp (fun vs zs => vs ++ zs) E0 t tk σ H Q := q
theorem mk_plan {bk : V} {th fr wr as_ : Addr} {B : Book} {cols : Nat} {m : Str} {t : Tr} {free ws as : List Nat} (hb : BookAt CB CF H bk B) (bok : BookOk B) (c1 : 1 ≤ cols) (c2 : cols ≤ 2) (hth : ThAt CF H th m t) (hm : m ∈ modes) (ok : okT B.fns.length B.base cols t) (hc : cnt t ≤ 12)
    (hfr : H fr = some (.tup (free.map nI))) (rfr : RisOk B.fns.length free) (hwr : H wr = some (.tup (ws.map nI))) (rwr : RisOk B.settings ws) (nws : ws ≠ []) (has : H as_ = some (.tup (as.map nI))) (ras : RisOk B.settings as) (nas : as ≠ [])
    (q : ∀ x H', Same H H' → PlanAt CP CB CF H' (.ref x) B free → Q (.ref x) H') : MkIn CP (spPlanI CP CB CF) [bk, .int cols, .ref th, .ref fr, .ref wr, .ref as_] H Q := fun x dx hx hd n => by
  have s := same_mk (C := CP) hx hd n
  refine ⟨x, dx, th, fr, wr, as_, bk, B, cols, m, t, free, ws, as, rfl, upd_same, hb.isn s.isn, bok, c1, c2, hth.isn s.isn, hm, ok, hc, s.at hfr, rfr, s.at hwr, rwr, nws, s.at has, ras, nas, fun p H1 s1 e1 => ⟨rfl, ?_⟩⟩
  have s2 : Same H (upd H1 x (.ins CP dx [("parts", .ref p)])) := same_put (H2 := H1) (s.trans s1) hx
  have hp : p ≠ x := fun z => by
    have e : H1 x = some (.ins CP dx []) := s1.at upd_same
    rw [← z, e1] at e
    cases e
  exact q x _ s2 ⟨x, dx, p, bk, _, _, fr, _, _, rfl, upd_same, by rw [upd_ne hp]; exact e1, hb.isn s2.isn, s2.at hfr⟩
theorem r_pget {a : Addr} {kvs : List (Key × V)} {y v : V} {G : V → Prop} (k : Key) (hy : y = kV k) (h : H a = some (.dK kvs)) (e : valV kvs k = some v) (q : G v) : ∃ a' v', V.ref a = .ref a' ∧ DGet H a' y (some v') ∧ G v' := by
  subst hy
  exact ⟨a, v, rfl, by rw [← e]; exact DGet.k h, q⟩
end
theorem ints_of {H : Hp} : ∀ {ns : List Nat} {xs : List V}, ImAll H xs (ns.map nD) → xs = ns.map nI
  | [], _, .nil => rfl
  | _ :: _, _, .cons h r => by
    cases h
    rw [ints_of r]
    rfl
local macro_rules | `(tactic| walk_at "lf") => `(tactic| first
  | assumption
  | (refine Same.im (by assumption) ?_; walk_at "lf")
  | (refine Same.ims (by assumption) ?_; walk_at "lf")
  | (refine Same.at (by assumption) ?_; walk_at "lf")
  | (refine Same.sqT (by assumption) ?_; walk_at "lf")
  | (refine Same.seq (by assumption) ?_; walk_at "lf")
  | exact SqL.of (by walk_at "lf")
  | exact SqT.of (by walk_at "lf"))
local macro_rules | `(tactic| walk_at "st") => `(tactic| first
  | ((with_reducible refine r_var (v := ?vv) ?rv ?_); (case rv => exact rfl))
  | with_reducible first
    | refine r_seq ?_
    | refine r_asg ?_
    | refine r_gName ?_
    | refine r_c ?_
    | refine r_op ?_
    | refine r_I0 ?_
    | refine r_exbl ?_
    | refine r_cb ?_
    | refine r_nil ?_
    | refine r_cons ?_
    | refine r_test ?_
    | refine r_tB ?_
    | refine r_and ?_
    | refine r_or ?_
    | refine r_not ?_
    | refine r_if ?_
    | refine r_ret ?_
    | refine r_next ?_
    | refine r_tup ?_
    | refine r_lst ?_
    | refine r_int ?_
    | refine r_exint ?_
    | refine r_sl ?_
    | refine r_part ?_
    | refine r_nopart ?_
    | refine r_par ?_
    | refine r_ex2 ?_
    | refine r_call ?_
    | refine r_un ?_
    | refine r_U ?_
    | refine r_andV ?_
    | refine r_orV ?_
    | refine r_notV ?_
    | refine r_chain ?_
    | refine r_isN ?_
    | refine r_notN ?_
    | refine r_drop ?_
    | refine r_I (by decide) ?_
    | refine r_EqI ?_
    | refine r_NeI ?_
    | refine r_EqS ?_
    | refine r_NeS ?_
    | refine r_gSub ?_
    | refine r_gCons ?_
    | refine r_gNil ?_
    | refine r_dget ?_
    | refine r_pcons ?_
    | refine r_pnil ?_
    | refine iteT ?_
    | refine iteF ?_
    | refine iteNF ?_
    | refine iteNT ?_
    | refine r_prop ?_
    | refine r_dget2 ?_
    | refine r_din ?_
    | refine r_dput ?_
    | refine r_mk ?_
    | refine r_propG ?_
    | refine r_mtd ?_
    | refine r_bm ?_
    | refine r_si ?_
    | refine r_for ?_
    | refine r_lc ?_
    | refine r_iT ?_
    | refine r_iL ?_
    | refine r_enT ?_
    | refine r_zip ?_
    | refine r_zs ?_
    | refine r_iR1 ?_
    | refine r_yes ?_
    | refine r_fld ?_
    | refine r_star1 ?_
    | refine r_ctE ?_
    | refine r_div (by decide) (by decide) ?_
    | refine r_mulL (by decide) (by decide) ?_
    | refine r_mulR (by decide) (by decide) ?_)
local macro_rules | `(tactic| walk_at "tq") => `(tactic| ((repeat walk_at "st"); first
  | assumption
  | (refine q_decT (by omega) (by assumption))
  | (refine q_decF (by omega) (by assumption))
  | (refine q_nT (by omega) (by assumption))
  | (refine q_nF (by omega) (by assumption))
  | (refine ite_dec (fun _ => ?_) (fun _ => ?_) <;> first | (exfalso; omega) | walk_at "tq")
  | (refine ite_ndec (fun _ => ?_) (fun _ => ?_) <;> first | (exfalso; omega) | walk_at "tq")))
def spMade (CP CB CF : Addr) : Sp := fun vs H Q _ => ∃ (pv : V) (d : PD), vs = [pv] ∧ PartsAt H pv d ∧ PDOk d ∧ ∀ v H', Same H H' → PlanAt CP CB CF H' v d.book d.free → Q v H'
theorem scMade : FnScope ["parts", "functions", "tree", "bodies", "things", "mode", "book"] ["parts"] (defScope (top 70)) := ⟨rfl, rfl, rfl, by decide +kernel, rfl, by decide +kernel, by decide +kernel⟩
section
variable {P : Program} {w : World} {K : PySem.W.Frag} {mg : Str → Option Value} {base : Heap} {T : List NTab} {CP CB CF : Addr}
theorem ok_made {fI : Addr} {fdI : FuncData} (D : Df K mg "_law_made" (top 70)) (B : Bf mg) (Km : Kcm K mg CP CB CF) (mForm : Mtd P w K mg base CF "__init__" 15 ["self", "tree"] (spFormI CF)) (mkF : PySem.W.makesIn K CF = true ∧ PySem.W.keepIn K (.ref CF) = true)
    (mBook : Mtd P w K mg base CB "__init__" 20 ["self", "base", "settings", "functions"] (spBookI CB CF)) (mkB : PySem.W.makesIn K CB = true ∧ PySem.W.keepIn K (.ref CB) = true) (mkPl : Mk K CP fI) (okPl : FnOk P w K mg base CX0 20 fI fdI ["self", "book", "columns", "things", "free", "writers", "askers"] (spPlanI CP CB CF))
    (kbPl : KBn K fdI ["self", "book", "columns", "things", "free", "writers", "askers"] 4 ["free", "writers", "askers"] (fun vs zs => vs ++ zs) (fun vs zs => vs ++ zs)) : Cal P w K mg base "_law_made" 22 ["parts"] (spMade CP CB CF) := by
  have gForm := Km.gForm
  have gBook := Km.gBook
  have gPlan := Km.gPlan
  refine D.cal (N := ["parts", "functions", "tree", "bodies", "things", "mode", "book"]) (ps := ["parts"]) scMade (fun _ _ _ _ _ _ us hl => match us, hl with | [_], _ => rfl) (fun vs H Q E h => ?_) fun f cdv A outer s H vs Q E hr h => ?_
  · obtain ⟨_, _, rfl, _⟩ := h
    rfl
  · obtain ⟨dv0, d, rfl, hp, dok, q⟩ := h
    refine ⟨_, (pss_cons (ps_set (i := 1) scMade.nd rfl (by first | exact Or.inl rfl | exact Or.inr rfl) (pe_callTy c_tup (by rfl) (B _ (by decide)) b_tuple (pa_cons (pe_lc (own := [("bodies", 3)]) (g := (gName 3)) (tt := tYes) rfl scMade.nd (pi_tup (pe_dget (hu_of hr) (pv 0) pe_str (fun _ _ => rfl))) (blkOk_by (own := [("bodies", 3)]) (N := ["parts", "functions", "tree", "bodies", "things", "mode", "book"]) (sc := defScope (top 70)) (by decide +kernel)) (fun _ _ _ _ _ => (pg_name (i := 3) scMade.nd rfl (by first | exact Or.inl rfl | exact Or.inr rfl))) (fun _ _ _ _ _ => pts_nil) (fun _ _ _ _ _ => (pe_callTy (c_tupK (K := K) rfl) (by rfl) (B _ (by decide)) b_tuple (pa_cons (pe_lc (own := [("tree", 2)]) (g := (gName 2)) (tt := tYes) rfl scMade.nd (pi_tupK (K := K) rfl (pv 3)) (blkOk_in (own := [("tree", 2)]) (N := ["parts", "functions", "tree", "bodies", "things", "mode", "book"]) (by decide +kernel) (by decide +kernel)) (fun _ _ _ _ _ => (pg_name (i := 2) scMade.nd rfl (by first | exact Or.inl rfl | exact Or.inr rfl))) (fun _ _ _ _ _ => pts_nil) (fun _ _ _ _ _ => (pe_makeM mForm mkF hr (by omega) gForm (pa_cons (pv 2) pa_nil)))) pa_nil)))) pa_nil)))
      (pss_cons (ps_set (i := 4) scMade.nd rfl (by first | exact Or.inl rfl | exact Or.inr rfl) (pe_callTy c_tup (by rfl) (B _ (by decide)) b_tuple (pa_cons (pe_lc (own := [("mode", 5), ("tree", 2)]) (g := (gTup _ 2 (gCons (gName 5) (gCons (gName 2) gNil)))) (tt := tYes) rfl scMade.nd (pi_tup (pe_dget (hu_of hr) (pv 0) pe_str (fun _ _ => rfl))) (blkOk_by (own := [("mode", 5), ("tree", 2)]) (N := ["parts", "functions", "tree", "bodies", "things", "mode", "book"]) (sc := defScope (top 70)) (by decide +kernel)) (fun _ _ _ _ _ => (pg_tup rfl (pgs_cons (pg_name (i := 5) scMade.nd rfl (by first | exact Or.inl rfl | exact Or.inr rfl)) (pgs_cons (pg_name (i := 2) scMade.nd rfl (by first | exact Or.inl rfl | exact Or.inr rfl)) pgs_nil)))) (fun _ _ _ _ _ => pts_nil) (fun _ _ _ _ _ => (pe_tup (pa_cons (pv 5) (pa_cons (pe_makeM mForm mkF hr (by omega) gForm (pa_cons (pv 2) pa_nil)) pa_nil))))) pa_nil)))
      (pss_cons (ps_set (i := 6) scMade.nd rfl (by first | exact Or.inl rfl | exact Or.inr rfl) (pe_makeM mBook mkB hr (by omega) gBook (pa_cons (pe_dget (hu_of hr) (pv 0) pe_str (fun _ _ => rfl)) (pa_cons (pe_dget (hu_of hr) (pv 0) pe_str (fun _ _ => rfl)) (pa_cons (pv 1) pa_nil)))))
      (pss_one (ps_ret (pe_makeK mkPl okPl (Room.mono hr (by omega)) (by rfl) gPlan kbPl pass0 (pa_cons (pv 6) (pa_cons (pe_dget (hu_of hr) (pv 0) pe_str (fun _ _ => rfl)) (pa_cons (pv 4) pa_nil))) (pk_cons (pe_dget (hu_of hr) (pv 0) pe_str (fun _ _ => rfl)) (pk_cons (pe_dget (hu_of hr) (pv 0) pe_str (fun _ _ => rfl)) (pk_cons (pe_dget (hu_of hr) (pv 0) pe_str (fun _ _ => rfl)) pk_nil))))))))), ?_⟩
    have fok := dok.book.fns
    have f3 : d.fns.length ≤ 3 := fok.len3
    obtain ⟨pa, kvs, fv, tv, fr, wr, av, rfl, hpa, k1, k2, k3, k4, k5, k6, k7, k8, i1, i2, i3, i4, i5⟩ := hp.ex
    obtain ⟨fa, fxs, rfl, hfa, hfx⟩ := im_tup i1
    have fxl : fxs.length = d.fns.length := by rw [hfx.length, List.length_map]
    repeat walk_at "st"
    refine r_pget (.inr "functions") rfl hpa k3 ?_
    refine ⟨fa, rfl, ⟨_, .of hfa⟩, fun D nD => ?_⟩
    refine lc_w (walk_tup (xs := fxs)) nD (fun i acc H' => Each (RowAt CF H') acc (d.fns.take i)) (fun i acc Ha Hb n z => z.imp fun _ _ y => y.isn n) (by omega) (fun H' s => .of (s.at hfa)) .nil (fun i x acc H1 H2 Kt Kf hi s1 p y kt _ => ?_) fun acc H3 s3 e3 al p => ?_
    · obtain ⟨rfl, ex⟩ := y
      obtain ⟨dd, hdd, ir⟩ := hfx.get' ex
      rw [List.getElem?_map] at hdd
      obtain ⟨r, hr', rfl⟩ := Option.map_eq_some_iff.mp hdd
      obtain ⟨rb, rxs, rfl, hrb, hrx⟩ := im_tup ir
      have rxl : rxs.length = r.length := by rw [hrx.length, List.length_map]
      have r3 := fok.row3 r (List.mem_of_getElem? hr')
      have nx : d.fns.take (i + 1) = d.fns.take i ++ [r] := by
        rw [List.take_succ, hr']
        rfl
      repeat walk_at "st"
      refine ⟨rfl, ?_⟩
      repeat walk_at "st"
      have hrb1 := s1.at hrb
      refine ⟨rb, rfl, ⟨_, .of hrb1⟩, fun D2 nD2 => ?_⟩
      refine lc_w (walk_tup (xs := rxs)) nD2 (fun j acc H' => Each (FormAt CF H') acc (r.take j)) (fun i acc Ha Hb n z => z.imp fun _ _ y => y.isn n) (by omega) (fun H' s => .of (s.at hrb1)) .nil (fun j x acc2 H4 H5 Kt2 Kf2 hj s4 p4 y kt2 _ => ?_) fun acc2 H6 s6 e6 al6 p6 => ?_
      · obtain ⟨rfl, ex⟩ := y
        obtain ⟨dd, hdd, it⟩ := hrx.get' ex
        rw [List.getElem?_map] at hdd
        obtain ⟨t, ht, rfl⟩ := Option.map_eq_some_iff.mp hdd
        obtain ⟨ob, oc⟩ := fok.body i r hr' t (List.mem_of_getElem? ht)
        have nx2 : r.take (j + 1) = r.take j ++ [t] := by
          rw [List.take_succ, ht]
          rfl
        have b3 := fok.base3
        have il : i < d.fns.length := by omega
        repeat walk_at "st"
        refine ⟨rfl, ?_⟩
        repeat walk_at "st"
        repeat walk_at "st"
        refine mk_form ((s1.trans s4).im it) (okB_wf (by omega) (by omega) ob) (by omega) fun xa H7 s7 f7 => ?_
        refine kt2 _ _ s7 ?_
        rw [nx2]
        exact (p4.imp fun _ _ y => y.isn s7.isn).app (.cons f7 .nil)
      · repeat walk_at "st"
        refine r_tupL (.of e6) fun p8 H8 np8 s8 e8 => ?_
        refine kt _ _ (s6.trans s8) ?_
        rw [nx]
        rw [rxl, List.take_length] at p6
        exact (p.imp fun _ _ y => y.isn (s6.trans s8).isn).app (.cons ⟨p8, _, rfl, e8, p6.imp fun _ _ y => y.isn s8.isn⟩ .nil)
    · rw [fxl, List.take_length] at p
      repeat walk_at "st"
      refine r_tupL (.of e3) fun p4 H4 np4 s4 e4 => ?_
      have s04 := s3.trans s4
      have eF : Each (RowAt CF H4) acc d.fns := p.imp fun _ _ y => y.isn s4.isn
      repeat walk_at "st"
      refine r_pget (.inr "things") rfl (s04.at hpa) k5 ?_
      obtain ⟨ta, txs, rfl, hta, htx⟩ := im_tup i2
      cases htx with
      | cons j1 j2 =>
      cases j2
      rename_i tp
      obtain ⟨tb, tbx, rfl, htb, htbx⟩ := im_tup j1
      cases htbx with
      | cons j3 j4 =>
      cases j3
      cases j4 with
      | cons j5 j6 =>
      cases j6
      rename_i tv
      have hta4 := s04.at hta
      refine ⟨ta, rfl, ⟨_, .of hta4⟩, fun D2 nD2 => ?_⟩
      refine lc_w (walk_tup (xs := [.ref tb])) nD2 (fun i acc H' => (i = 0 → acc = []) ∧ (i = 1 → ∃ b f, acc = [.ref b] ∧ H' b = some (.tup [.str d.mode, f]) ∧ FormAt CF H' f d.th)) (fun i acc Ha Hb n z => ⟨z.1, fun e => by
        obtain ⟨b, f, h1, h2, h3⟩ := z.2 e
        exact ⟨b, f, h1, n _ _ rfl h2, h3.isn n⟩⟩) (by show 1 ≤ 100000; decide) (fun H' s => .of (s.at hta4)) ⟨fun _ => rfl, fun z => absurd z (by decide)⟩ (fun i x acc2 H5 H6 Kt Kf hi s5 p5 y kt _ => ?_) fun acc2 H7 s7 e7 al7 p7 => ?_
      · obtain ⟨rfl, ex⟩ := y
        have i0 : i = 0 := by
          have : i < 1 := hi
          omega
        subst i0
        cases ex
        obtain rfl := p5.1 rfl
        repeat walk_at "st"
        refine r_gTup (.of ((s04.trans s5).at htb)) rfl ?_
        repeat walk_at "st"
        refine ⟨rfl, ?_⟩
        repeat walk_at "st"
        repeat walk_at "st"
        have b3 := fok.base3
        refine mk_form ((s04.trans s5).im j5) (okT_wf b3 f3 dok.cols2 dok.th) dok.cnt fun xa H7 s7 f7 => ?_
        refine r_newT (by show 2 ≤ sizeLine; decide) fun p8 H8 np8 s8 e8 => ?_
        exact kt _ _ (s7.trans s8) ⟨fun z => absurd z (by decide), fun _ => ⟨p8, .ref xa, rfl, e8, f7.isn s8.isn⟩⟩
      · obtain ⟨bb, bf, rfl, hbb, hbf⟩ := p7.2 rfl
        repeat walk_at "st"
        refine r_tupL (.of e7) fun p8 H8 np8 s8 e8 => ?_
        have s08 := (s04.trans s7).trans s8
        have s48 := s7.trans s8
        repeat walk_at "st"
        repeat walk_at "st"
        refine r_pget (.inr "base") rfl (s08.at hpa) k1 ?_
        repeat walk_at "st"
        refine r_pget (.inr "settings") rfl (s08.at hpa) k2 ?_
        repeat walk_at "st"
        refine mk_book (B := d.book) (s48.at e4) (eF.imp fun _ _ y => y.isn s48.isn) dok.book fun xb H9 s9 hb9 => ?_
        have s09 := s08.trans s9
        have thA : ThAt CF H9 p8 d.mode d.th := ⟨bb, bf, s9.at e8, s9.at (s8.at hbb), hbf.isn (s8.trans s9).isn⟩
        obtain ⟨_, frx, efr, hfr, ifr⟩ := im_tup i3
        cases efr
        obtain ⟨_, wrx, ewr, hwr, iwr⟩ := im_tup i4
        cases ewr
        obtain ⟨_, avx, eav, hav, iav⟩ := im_tup i5
        cases eav
        obtain rfl := ints_of ifr
        obtain rfl := ints_of iwr
        obtain rfl := ints_of iav
        repeat walk_at "st"
        refine r_mkK ?_
        repeat walk_at "st"
        refine r_pget (.inr "columns") rfl (s09.at hpa) k4 ?_
        repeat walk_at "st"
        refine r_pget (.inr "free") rfl (s09.at hpa) k6 ?_
        repeat walk_at "st"
        refine r_pget (.inr "writers") rfl (s09.at hpa) k7 ?_
        repeat walk_at "st"
        refine r_pget (.inr "askers") rfl (s09.at hpa) k8 ?_
        repeat walk_at "st"
        refine ⟨rfl, rfl, ?_⟩
        exact mk_plan hb9 dok.book dok.cols1 dok.cols2 thA dok.mode dok.th dok.cnt (s09.at hfr) dok.free (s09.at hwr) dok.ws dok.ws1 (s09.at hav) dok.as dok.as1 fun x HA sA hA => q _ HA (s09.trans sA) hA
end
end K5
end

section
set_option maxHeartbeats 4000000
/-! LJ: dict(d) of a dict whose keys are pairs. -/
namespace K5
open PySem PySem.Spec L2
open PyProof.Rows hiding St
/-- no two keys hash alike -/
def Far (P : Program) (w : World) (kvs : List (List Key × V)) : Prop := (kvs.map fun kv => (tupleKind (mixKind P w)).hash kv.1).Nodup
section
variable {prog : Program} {w : World} {K : Type} [DecidableEq K] {knd : HeapKind prog w K} {A : Around} {E : Value → Shared → Prop} {s : Shared}
theorem call_dictH {o : Addr} {more : List (K × Addr × Value)} {Q : Value → Shared → Prop} (hu : ∀ B : Around, B.units ≤ A.units + 2 → knd.room B) (hoS : (o == sysModules) = false) (ho : s.heap.DictOfH knd o more) (hty : ∀ x ∈ more, s.TypeIs (.ref x.2.1) "tuple") (hap : (more.map fun x => knd.hash x.1).Nodup)
    (hsz : more.length ≤ sizeLine) (hst : ∀ h', (∀ b o, s.heap.get? b = some o → h'.get? b = some o) → ∀ x ∈ more, knd.is h' x.1 x.2.1) (h : ∀ h', h'.DictOfH knd s.heap.objs.size more → Heap.SameBut s.heap.objs.size (s.heap.push { cls := .type "dict", data := .dict #[] }) h' → Q (.ref s.heap.objs.size) { s with heap := h' }) :
    wpAny (model prog w) A (call (.type "dict") [.ref o]) Q E s := by
  refine callType_codes (Q₁ := fun obj s₁ => obj = .ref s.heap.objs.size ∧ s₁ = { s with heap := s.heap.push { cls := .type "dict", data := .dict #[] } }) F.kt_called_dict (F.kt_typeCall_dict_1 _) F.entry_dict_init (kt_code_dict_new _ ⟨rfl, rfl⟩) ?_
  rintro obj s₁ ⟨rfl, rfl⟩
  have hnew : (s.heap.push { cls := .type "dict", data := .dict #[] }).DictOfH knd s.heap.objs.size [] := Heap.DictOfH.new s.heap
  have ho' : (s.heap.push { cls := .type "dict", data := .dict #[] }).DictOfH knd o more := Heap.DictOfH.at' ho (fun _ e => Heap.get?_push_of_some _ e) (hst _ fun _ _ e => Heap.get?_push_of_some _ e)
  have hdo : s.heap.objs.size ≠ o := by
    obtain ⟨_, _, _, hg, _⟩ := ho
    exact fun e => absurd (Heap.lt_size hg) (by rw [e]; exact Nat.lt_irrefl _)
  refine ⟨hnew.typeIs, F.args_dict_init_2 _ _, ?_⟩
  unfold Builtin.«dict.__init__»
  refine wpAny_bind ?_
  unfold Builtin.Dict.selfAndRest
  refine wpAny_bind (wpAny_notOrdered_dict hnew.typeIs ?_)
  show wpAny _ _ (pure (s.heap.objs.size, [Value.ref o])) _ _ _
  refine wpAny_pure ?_
  show wpAny _ _ (Builtin.Dict.updateFrom "dict.__init__" s.heap.objs.size (.ref o) [] .none) _ _ _
  refine updateFrom_dictH (A := A.in1) (knd := knd) .none (hu _ ?_) hdo hoS hnew ho' (.inr ⟨fun x hx => ?_, hap⟩) (by simpa using hsz) fun h' hd' _ hs' => ⟨rfl, h h' ?_ hs'⟩
  · show A.units + 1 + 1 ≤ A.units + 2
    omega
  · obtain ⟨o1, ho1, hc1⟩ := hty x hx
    exact ⟨o1, Heap.get?_push_of_some _ ho1, hc1⟩
  · rwa [storedAllH_nil_of_nodup more ho.nodup] at hd'
end
def rDictT (P : Program) (w : World) : List V → Hp → VK → Prop := fun xs H Q => ∃ a kvs, xs = [.ref a] ∧ H a = some (.dT kvs) ∧ Far P w kvs ∧ ∀ p, H p = none → Q (.ref p) (upd H p (.dT kvs))
theorem call_dictT {X : Cx} (hu : X.A.units + 2 < cLine) : CallR X (.type "dict") (rDictT X.prog X.w) := by
  intro pins s σ H xs us Q I r h
  obtain ⟨a, kvs, rfl, ha, far, q⟩ := h
  obtain rfl := Vals.ref1 r
  obtain ⟨z, hd, ys, rel, dd⟩ := dt_of I.hok ha
  have all : ∀ {l : List (List Key × V)} {m : List (List Key × Addr × Value)}, KT H l m → l.length = m.length ∧ l.map (·.1) = m.map (·.1) ∧ ∀ x ∈ m, H x.2.1 = some (.tup (x.1.map kV)) := by
    intro l m k
    induction k with
    | nil => exact ⟨rfl, rfl, by simp⟩
    | @cons p q ps qs hq t ih =>
      refine ⟨by simp [ih.1], by simp [ih.2.1, hq.1], fun x hx => ?_⟩
      rcases List.mem_cons.mp hx with e | hx
      · rw [e, ← hq.1]
        exact hq.2.1
      · exact ih.2.2 x hx
  obtain ⟨l1, l2, l3⟩ := all rel
  have key : ∀ h' : Heap, (∀ b o, s.heap.get? b = some o → h'.get? b = some o) → ∀ x ∈ ys, (tupleKind (mixKind X.prog X.w)).is h' x.1 x.2.1 := fun h' hk x hx => by
    obtain ⟨o, its, n, h1, h2, h3, h4⟩ := key_of I.hok (l3 x hx)
    exact ⟨o, its, n, hk _ _ h1, h2, h3, h4⟩
  refine call_dictH (knd := tupleKind (mixKind X.prog X.w)) (fun B hB => show B.units < cLine by omega) hd dd (fun x hx => ?_) ?_ (by omega) key fun h' dd' hs => ?_
  · obtain ⟨o, its, n, h1, h2, _⟩ := key_of I.hok (l3 x hx)
    exact ⟨o, h1, h2⟩
  · have e : ys.map (fun x => (tupleKind (mixKind X.prog X.w)).hash x.1) = kvs.map fun kv => (tupleKind (mixKind X.prog X.w)).hash kv.1 := by
      have e1 : ys.map (fun x => (tupleKind (mixKind X.prog X.w)).hash x.1) = (ys.map (·.1)).map (tupleKind (mixKind X.prog X.w)).hash := by rw [List.map_map]; rfl
      have e2 : kvs.map (fun x => (tupleKind (mixKind X.prog X.w)).hash x.1) = (kvs.map (·.1)).map (tupleKind (mixKind X.prog X.w)).hash := by rw [List.map_map]; rfl
      rw [e1, e2, l2]
    rw [e]
    exact far
  · have nH : H s.heap.objs.size = none := I.hok.fresh (Nat.le_refl _)
    have keep : ∀ b o, s.heap.get? b = some o → h'.get? b = some o := fun b o e => (hs.2 b (Nat.ne_of_lt (Heap.lt_size e))).trans (Heap.get?_push_of_some _ e)
    have big : (s.heap.objs.size == sysModules) = false := beq_eq_false_iff_ne.mpr (Ne.symm (Nat.ne_of_lt I.big))
    obtain ⟨o, es, ep, h1, h2, h3, h4, _, h6⟩ := id dd'
    exact ⟨.ref s.heap.objs.size, upd H s.heap.objs.size (.dT kvs), I.laid (t' := s.toks) keep (Nat.le_refl _) ⟨z, big, ys, rel.keeps fun b xs e => by rw [upd_ne (ne_of_none e nH)]; exact e, o, es, ep, h1, h2, h3, h4, h6⟩, rfl, q _ nH⟩
/-- the pairs of small numbers hash apart -/
def hP (k g : Nat) : Int := reduceHash (Builtin.Tuple.tupleHashOf [hashInt k, hashInt g])
theorem hP_fin : ∀ k g k' g' : Fin 3, hP k.val g.val = hP k'.val g'.val → k = k' ∧ g = g' := by decide +kernel
theorem hP_inj {k g k' g' : Nat} (h1 : k < 3) (h2 : g < 3) (h3 : k' < 3) (h4 : g' < 3) (e : hP k g = hP k' g') : k = k' ∧ g = g' := by
  obtain ⟨a, b⟩ := hP_fin ⟨k, h1⟩ ⟨g, h2⟩ ⟨k', h3⟩ ⟨g', h4⟩ e
  exact ⟨congrArg Fin.val a, congrArg Fin.val b⟩
theorem hash_pair {P : Program} {w : World} (k g : Nat) : (tupleKind (mixKind P w)).hash [.inl (k : Int), .inl (g : Int)] = hP k g := rfl
end K5
end

section
set_option maxHeartbeats 4000000
/-! LK: the law's own account of a call. -/
namespace K5
open PySem PySem.Spec L2
open PyProof.Rows hiding St
local macro_rules | `(tactic| walk_at "lf") => `(tactic| first
  | assumption
  | (refine Same.im (by assumption) ?_; walk_at "lf")
  | (refine Same.ims (by assumption) ?_; walk_at "lf")
  | (refine Same.at (by assumption) ?_; walk_at "lf")
  | (refine Same.sqT (by assumption) ?_; walk_at "lf")
  | (refine Same.seq (by assumption) ?_; walk_at "lf")
  | exact SqL.of (by walk_at "lf")
  | exact SqT.of (by walk_at "lf"))
local macro_rules | `(tactic| walk_at "st") => `(tactic| first
  | ((with_reducible refine r_var (v := ?vv) ?rv ?_); (case rv => exact rfl))
  | with_reducible first
    | refine r_seq ?_
    | refine r_asg ?_
    | refine r_gName ?_
    | refine r_c ?_
    | refine r_op ?_
    | refine r_I0 ?_
    | refine r_exbl ?_
    | refine r_cb ?_
    | refine r_nil ?_
    | refine r_cons ?_
    | refine r_test ?_
    | refine r_tB ?_
    | refine r_and ?_
    | refine r_or ?_
    | refine r_not ?_
    | refine r_if ?_
    | refine r_ret ?_
    | refine r_next ?_
    | refine r_tup ?_
    | refine r_lst ?_
    | refine r_int ?_
    | refine r_exint ?_
    | refine r_sl ?_
    | refine r_part ?_
    | refine r_nopart ?_
    | refine r_par ?_
    | refine r_ex2 ?_
    | refine r_call ?_
    | refine r_un ?_
    | refine r_U ?_
    | refine r_andV ?_
    | refine r_orV ?_
    | refine r_notV ?_
    | refine r_chain ?_
    | refine r_isN ?_
    | refine r_notN ?_
    | refine r_drop ?_
    | refine r_I (by decide) ?_
    | refine r_EqI ?_
    | refine r_NeI ?_
    | refine r_EqS ?_
    | refine r_NeS ?_
    | refine r_gSub ?_
    | refine r_gCons ?_
    | refine r_gNil ?_
    | refine r_dget ?_
    | refine r_pcons ?_
    | refine r_pnil ?_
    | refine iteT ?_
    | refine iteF ?_
    | refine iteNF ?_
    | refine iteNT ?_
    | refine r_prop ?_
    | refine r_dget2 ?_
    | refine r_din ?_
    | refine r_dput ?_
    | refine r_mk ?_
    | refine r_propG ?_
    | refine r_mtd ?_
    | refine r_bm ?_
    | refine r_si ?_
    | refine r_for ?_
    | refine r_lc ?_
    | refine r_iT ?_
    | refine r_iL ?_
    | refine r_enT ?_
    | refine r_zip ?_
    | refine r_zs ?_
    | refine r_iR1 ?_
    | refine r_yes ?_
    | refine r_fld ?_
    | refine r_star1 ?_
    | refine r_ctE ?_
    | refine r_div (by decide) (by decide) ?_
    | refine r_mulL (by decide) (by decide) ?_
    | refine r_mulR (by decide) (by decide) ?_)
local macro_rules | `(tactic| walk_at "tq") => `(tactic| ((repeat walk_at "st"); first
  | assumption
  | (refine q_decT (by omega) (by assumption))
  | (refine q_decF (by omega) (by assumption))
  | (refine q_nT (by omega) (by assumption))
  | (refine q_nF (by omega) (by assumption))
  | (refine ite_dec (fun _ => ?_) (fun _ => ?_) <;> first | (exfalso; omega) | walk_at "tq")
  | (refine ite_ndec (fun _ => ?_) (fun _ => ?_) <;> first | (exfalso; omega) | walk_at "tq")))
theorem u2 {k : Nat} {A : Around} (r : Room k A) : A.units + 2 < cLine := by have := r.un; omega
/-! ### a dict of pairs as a memory -/
def pk (k : Nat) (g : Nat) : List Key := [.inl (k : Int), .inl (g : Int)]
structure DMk (nf base : Nat) (kvs : List (List Key × V)) (M : Mem) : Prop where
  pairs : ∀ kv ∈ kvs, ∃ k g : Nat, k < 3 ∧ g < 3 ∧ kv.1 = pk k g
  nd : (kvs.map (·.1)).Nodup
  val : ∀ k g : Nat, k < nf → g < base → valV kvs (pk k g) = (mget M k g).map V.int
def DM (nf base : Nat) (H : Hp) (v : V) (M : Mem) : Prop := ∃ a kvs, v = .ref a ∧ H a = some (.dT kvs) ∧ DMk nf base kvs M
theorem DM.isn {nf base : Nat} {H H' : Hp} {v : V} {M : Mem} (s : Isn H H') (h : DM nf base H v M) : DM nf base H' v M := by
  obtain ⟨a, kvs, e, h1, h2⟩ := h
  exact ⟨a, kvs, e, s _ _ rfl h1, h2⟩
theorem nod_le : ∀ (n : Nat) (l : List Nat), l.Nodup → (∀ x ∈ l, x < n) → l.length ≤ n
  | 0, l, _, h => by
    cases l with
    | nil => exact Nat.le_refl _
    | cons x r => exact absurd (h x List.mem_cons_self) (Nat.not_lt_zero x)
  | n + 1, l, nd, h => by
    by_cases m : n ∈ l
    · have e := List.length_erase_of_mem m
      have := nod_le n (l.erase n) (nd.erase n) fun x hx => by
        have hm := (nd.mem_erase_iff).mp hx
        have := h x hm.2
        have := hm.1
        omega
      have := List.length_pos_of_mem m
      omega
    · have := nod_le n l nd fun x hx => by
        have := h x hx
        have : x ≠ n := fun z => m (z ▸ hx)
        omega
      omega
def pcode : List Key → Nat
  | [.inl a, .inl b] => a.toNat * 3 + b.toNat
  | _ => 0
theorem DMk.len {nf base : Nat} {kvs : List (List Key × V)} {M : Mem} (h : DMk nf base kvs M) : kvs.length ≤ 9 := by
  have e := nod_le 9 ((kvs.map (·.1)).map pcode) (by
    rw [List.Nodup, List.pairwise_map]
    refine List.Pairwise.imp_of_mem (fun {x y} hx hy ne z => ne ?_) h.nd
    obtain ⟨p, hp, rfl⟩ := List.mem_map.mp hx
    obtain ⟨q, hq, rfl⟩ := List.mem_map.mp hy
    obtain ⟨k, g, h1, h2, e1⟩ := h.pairs p hp
    obtain ⟨k', g', h3, h4, e2⟩ := h.pairs q hq
    rw [e1, e2] at z ⊢
    simp only [pk, pcode, Int.toNat_natCast] at z
    have : k = k' := by omega
    have : g = g' := by omega
    subst k'
    subst g'
    rfl) (fun x hx => by
    obtain ⟨y, hy, rfl⟩ := List.mem_map.mp hx
    obtain ⟨p, hp, rfl⟩ := List.mem_map.mp hy
    obtain ⟨k, g, h1, h2, e1⟩ := h.pairs p hp
    rw [e1]
    simp only [pk, pcode, Int.toNat_natCast]
    omega)
  simpa using e
theorem DMk.far {P : Program} {w : World} {nf base : Nat} {kvs : List (List Key × V)} {M : Mem} (h : DMk nf base kvs M) : Far P w kvs := by
  unfold Far
  have e : kvs.map (fun kv => (tupleKind (mixKind P w)).hash kv.1) = (kvs.map (·.1)).map (tupleKind (mixKind P w)).hash := by rw [List.map_map]; rfl
  rw [e, List.Nodup, List.pairwise_map]
  refine List.Pairwise.imp_of_mem (fun {x y} hx hy ne z => ne ?_) h.nd
  obtain ⟨p, hp, rfl⟩ := List.mem_map.mp hx
  obtain ⟨q, hq, rfl⟩ := List.mem_map.mp hy
  obtain ⟨k, g, h1, h2, e1⟩ := h.pairs p hp
  obtain ⟨k', g', h3, h4, e2⟩ := h.pairs q hq
  rw [e1, e2] at z ⊢
  unfold pk at z ⊢
  rw [hash_pair, hash_pair] at z
  obtain ⟨a, b⟩ := hP_inj h1 h2 h3 h4 z
  rw [a, b]
theorem DMk.nil {nf base : Nat} : DMk nf base [] (memE nf base) := ⟨by simp, by simp, fun k g hk hg => by
  unfold mget memE
  rw [valV_nil, List.getD_eq_getElem?_getD, List.getD_eq_getElem?_getD, List.getElem?_replicate, if_pos hk, Option.getD_some, List.getElem?_replicate, if_pos (by omega)]
  rfl⟩
theorem mget_mset {nf base k k' : Nat} {g g' : Int} {M : Mem} {x : Int} (ok : MemOk nf base M) (hk : k < nf) (h0 : 0 ≤ g) (h1 : g < base) (h0' : 0 ≤ g') : mget (mset M k g x) k' g' = if k = k' ∧ g = g' then some x else mget M k' g' := by
  obtain ⟨r, e1, e2, e3⟩ := ok.rowAt hk
  have hkl : k < M.length := by rw [ok.len]; exact hk
  unfold mget mset
  rw [e3]
  by_cases e : k = k'
  · subst e
    have z : (M.set k (r.set g.toNat (some x))).getD k [] = r.set g.toNat (some x) := by
      rw [List.getD_eq_getElem?_getD, List.getElem?_set_self hkl]
      rfl
    rw [z, e3]
    by_cases eg : g = g'
    · subst eg
      rw [if_pos ⟨rfl, rfl⟩, List.getD_eq_getElem?_getD, List.getElem?_set_self (by omega)]
      rfl
    · rw [if_neg (fun q => eg q.2), List.getD_eq_getElem?_getD, List.getElem?_set_ne (by omega), ← List.getD_eq_getElem?_getD]
  · rw [if_neg (fun q => e q.1)]
    have z : (M.set k (r.set g.toNat (some x))).getD k' [] = M.getD k' [] := by
      rw [List.getD_eq_getElem?_getD, List.getElem?_set_ne e, ← List.getD_eq_getElem?_getD]
    rw [z]
theorem keys_putK {κ : Type} [DecidableEq κ] (kvs : List (κ × V)) (k : κ) (v : V) : (putK kvs k v).map (·.1) = if k ∈ kvs.map (·.1) then kvs.map (·.1) else kvs.map (·.1) ++ [k] := by
  have e : (kvs.any fun kv => decide (kv.1 = k)) = decide (k ∈ kvs.map (·.1)) := by
    rw [Bool.eq_iff_iff, List.any_eq_true, decide_eq_true_iff, List.mem_map]
    exact ⟨fun ⟨x, hx, z⟩ => ⟨x, hx, of_decide_eq_true z⟩, fun ⟨x, hx, z⟩ => ⟨x, hx, decide_eq_true z⟩⟩
  unfold putK
  rw [e]
  by_cases m : k ∈ kvs.map (·.1)
  · rw [if_pos (decide_eq_true m), if_pos m, List.map_map]
    refine List.map_congr_left fun x _ => ?_
    show (if x.1 = k then (x.1, v) else x).1 = x.1
    split <;> rfl
  · rw [if_neg (by rw [decide_eq_false m]; exact Bool.false_ne_true), if_neg m, List.map_append]
    rfl
theorem DMk.put {nf base k g : Nat} {kvs : List (List Key × V)} {M : Mem} {x : Int} (h : DMk nf base kvs M) (ok : MemOk nf base M) (hn : nf ≤ 3) (hb : base ≤ 3) (hk : k < nf) (hg : g < base) : DMk nf base (putK kvs (pk k g) (.int x)) (mset M k g x) := by
  refine ⟨fun kv hm => ?_, ?_, fun k' g' hk' hg' => ?_⟩
  · have m : kv.1 ∈ (putK kvs (pk k g) (.int x)).map (·.1) := List.mem_map.mpr ⟨kv, hm, rfl⟩
    rw [keys_putK] at m
    have z : kv.1 ∈ kvs.map (·.1) ∨ kv.1 = pk k g := by
      split at m
      · exact .inl m
      · exact (List.mem_append.mp m).elim .inl fun z => .inr (List.mem_singleton.mp z)
    rcases z with z | z
    · obtain ⟨q, hq, e⟩ := List.mem_map.mp z
      rw [← e]
      exact h.pairs q hq
    · exact ⟨k, g, by omega, by omega, z⟩
  · rw [keys_putK]
    split
    · exact h.nd
    · rename_i nm
      rw [List.nodup_append]
      exact ⟨h.nd, by simp, fun a ha b hb' => by
        rw [List.mem_singleton.mp hb']
        intro z
        exact nm (z ▸ ha)⟩
  · rw [valV_put, mget_mset ok hk (by omega) (by omega) (by omega), h.val k' g' hk' hg']
    by_cases e : k = k' ∧ g = g'
    · rw [if_pos (by rw [e.1, e.2]), if_pos ⟨e.1, by omega⟩]
      rfl
    · rw [if_neg (fun z => e (by
        simp only [pk, List.cons.injEq, Sum.inl.injEq, and_true] at z
        omega)), if_neg (fun z => e ⟨z.1, by omega⟩)]
section
variable {σ : L2.St} {H : Hp} {Q : VK}
theorem r_din {ty td : TE} (q : ty σ H fun y H1 => td σ H1 fun x H2 => ∃ a o, x = .ref a ∧ DGet H2 a y o ∧ Q (.bl o.isSome) H2) : tDIn ty td σ H Q := q
theorem r_dinT {a b : Addr} {kvs : List (List Key × V)} {G : Option V → Prop} (k : List Key) (h : H a = some (.dT kvs)) (hb : H b = some (.tup (k.map kV))) (q : G (valV kvs k)) : ∃ a' o, V.ref a = .ref a' ∧ DGet H a' (.ref b) o ∧ G o := ⟨a, _, rfl, DGet.t h hb, q⟩
theorem r_dgT {a b : Addr} {kvs : List (List Key × V)} {v : V} {G : V → Prop} (k : List Key) (h : H a = some (.dT kvs)) (hb : H b = some (.tup (k.map kV))) (e : valV kvs k = some v) (q : G v) : ∃ a' v', V.ref a = .ref a' ∧ DGet H a' (.ref b) (some v') ∧ G v' := ⟨a, v, rfl, by rw [← e]; exact DGet.t h hb, q⟩
theorem r_putT {C : Hp → Prop} {pd b : Addr} {kvs : List (List Key × V)} {v : V} (k : List Key) (e : H pd = some (.dT kvs)) (hb : H b = some (.tup (k.map kV))) (hl : kvs.length ≤ 1000) (q : ∀ H', (∀ b o, b ≠ pd → H b = some o → H' b = some o) → H' pd = some (.dT (putK kvs k v)) → C H') :
    ∃ a' H', V.ref pd = .ref a' ∧ DPut H a' (.ref b) v H' ∧ C H' := by
  have z : (1000 : Nat) < sizeLine := by decide
  exact ⟨pd, _, rfl, DPut.t e hb (by omega), q _ (fun b o n h => by rw [upd_ne n]; exact h) upd_same⟩
theorem r_dictT {P : Program} {w : World} {a : Addr} {kvs : List (List Key × V)} (h : H a = some (.dT kvs)) (far : Far P w kvs) (q : ∀ p H', H p = none → Same H H' → H' p = some (.dT kvs) → Q (.ref p) H') : rDictT P w [.ref a] H Q := ⟨a, kvs, rfl, h, far, fun p hp => q p _ hp (same_upd hp) upd_same⟩
end
end K5
end

section
set_option maxHeartbeats 4000000
/-! LL: the law's calls. -/
namespace K5
open PySem PySem.Spec L2
open PyProof.Rows hiding St
local macro_rules | `(tactic| walk_at "lf") => `(tactic| first
  | assumption
  | (refine Same.im (by assumption) ?_; walk_at "lf")
  | (refine Same.ims (by assumption) ?_; walk_at "lf")
  | (refine Same.at (by assumption) ?_; walk_at "lf")
  | (refine Same.sqT (by assumption) ?_; walk_at "lf")
  | (refine Same.seq (by assumption) ?_; walk_at "lf")
  | exact SqL.of (by walk_at "lf")
  | exact SqT.of (by walk_at "lf"))
local macro_rules | `(tactic| walk_at "st") => `(tactic| first
  | ((with_reducible refine r_var (v := ?vv) ?rv ?_); (case rv => exact rfl))
  | with_reducible first
    | refine r_seq ?_
    | refine r_asg ?_
    | refine r_gName ?_
    | refine r_c ?_
    | refine r_op ?_
    | refine r_I0 ?_
    | refine r_exbl ?_
    | refine r_cb ?_
    | refine r_nil ?_
    | refine r_cons ?_
    | refine r_test ?_
    | refine r_tB ?_
    | refine r_and ?_
    | refine r_or ?_
    | refine r_not ?_
    | refine r_if ?_
    | refine r_ret ?_
    | refine r_next ?_
    | refine r_tup ?_
    | refine r_lst ?_
    | refine r_int ?_
    | refine r_exint ?_
    | refine r_sl ?_
    | refine r_part ?_
    | refine r_nopart ?_
    | refine r_par ?_
    | refine r_ex2 ?_
    | refine r_call ?_
    | refine r_un ?_
    | refine r_U ?_
    | refine r_andV ?_
    | refine r_orV ?_
    | refine r_notV ?_
    | refine r_chain ?_
    | refine r_isN ?_
    | refine r_notN ?_
    | refine r_drop ?_
    | refine r_I (by decide) ?_
    | refine r_EqI ?_
    | refine r_NeI ?_
    | refine r_EqS ?_
    | refine r_NeS ?_
    | refine r_gSub ?_
    | refine r_gCons ?_
    | refine r_gNil ?_
    | refine r_dget ?_
    | refine r_pcons ?_
    | refine r_pnil ?_
    | refine iteT ?_
    | refine iteF ?_
    | refine iteNF ?_
    | refine iteNT ?_
    | refine r_prop ?_
    | refine r_dget2 ?_
    | refine r_din ?_
    | refine r_dput ?_
    | refine r_mk ?_
    | refine r_propG ?_
    | refine r_mtd ?_
    | refine r_bm ?_
    | refine r_si ?_
    | refine r_for ?_
    | refine r_lc ?_
    | refine r_iT ?_
    | refine r_iL ?_
    | refine r_enT ?_
    | refine r_zip ?_
    | refine r_zs ?_
    | refine r_iR1 ?_
    | refine r_yes ?_
    | refine r_fld ?_
    | refine r_star1 ?_
    | refine r_ctE ?_
    | refine r_div (by decide) (by decide) ?_
    | refine r_mulL (by decide) (by decide) ?_
    | refine r_mulR (by decide) (by decide) ?_)
local macro_rules | `(tactic| walk_at "tq") => `(tactic| ((repeat walk_at "st"); first
  | assumption
  | (refine q_decT (by omega) (by assumption))
  | (refine q_decF (by omega) (by assumption))
  | (refine q_nT (by omega) (by assumption))
  | (refine q_nF (by omega) (by assumption))
  | (refine ite_dec (fun _ => ?_) (fun _ => ?_) <;> first | (exfalso; omega) | walk_at "tq")
  | (refine ite_ndec (fun _ => ?_) (fun _ => ?_) <;> first | (exfalso; omega) | walk_at "tq")))
def spLC (n : Nat) : Sp := fun vs H Q _ => ∃ (pv wv dv : V) (ca : Addr) (d : PD) (wd : List Nat) (M : Mem) (st g : Int) (k : Nat), vs = [pv, wv, .int st, .ref ca, dv] ∧ PartsAt H pv d ∧ PDOk d ∧ WdOk d.fns wd ∧ Im H wv (encW wd) ∧ 0 ≤ st ∧ st < d.base ∧ H ca = some (.tup [.int k, .int g]) ∧
  k < n ∧ k < d.fns.length ∧ 0 ≤ g ∧ g < d.base ∧ DM d.fns.length d.base H dv M ∧ MemOk d.fns.length d.base M ∧
  ∀ p dv' H', Same H H' → H' p = some (.tup [.int (evC d.fns d.base wd st n k g M).1, dv']) → DM d.fns.length d.base H' dv' (evC d.fns d.base wd st n k g M).2 → Q (.ref p) H'
def spLG (n e : Nat) : Sp := fun vs H Q _ => ∃ (pv wv tv dv : V) (ha : Addr) (d : PD) (wd : List Nat) (M : Mem) (t : Tr) (st g : Int) (k : Nat), vs = [pv, wv, .int st, tv, .ref ha] ∧ PartsAt H pv d ∧ PDOk d ∧ WdOk d.fns wd ∧ Im H wv (encW wd) ∧ 0 ≤ st ∧ st < d.base ∧ H ha = some (.tup [.int g, dv]) ∧
  k ≤ n ∧ k ≤ d.fns.length ∧ 0 ≤ g ∧ g < d.base ∧ Im H tv (enc t) ∧ okB d.base k t ∧ dep t < e ∧ DM d.fns.length d.base H dv M ∧ MemOk d.fns.length d.base M ∧
  ∀ p dv' H', Same H H' → H' p = some (.tup [.int (evT (evC d.fns d.base wd st n) d.base st g t M).1, dv']) → DM d.fns.length d.base H' dv' (evT (evC d.fns d.base wd st n) d.base st g t M).2 → Q (.ref p) H'
theorem scLcalls : FnScope ["parts", "wording", "setting", "call", "memory", "k", "given", "number", "late"] ["parts", "wording", "setting", "call", "memory"] (defScope (top 72)) := ⟨rfl, rfl, rfl, by decide +kernel, rfl, by decide +kernel, by decide +kernel⟩
theorem scLgone : FnScope ["parts", "wording", "setting", "tree", "here", "word", "given", "memory", "number", "one", "other"] ["parts", "wording", "setting", "tree", "here"] (defScope (top 73)) := ⟨rfl, rfl, rfl, by decide +kernel, rfl, by decide +kernel, by decide +kernel⟩
section
variable {P : Program} {w : World} {K : PySem.W.Frag} {mg : Str → Option Value} {base : Heap}
theorem PartsAt.fns {H : Hp} {pv : V} {d : PD} (h : PartsAt H pv d) : ∃ a kvs fa xs, pv = .ref a ∧ H a = some (.dK kvs) ∧ valV kvs (.inr "functions") = some (.ref fa) ∧ H fa = some (.tup xs) ∧ ImAll H xs (d.fns.map encB) ∧ valV kvs (.inr "base") = some (.int d.base) := by
  obtain ⟨pa, kvs, fv, tv, fr, wr, av, rfl, hpa, k1, k2, k3, k4, k5, k6, k7, k8, i1, i2, i3, i4, i5⟩ := h.ex
  obtain ⟨fa, fxs, rfl, hfa, hfx⟩ := im_tup i1
  exact ⟨pa, kvs, fa, fxs, rfl, hpa, k3, hfa, hfx, k1⟩
theorem lc_step {n l : Nat} (D : Df K mg "_law_calls" (top 72)) (B : Bf mg) (hl2 : 2 ≤ l) (cLG : Cal P w K mg base "_law_gone" l ["parts", "wording", "setting", "tree", "here"] (spLG n 6)) : Cal P w K mg base "_law_calls" (l + 1) ["parts", "wording", "setting", "call", "memory"] (spLC (n + 1)) := by
  refine D.cal (N := ["parts", "wording", "setting", "call", "memory", "k", "given", "number", "late"]) (ps := ["parts", "wording", "setting", "call", "memory"]) scLcalls (fun _ _ _ _ _ _ us hl => match us, hl with | [_, _, _, _, _], _ => rfl) (fun vs H Q E h => ?_) fun f cdv A outer s H vs Q E hr h => ?_
  · obtain ⟨_, _, _, _, _, _, _, _, _, _, rfl, _⟩ := h
    rfl
  · obtain ⟨pv0, wv, dv, ca, d, wd, M, st, g, k, rfl, hp, dok, wok, hw, st0, st1, hca, hkn, hk, g0, g1, dm, mok, q⟩ := h
    refine ⟨_, (pss_cons (ps_asg (pv 3) (pg_tup rfl (pgs_cons (pg_name (i := 5) scLcalls.nd rfl (by first | exact Or.inl rfl | exact Or.inr rfl)) (pgs_cons (pg_name (i := 6) scLcalls.nd rfl (by first | exact Or.inl rfl | exact Or.inr rfl)) pgs_nil))))
      (pss_cons (ps_if (pt_cmp (pc_din (hu_of hr) (pe_tup (pa_cons (pv 5) (pa_cons (pv 6) pa_nil))) (pv 4)))
        (pss_one (ps_ret (pe_tup (pa_cons (pe_dget (hu_of hr) (pv 4) (pe_tup (pa_cons (pv 5) (pa_cons (pv 6) pa_nil))) (fun _ _ => rfl)) (pa_cons (pv 4) pa_nil)))))
        pss_nil)
      (pss_cons (ps_asg (pe_cal cLG hr (by omega) (pa_cons (pv 0) (pa_cons (pv 1) (pa_cons (pv 2) (pa_cons (pe_ix ix_tup (pe_ix ix_tup (pe_dget (hu_of hr) (pv 0) pe_str (fun _ _ => rfl)) (pv 5) (fun _ _ => rfl)) (pe_ix ix_tup (pv 1) (pv 5) (fun _ _ => rfl)) (fun _ _ => rfl)) (pa_cons (pe_tup (pa_cons (pv 6) (pa_cons (pv 4) pa_nil))) pa_nil)))))) (pg_tup rfl (pgs_cons (pg_name (i := 7) scLcalls.nd rfl (by first | exact Or.inl rfl | exact Or.inr rfl)) (pgs_cons (pg_name (i := 8) scLcalls.nd rfl (by first | exact Or.inl rfl | exact Or.inr rfl)) pgs_nil))))
      (pss_cons (ps_set (i := 8) scLcalls.nd rfl (by first | exact Or.inl rfl | exact Or.inr rfl) (pe_callTy (call_dictT (u2 hr)) (by rfl) (B _ (by decide)) b_dict (pa_cons (pv 8) pa_nil)))
      (pss_cons (ps_dput (hu_of hr) (pv 8) (pe_tup (pa_cons (pv 5) (pa_cons (pv 6) pa_nil))) (pv 7) rfl)
      (pss_one (ps_ret (pe_tup (pa_cons (pv 7) (pa_cons (pv 8) pa_nil)))))))))), ?_⟩
    have fok : FnsOk d.fns d.base := dok.book.fns
    have n3 : d.fns.length ≤ 3 := fok.len3
    have b3 : d.base ≤ 3 := fok.base3
    obtain ⟨pa, kvs, fa, fxs, rfl, hpa, kf, hfa, hfx, kb⟩ := hp.fns
    obtain ⟨ma, mk, rfl, hma, dmk⟩ := dm
    obtain ⟨gn, rfl⟩ : ∃ gn : Nat, g = gn := ⟨g.toNat, (Int.toNat_of_nonneg g0).symm⟩
    have hv := dmk.val k gn hk (by omega)
    repeat walk_at "st"
    refine r_gTup (.of hca) rfl ?_
    repeat walk_at "st"
    unfold evC at q
    cases eg : mget M k gn with
    | some x =>
      rw [eg] at q hv
      dsimp only at q
      refine t_ifYS (fun Q' kk => ?_) fun H1 s1 => ?_
      · repeat walk_at "st"
        refine r_newT (by show 2 ≤ sizeLine; decide) fun p1 H1 np1 s1 e1 => ?_
        repeat walk_at "st"
        refine r_dinT (pk k gn) (s1.at hma) e1 ?_
        rw [hv]
        exact r_exbl (kk _ s1)
      repeat walk_at "st"
      refine r_newT (by show 2 ≤ sizeLine; decide) fun p2 H2 np2 s2 e2 => ?_
      refine r_dgT (pk k gn) (s2.at (s1.at hma)) e2 hv ?_
      repeat walk_at "st"
      refine r_newT (by show 2 ≤ sizeLine; decide) fun p3 H3 np3 s3 e3 => ?_
      have s13 := (s1.trans s2).trans s3
      exact q p3 _ H3 s13 e3 ⟨ma, mk, rfl, s13.at hma, dmk⟩
    | none =>
      rw [eg] at q hv
      dsimp only at q
      refine t_ifNS (fun Q' kk => ?_) fun H1 s1 => ?_
      · repeat walk_at "st"
        refine r_newT (by show 2 ≤ sizeLine; decide) fun p1 H1 np1 s1 e1 => ?_
        repeat walk_at "st"
        refine r_dinT (pk k gn) (s1.at hma) e1 ?_
        rw [hv]
        exact r_exbl (kk _ s1)
      obtain ⟨r, b, e1, e2, e3, okb, cb⟩ := body_ok fok wok hk
      have dcb := dep_cnt (bodyOf d.fns wd k)
      obtain ⟨rv, hrv, irv⟩ := hfx.get (i := k) (d := encB r) (by rw [List.getElem?_map, e1]; rfl)
      obtain ⟨ra, rxs, rfl, hra, hrx⟩ := im_tup irv
      obtain ⟨tv, htv, itv⟩ := hrx.get (i := b) (d := enc (bodyOf d.fns wd k)) (by rw [List.getElem?_map, e3]; rfl)
      obtain ⟨wa, wxs, rfl, hwa, hwx⟩ := im_tup hw
      obtain ⟨wb, hwb, iwb⟩ := hwx.get (i := k) (d := nD b) (by rw [List.getElem?_map, e2]; rfl)
      cases iwb
      repeat walk_at "st"
      refine r_pget (.inr "functions") rfl (s1.at hpa) kf ?_
      repeat walk_at "st"
      refine r_ixT (.of (s1.at hfa)) (atI_nat hrv) ?_
      repeat walk_at "st"
      refine r_ixT (.of (s1.at hwa)) (atI_nat hwb) ?_
      repeat walk_at "st"
      refine r_ixT (.of (s1.at hra)) (atI_nat htv) ?_
      repeat walk_at "st"
      refine r_newT (by show 2 ≤ sizeLine; decide) fun p2 H2 np2 s2 e2' => ?_
      have s12 := s1.trans s2
      repeat walk_at "st"
      refine ⟨.ref pa, .ref wa, tv, .ref ma, p2, d, wd, M, bodyOf d.fns wd k, st, gn, k, rfl, hp.isn s12.isn, dok, wok, s12.im hw, st0, st1, e2', by omega, by omega, g0, g1, s12.im itv, okb, by omega, ⟨ma, mk, rfl, s12.at hma, dmk⟩, mok, fun p3 dv' H3 s3 e3' dm3 => ?_⟩
      have v0 := (evT_ok (F := evC d.fns d.base wd st n) (k := k) fok.base2 st0 st1 g0 g1 (fun j x m hj h0 h1 hm => evC_ok fok wok st0 st1 n j x m (by omega) (by omega) h0 h1 hm) (bodyOf d.fns wd k) M okb mok)
      generalize (evT (evC d.fns d.base wd st n) d.base st gn (bodyOf d.fns wd k) M).2 = M3 at *
      generalize (evT (evC d.fns d.base wd st n) d.base st gn (bodyOf d.fns wd k) M).1 = y3 at *
      obtain ⟨mb, mk3, rfl, hmb, dmk3⟩ := dm3
      refine r_gTup (.of e3') rfl ?_
      repeat walk_at "st"
      refine r_dictT hmb dmk3.far fun p4 H4 np4 s4 e4 => ?_
      repeat walk_at "st"
      refine r_newT (by show 2 ≤ sizeLine; decide) fun p5 H5 np5 s5 e5 => ?_
      have ml := dmk3.len
      refine r_putT (pk k gn) (s5.at e4) e5 (by omega) fun H6 k6 e6 => ?_
      have s36 : Same H3 H6 := fun b o h => k6 b o (ne_of_none h np4) (s5 _ _ (s4 _ _ h))
      repeat walk_at "st"
      refine r_newT (by show 2 ≤ sizeLine; decide) fun p7 H7 np7 s7 e7 => ?_
      exact q p7 _ H7 (((s12.trans s3).trans s36).trans s7) e7 ⟨p4, _, rfl, s7.at e6, dmk3.put v0.2.2 n3 b3 hk (by omega)⟩
theorem inV_op {o : Nat} : inV (.str (opN o)) [V.str "number", .str "given", .str "setting"] = false := by
  unfold opN
  split <;> decide +kernel
theorem lg_step {n l e : Nat} (D : Df K mg "_law_gone" (top 73)) (B : Bf mg) (hl2 : 2 ≤ l) (cLC : Cal P w K mg base "_law_calls" l ["parts", "wording", "setting", "call", "memory"] (spLC n)) (cLG : Cal P w K mg base "_law_gone" (l + e) ["parts", "wording", "setting", "tree", "here"] (spLG n e)) :
    Cal P w K mg base "_law_gone" (l + e + 1) ["parts", "wording", "setting", "tree", "here"] (spLG n (e + 1)) := by
  refine D.cal (N := ["parts", "wording", "setting", "tree", "here", "word", "given", "memory", "number", "one", "other"]) (ps := ["parts", "wording", "setting", "tree", "here"]) scLgone (fun _ _ _ _ _ _ us hl => match us, hl with | [_, _, _, _, _], _ => rfl) (fun vs H Q E h => ?_) fun f cdv A outer s H vs Q E hr h => ?_
  · obtain ⟨_, _, _, _, _, _, _, _, _, _, _, _, rfl, _⟩ := h
    rfl
  · obtain ⟨pv0, wv, tv, dv, ha, d, wd, M, t, st, g, k, rfl, hp, dok, wok, hw, st0, st1, hha, hkn, hkl, g0, g1, im, ok, hd, dm, mok, q⟩ := h
    refine ⟨_, (pss_cons (ps_asg (pe_tup (pa_cons (pe_ix ix_tup (pv 3) pe_int (fun _ _ => rfl)) (pa_cons (pv 4) pa_nil))) (pg_tup rfl (pgs_cons (pg_name (i := 5) scLgone.nd rfl (by first | exact Or.inl rfl | exact Or.inr rfl)) (pgs_cons (pg_tup rfl (pgs_cons (pg_name (i := 6) scLgone.nd rfl (by first | exact Or.inl rfl | exact Or.inr rfl)) (pgs_cons (pg_name (i := 7) scLgone.nd rfl (by first | exact Or.inl rfl | exact Or.inr rfl)) pgs_nil))) pgs_nil))))
      (pss_cons (ps_if (pt_cmpR op_in_seq (pv 5) (pe_tup (pa_cons pe_str (pa_cons pe_str (pa_cons pe_str pa_nil)))) (by with_unfolding_all rfl))
        (pss_one (ps_ret (pe_tup (pa_cons (pe_dget (hu_of hr) (pe_disp (pps_cons pe_str (pe_ix ix_tup (pv 3) (pe_un un_neg pe_int) (fun _ _ => rfl)) (pps_cons pe_str (pv 6) (pps_cons pe_str (pv 2) pps_nil))) (by rfl) (by rfl) (fun z => by cases z) (by decide)) (pv 5) (fun _ _ => rfl)) (pa_cons (pv 7) pa_nil)))))
        pss_nil)
      (pss_cons (ps_if (pt_cmpR op_eq (pv 5) pe_str (nomark _))
        (pss_cons (ps_asg (pe_cal cLG hr (by omega) (pa_cons (pv 0) (pa_cons (pv 1) (pa_cons (pv 2) (pa_cons (pe_ix ix_tup (pv 3) pe_int (fun _ _ => rfl)) (pa_cons (pv 4) pa_nil)))))) (pg_tup rfl (pgs_cons (pg_name (i := 8) scLgone.nd rfl (by first | exact Or.inl rfl | exact Or.inr rfl)) (pgs_cons (pg_name (i := 7) scLgone.nd rfl (by first | exact Or.inl rfl | exact Or.inr rfl)) pgs_nil))))
        (pss_one (ps_ret (pe_cal cLC hr (by omega) (pa_cons (pv 0) (pa_cons (pv 1) (pa_cons (pv 2) (pa_cons (pe_tup (pa_cons (pe_ix ix_tup (pv 3) pe_int (fun _ _ => rfl)) (pa_cons (pv 8) pa_nil))) (pa_cons (pv 7) pa_nil)))))))))
        pss_nil)
      (pss_cons (ps_asg (pe_cal cLG hr (by omega) (pa_cons (pv 0) (pa_cons (pv 1) (pa_cons (pv 2) (pa_cons (pe_ix ix_tup (pv 3) pe_int (fun _ _ => rfl)) (pa_cons (pv 4) pa_nil)))))) (pg_tup rfl (pgs_cons (pg_name (i := 9) scLgone.nd rfl (by first | exact Or.inl rfl | exact Or.inr rfl)) (pgs_cons (pg_name (i := 7) scLgone.nd rfl (by first | exact Or.inl rfl | exact Or.inr rfl)) pgs_nil))))
      (pss_cons (ps_if (pt_cmpR op_eq (pv 5) pe_str (nomark _))
        (pss_one (ps_ret (pe_cal cLG hr (by omega) (pa_cons (pv 0) (pa_cons (pv 1) (pa_cons (pv 2) (pa_cons (pe_ifExp (pt_cmpR op_ne (pv 9) pe_int (nomark _)) (pe_ix ix_tup (pv 3) pe_int (fun _ _ => rfl)) (pe_ix ix_tup (pv 3) pe_int (fun _ _ => rfl))) (pa_cons (pe_tup (pa_cons (pv 6) (pa_cons (pv 7) pa_nil))) pa_nil))))))))
        pss_nil)
      (pss_cons (ps_asg (pe_cal cLG hr (by omega) (pa_cons (pv 0) (pa_cons (pv 1) (pa_cons (pv 2) (pa_cons (pe_ix ix_tup (pv 3) pe_int (fun _ _ => rfl)) (pa_cons (pe_tup (pa_cons (pv 6) (pa_cons (pv 7) pa_nil))) pa_nil)))))) (pg_tup rfl (pgs_cons (pg_name (i := 10) scLgone.nd rfl (by first | exact Or.inl rfl | exact Or.inr rfl)) (pgs_cons (pg_name (i := 7) scLgone.nd rfl (by first | exact Or.inl rfl | exact Or.inr rfl)) pgs_nil))))
      (pss_cons (ps_if (pt_cmpR op_eq (pv 5) pe_str (nomark _))
        (pss_one (ps_ret (pe_tup (pa_cons (pe_ifExp (pt_cmpR op_eq (pv 9) (pv 10) (nomark _)) pe_int pe_int) (pa_cons (pv 7) pa_nil)))))
        pss_nil)
      (pss_one (ps_ret (pe_tup (pa_cons (pe_op op_mod (pe_callTy c_int (by rfl) (B _ (by decide)) b_int (pa_cons (pe_dget (hu_of hr) (pe_disp (pps_cons pe_str (pe_op op_add (pv 9) (pv 10)) (pps_cons pe_str (pe_op op_sub (pv 9) (pv 10)) (pps_cons pe_str (pe_op op_mul (pv 9) (pv 10)) pps_nil))) (by rfl) (by rfl) (fun z => by cases z) (by decide)) (pv 5) (fun _ _ => rfl)) pa_nil)) (pe_dget (hu_of hr) (pv 0) pe_str (fun _ _ => rfl))) (pa_cons (pv 7) pa_nil)))))))))))), ?_⟩
    have fok : FnsOk d.fns d.base := dok.book.fns
    have n3 : d.fns.length ≤ 3 := fok.len3
    have b3 : d.base ≤ 3 := fok.base3
    have b2 : 2 ≤ d.base := fok.base2
    obtain ⟨pa, kvs, fa, fxs, rfl, hpa, kf, hfa, hfx, kb⟩ := hp.fns
    have okF : ∀ (j : Nat) (x : Int) (m : Mem), j < k → 0 ≤ x → x < (d.base : Int) → MemOk d.fns.length d.base m → 0 ≤ (evC d.fns d.base wd st n j x m).1 ∧ (evC d.fns d.base wd st n j x m).1 < d.base ∧ MemOk d.fns.length d.base (evC d.fns d.base wd st n j x m).2 :=
      fun j x m hj h0 h1 hm => evC_ok fok wok st0 st1 n j x m (by omega) (by omega) h0 h1 hm
    have vOk : ∀ (t' : Tr) (m : Mem), okB d.base k t' → MemOk d.fns.length d.base m → 0 ≤ (evT (evC d.fns d.base wd st n) d.base st g t' m).1 ∧ (evT (evC d.fns d.base wd st n) d.base st g t' m).1 < d.base ∧ MemOk d.fns.length d.base (evT (evC d.fns d.base wd st n) d.base st g t' m).2 :=
      fun t' m => evT_ok b2 st0 st1 g0 g1 okF t' m
    have sub : ∀ (u : V) (t' : Tr) (H1 : Hp) (hb : Addr) (dv1 : V) (M1 : Mem) (Q1 : VK), Same H H1 → H1 hb = some (.tup [.int g, dv1]) → DM d.fns.length d.base H1 dv1 M1 → MemOk d.fns.length d.base M1 → Im H u (enc t') → okB d.base k t' → dep t' < e →
        (∀ p dv' H', Same H1 H' → H' p = some (.tup [.int (evT (evC d.fns d.base wd st n) d.base st g t' M1).1, dv']) → DM d.fns.length d.base H' dv' (evT (evC d.fns d.base wd st n) d.base st g t' M1).2 → Q1 (.ref p) H') → spLG n e [.ref pa, wv, .int st, u, .ref hb] H1 Q1 E0 :=
      fun u t' H1 hb dv1 M1 Q1 s1 hhb dm1 mok1 iu ou du q1 => ⟨.ref pa, wv, u, dv1, hb, d, wd, M1, t', st, g, k, rfl, hp.isn s1.isn, dok, wok, s1.im hw, st0, st1, hhb, hkn, hkl, g0, g1, s1.im iu, ou, du, dm1, mok1, q1⟩
    cases t with
    | num m =>
      obtain ⟨a, rfl, hta⟩ := enc_num im
      repeat walk_at "st"
      refine r_ixT (.of hta) (atI_nat (j := 0) rfl) ?_
      repeat walk_at "st"
      refine r_newT (by show 2 ≤ sizeLine; decide) fun p1 H1 np1 s1 e1 => ?_
      refine r_gTup (.of e1) rfl ?_
      repeat walk_at "st"
      refine r_gTup (.of (s1.at hha)) rfl ?_
      repeat walk_at "st"
      refine t_ifYS (fun Q' kk => ?_) fun H2 s2 => ?_
      · repeat walk_at "st"
        refine r_newT (by show 3 ≤ sizeLine; decide) fun p2 H2 np2 s2 e2 => ?_
        refine r_inT (.of e2) rfl rfl ?_
        exact r_exbl (kk _ s2)
      have s12 := s1.trans s2
      repeat walk_at "st"
      refine r_disp fun pd H3 npd s3 e3 => ?_
      repeat walk_at "st"
      refine r_ixT (.of ((s12.trans s3).at hta)) (v := .int m) rfl ?_
      repeat walk_at "st"
      refine ⟨e3, [(.inr "number", .int m), (.inr "given", .int g), (.inr "setting", .int st)], rfl, by show 3 ≤ 15; decide, ?_⟩
      obtain ⟨H4, eH4, s4, e4⟩ : ∃ H4, upd H3 pd (.dK (mergeK [] [((.inr "number" : Key), .int m), (.inr "given", .int g), (.inr "setting", .int st)])) = H4 ∧ Same H2 H4 ∧ H4 pd = some (.dK (mergeK [] [((.inr "number" : Key), .int m), (.inr "given", .int g), (.inr "setting", .int st)])) :=
        ⟨_, rfl, fun b o h => by rw [upd_ne (ne_of_none h npd)]; exact s3 _ _ h, upd_same⟩
      rw [eH4]
      repeat walk_at "st"
      refine r_pget (.inr "number") rfl e4 (v := .int m) rfl ?_
      repeat walk_at "st"
      refine r_newT (by show 2 ≤ sizeLine; decide) fun p5 H5 np5 s5 e5 => ?_
      have s15 := (s12.trans s4).trans s5
      exact q p5 dv H5 s15 e5 (dm.isn s15.isn)
    | given =>
      obtain ⟨a, rfl, hta⟩ := enc_w (by simpa only [enc] using im)
      repeat walk_at "st"
      refine r_ixT (.of hta) (atI_nat (j := 0) rfl) ?_
      repeat walk_at "st"
      refine r_newT (by show 2 ≤ sizeLine; decide) fun p1 H1 np1 s1 e1 => ?_
      refine r_gTup (.of e1) rfl ?_
      repeat walk_at "st"
      refine r_gTup (.of (s1.at hha)) rfl ?_
      repeat walk_at "st"
      refine t_ifYS (fun Q' kk => ?_) fun H2 s2 => ?_
      · repeat walk_at "st"
        refine r_newT (by show 3 ≤ sizeLine; decide) fun p2 H2 np2 s2 e2 => ?_
        refine r_inT (.of e2) rfl rfl ?_
        exact r_exbl (kk _ s2)
      have s12 := s1.trans s2
      repeat walk_at "st"
      refine r_disp fun pd H3 npd s3 e3 => ?_
      repeat walk_at "st"
      refine r_ixT (.of ((s12.trans s3).at hta)) (v := .str "given") rfl ?_
      repeat walk_at "st"
      refine ⟨e3, [(.inr "number", .str "given"), (.inr "given", .int g), (.inr "setting", .int st)], rfl, by show 3 ≤ 15; decide, ?_⟩
      obtain ⟨H4, eH4, s4, e4⟩ : ∃ H4, upd H3 pd (.dK (mergeK [] [((.inr "number" : Key), .str "given"), (.inr "given", .int g), (.inr "setting", .int st)])) = H4 ∧ Same H2 H4 ∧ H4 pd = some (.dK (mergeK [] [((.inr "number" : Key), .str "given"), (.inr "given", .int g), (.inr "setting", .int st)])) :=
        ⟨_, rfl, fun b o h => by rw [upd_ne (ne_of_none h npd)]; exact s3 _ _ h, upd_same⟩
      rw [eH4]
      repeat walk_at "st"
      refine r_pget (.inr "given") rfl e4 (v := .int g) rfl ?_
      repeat walk_at "st"
      refine r_newT (by show 2 ≤ sizeLine; decide) fun p5 H5 np5 s5 e5 => ?_
      have s15 := (s12.trans s4).trans s5
      exact q p5 dv H5 s15 e5 (dm.isn s15.isn)
    | setting =>
      obtain ⟨a, rfl, hta⟩ := enc_w (by simpa only [enc] using im)
      repeat walk_at "st"
      refine r_ixT (.of hta) (atI_nat (j := 0) rfl) ?_
      repeat walk_at "st"
      refine r_newT (by show 2 ≤ sizeLine; decide) fun p1 H1 np1 s1 e1 => ?_
      refine r_gTup (.of e1) rfl ?_
      repeat walk_at "st"
      refine r_gTup (.of (s1.at hha)) rfl ?_
      repeat walk_at "st"
      refine t_ifYS (fun Q' kk => ?_) fun H2 s2 => ?_
      · repeat walk_at "st"
        refine r_newT (by show 3 ≤ sizeLine; decide) fun p2 H2 np2 s2 e2 => ?_
        refine r_inT (.of e2) rfl rfl ?_
        exact r_exbl (kk _ s2)
      have s12 := s1.trans s2
      repeat walk_at "st"
      refine r_disp fun pd H3 npd s3 e3 => ?_
      repeat walk_at "st"
      refine r_ixT (.of ((s12.trans s3).at hta)) (v := .str "setting") rfl ?_
      repeat walk_at "st"
      refine ⟨e3, [(.inr "number", .str "setting"), (.inr "given", .int g), (.inr "setting", .int st)], rfl, by show 3 ≤ 15; decide, ?_⟩
      obtain ⟨H4, eH4, s4, e4⟩ : ∃ H4, upd H3 pd (.dK (mergeK [] [((.inr "number" : Key), .str "setting"), (.inr "given", .int g), (.inr "setting", .int st)])) = H4 ∧ Same H2 H4 ∧ H4 pd = some (.dK (mergeK [] [((.inr "number" : Key), .str "setting"), (.inr "given", .int g), (.inr "setting", .int st)])) :=
        ⟨_, rfl, fun b o h => by rw [upd_ne (ne_of_none h npd)]; exact s3 _ _ h, upd_same⟩
      rw [eH4]
      repeat walk_at "st"
      refine r_pget (.inr "setting") rfl e4 (v := .int st) rfl ?_
      repeat walk_at "st"
      refine r_newT (by show 2 ≤ sizeLine; decide) fun p5 H5 np5 s5 e5 => ?_
      have s15 := (s12.trans s4).trans s5
      exact q p5 dv H5 s15 e5 (dm.isn s15.isn)
    | col _ => exact ok.elim
    | kept _ => exact ok.elim
    | call j t =>
      obtain ⟨a, u, rfl, hta, iu⟩ := enc_call im
      repeat walk_at "st"
      refine r_ixT (.of hta) (atI_nat (j := 0) rfl) ?_
      repeat walk_at "st"
      refine r_newT (by show 2 ≤ sizeLine; decide) fun p1 H1 np1 s1 e1 => ?_
      refine r_gTup (.of e1) rfl ?_
      repeat walk_at "st"
      refine r_gTup (.of (s1.at hha)) rfl ?_
      repeat walk_at "st"
      refine t_ifNS (fun Q' kk => ?_) fun H2 s2 => ?_
      · repeat walk_at "st"
        refine r_newT (by show 3 ≤ sizeLine; decide) fun p2 H2 np2 s2 e2 => ?_
        refine r_inT (.of e2) rfl rfl ?_
        exact r_exbl (kk _ s2)
      have s12 := s1.trans s2
      repeat walk_at "st"
      refine t_ifY (fun Q' kk => ?_) ?_
      · repeat walk_at "st"
        exact q_decT rfl kk
      repeat walk_at "st"
      refine r_ixT (.of (s12.at hta)) (v := u) rfl ?_
      repeat walk_at "st"
      have hdt : dep t < e := by
        simp only [dep] at hd
        omega
      refine sub u t H2 ha dv M _ s12 (s12.at hha) (dm.isn s12.isn) mok iu ok.2 hdt fun p3 dv3 H3 s3 e3 dm3 => ?_
      obtain ⟨v0, v1, mok3⟩ := vOk t M ok.2 mok
      simp only [evT] at q
      refine r_gTup (.of e3) rfl ?_
      repeat walk_at "st"
      have s13 := s12.trans s3
      refine r_ixT (.of (s13.at hta)) (v := .int j) rfl ?_
      repeat walk_at "st"
      refine r_newT (by show 2 ≤ sizeLine; decide) fun p4 H4 np4 s4 e4 => ?_
      repeat walk_at "st"
      have s14 := s13.trans s4
      have jk := ok.1
      exact ⟨.ref pa, wv, dv3, p4, d, wd, _, st, _, j, rfl, hp.isn s14.isn, dok, wok, s14.im hw, st0, st1, e4, by omega, by omega, v0, v1, dm3.isn s4.isn, mok3, fun p dv' H' s' e' dm' => q p dv' H' (s14.trans s') e' dm'⟩
    | two o x y =>
      obtain ⟨a, u1, u2, rfl, hta, i1, i2⟩ := enc_two (by simpa only [enc] using im)
      repeat walk_at "st"
      refine r_ixT (.of hta) (atI_nat (j := 0) rfl) ?_
      repeat walk_at "st"
      refine r_newT (by show 2 ≤ sizeLine; decide) fun p1 H1 np1 s1 e1 => ?_
      refine r_gTup (.of e1) rfl ?_
      repeat walk_at "st"
      refine r_gTup (.of (s1.at hha)) rfl ?_
      repeat walk_at "st"
      refine t_ifNS (fun Q' kk => ?_) fun H2 s2 => ?_
      · repeat walk_at "st"
        refine r_newT (by show 3 ≤ sizeLine; decide) fun p2 H2 np2 s2 e2 => ?_
        refine r_inT (.of e2) rfl rfl ?_
        rw [inV_op]
        exact r_exbl (kk _ s2)
      have s12 := s1.trans s2
      repeat walk_at "st"
      obtain ⟨ne1, ne2, ne3, _⟩ := @opN_ne o
      have hd' : dep x < e ∧ dep y < e := by
        simp only [dep] at hd
        omega
      refine t_ifN (fun Q' kk => ?_) ?_
      · repeat walk_at "st"
        exact q_decF ne2 kk
      repeat walk_at "st"
      refine r_ixT (.of (s12.at hta)) (v := u1) rfl ?_
      repeat walk_at "st"
      refine sub u1 x H2 ha dv M _ s12 (s12.at hha) (dm.isn s12.isn) mok i1 ok.2.1 hd'.1 fun p3 dv3 H3 s3 e3 dm3 => ?_
      obtain ⟨v0, v1, mok3⟩ := vOk x M ok.2.1 mok
      refine r_gTup (.of e3) rfl ?_
      repeat walk_at "st"
      have s13 := s12.trans s3
      dsimp only
      refine t_ifN (fun Q' kk => ?_) ?_
      · repeat walk_at "st"
        exact q_decF ne3 kk
      repeat walk_at "st"
      refine r_ixT (.of (s13.at hta)) (v := u2) rfl ?_
      repeat walk_at "st"
      refine r_newT (by show 2 ≤ sizeLine; decide) fun p4 H4 np4 s4 e4 => ?_
      repeat walk_at "st"
      have s14 := s13.trans s4
      refine sub u2 y H4 p4 dv3 _ _ s14 e4 (dm3.isn s4.isn) mok3 i2 ok.2.2 hd'.2 fun p5 dv5 H5 s5 e5 dm5 => ?_
      obtain ⟨v2, v3, _⟩ := vOk y _ ok.2.2 mok3
      simp only [evT] at q
      refine r_gTup (.of e5) rfl ?_
      repeat walk_at "st"
      have s15 := s14.trans s5
      generalize (evT (evC d.fns d.base wd st n) d.base st g x M).1 = q1 at q v0 v1 e3 ⊢
      generalize hq2 : (evT (evC d.fns d.base wd st n) d.base st g y (evT (evC d.fns d.base wd st n) d.base st g x M).2).1 = q2 at q v2 v3 e5 ⊢
      dsimp only
      by_cases h3 : o = 3
      · refine t_ifY (fun Q' kk => ?_) ?_
        · repeat walk_at "st"
          exact q_decT ((opN_same ok.1).mpr h3) kk
        subst h3
        repeat walk_at "st"
        refine ite_dec (fun ee => ?_) fun ee => ?_
        · repeat walk_at "st"
          refine r_newT (by show 2 ≤ sizeLine; decide) fun p6 H6 np6 s6 e6 => ?_
          exact q p6 dv5 H6 (s15.trans s6) (by rw [e6, show opV d.base 3 q1 q2 = 1 from if_pos ee]) (dm5.isn s6.isn)
        · repeat walk_at "st"
          refine r_newT (by show 2 ≤ sizeLine; decide) fun p6 H6 np6 s6 e6 => ?_
          exact q p6 dv5 H6 (s15.trans s6) (by rw [e6, show opV d.base 3 q1 q2 = 0 from if_neg ee]) (dm5.isn s6.isn)
      · refine t_ifN (fun Q' kk => ?_) ?_
        · repeat walk_at "st"
          exact q_decF (fun z => h3 ((opN_same ok.1).mp z)) kk
        repeat walk_at "st"
        refine r_disp fun pd H6 npd s6 e6 => ?_
        repeat walk_at "st"
        refine r_mulL (by omega) (by omega) ?_
        repeat walk_at "st"
        refine ⟨e6, [(.inr "sum", .int (q1 + q2)), (.inr "less", .int (q1 - q2)), (.inr "times", .int (q1 * q2))], rfl, by show 3 ≤ 15; decide, ?_⟩
        obtain ⟨H7, eH7, s7, e7⟩ : ∃ H7, upd H6 pd (.dK (mergeK [] [((.inr "sum" : Key), V.int (q1 + q2)), (.inr "less", .int (q1 - q2)), (.inr "times", .int (q1 * q2))])) = H7 ∧ Same H5 H7 ∧ H7 pd = some (.dK (mergeK [] [((.inr "sum" : Key), V.int (q1 + q2)), (.inr "less", .int (q1 - q2)), (.inr "times", .int (q1 * q2))])) :=
          ⟨_, rfl, fun b o h => by rw [upd_ne (ne_of_none h npd)]; exact s6 _ _ h, upd_same⟩
        rw [eH7]
        repeat walk_at "st"
        obtain ⟨val, hval, hop⟩ : ∃ val : Int, valV (mergeK [] [((.inr "sum" : Key), V.int (q1 + q2)), (.inr "less", .int (q1 - q2)), (.inr "times", .int (q1 * q2))]) (.inr (opN o)) = some (.int val) ∧ opV d.base o q1 q2 = val % d.base := by
          have z : o = 0 ∨ o = 1 ∨ o = 2 := by
            have := ok.1
            omega
          rcases z with rfl | rfl | rfl
          · exact ⟨q1 + q2, rfl, rfl⟩
          · exact ⟨q1 - q2, rfl, rfl⟩
          · exact ⟨q1 * q2, rfl, rfl⟩
        refine r_pget (.inr (opN o)) rfl e7 hval ?_
        repeat walk_at "st"
        have s17 := s15.trans s7
        refine r_pget (.inr "base") rfl (s17.at hpa) kb ?_
        repeat walk_at "st"
        refine r_I (by omega) ?_
        repeat walk_at "st"
        refine r_newT (by show 2 ≤ sizeLine; decide) fun p8 H8 np8 s8 e8 => ?_
        exact q p8 dv5 H8 (s17.trans s8) (by rw [e8, hop]) (dm5.isn (s7.trans s8).isn)
    | cond x y z =>
      obtain ⟨a, u1, u2, u3, rfl, hta, i1, i2, i3⟩ := enc_three (by simpa only [enc] using im)
      repeat walk_at "st"
      refine r_ixT (.of hta) (atI_nat (j := 0) rfl) ?_
      repeat walk_at "st"
      refine r_newT (by show 2 ≤ sizeLine; decide) fun p1 H1 np1 s1 e1 => ?_
      refine r_gTup (.of e1) rfl ?_
      repeat walk_at "st"
      refine r_gTup (.of (s1.at hha)) rfl ?_
      repeat walk_at "st"
      refine t_ifNS (fun Q' kk => ?_) fun H2 s2 => ?_
      · repeat walk_at "st"
        refine r_newT (by show 3 ≤ sizeLine; decide) fun p2 H2 np2 s2 e2 => ?_
        refine r_inT (.of e2) rfl rfl ?_
        exact r_exbl (kk _ s2)
      have s12 := s1.trans s2
      repeat walk_at "st"
      have hd' : dep x < e ∧ dep y < e ∧ dep z < e := by
        simp only [dep] at hd
        omega
      refine t_ifN (fun Q' kk => ?_) ?_
      · repeat walk_at "st"
        exact q_decF (by decide) kk
      repeat walk_at "st"
      refine r_ixT (.of (s12.at hta)) (v := u1) rfl ?_
      repeat walk_at "st"
      refine sub u1 x H2 ha dv M _ s12 (s12.at hha) (dm.isn s12.isn) mok i1 ok.1 hd'.1 fun p3 dv3 H3 s3 e3 dm3 => ?_
      obtain ⟨v0, v1, mok3⟩ := vOk x M ok.1 mok
      refine r_gTup (.of e3) rfl ?_
      repeat walk_at "st"
      have s13 := s12.trans s3
      dsimp only
      refine t_ifY (fun Q' kk => ?_) ?_
      · repeat walk_at "st"
        exact q_decT rfl kk
      repeat walk_at "st"
      unfold evT at q
      refine ite_ndec (fun hz => ?_) fun hz => ?_
      · rw [if_pos hz] at q
        repeat walk_at "st"
        refine r_ixT (.of (s13.at hta)) (v := u2) rfl ?_
        repeat walk_at "st"
        refine r_newT (by show 2 ≤ sizeLine; decide) fun p4 H4 np4 s4 e4 => ?_
        repeat walk_at "st"
        have s14 := s13.trans s4
        exact sub u2 y H4 p4 dv3 _ _ s14 e4 (dm3.isn s4.isn) mok3 i2 ok.2.1 hd'.2.1 fun p dv' H' s' e' dm' => q p dv' H' (s14.trans s') e' dm'
      · rw [if_neg (fun h => h hz)] at q
        repeat walk_at "st"
        refine r_ixT (.of (s13.at hta)) (v := u3) rfl ?_
        repeat walk_at "st"
        refine r_newT (by show 2 ≤ sizeLine; decide) fun p4 H4 np4 s4 e4 => ?_
        repeat walk_at "st"
        have s14 := s13.trans s4
        exact sub u3 z H4 p4 dv3 _ _ s14 e4 (dm3.isn s4.isn) mok3 i3 ok.2.2 hd'.2.2 fun p dv' H' s' e' dm' => q p dv' H' (s14.trans s') e' dm'
end
end K5
end

section
set_option maxHeartbeats 4000000
/-! LM: the law's memories: empty, as a dict, as rows; a plain call. -/
namespace K5
open PySem PySem.Spec L2
open PyProof.Rows hiding St
section
variable {σ : L2.St} {H : Hp} {Q : VK}
theorem r_dnewT (q : ∀ p H', H p = none → Same H H' → H' p = some (.dT []) → Q (.ref p) H') : tDNewT σ H Q := fun p hp => q p _ hp (same_upd hp) upd_same
theorem r_dget2 {td ty tx : TE} (q : td σ H fun x H1 => ∃ a, x = .ref a ∧ IsD H1 a ∧ ty σ H1 fun y H2 => tx σ H2 fun z H3 => ∃ o, DGet H3 a y o ∧ Q (o.getD z) H3) : tDGet2 td ty tx σ H Q := q
end
local macro_rules | `(tactic| walk_at "lf") => `(tactic| first
  | assumption
  | (refine Same.im (by assumption) ?_; walk_at "lf")
  | (refine Same.ims (by assumption) ?_; walk_at "lf")
  | (refine Same.at (by assumption) ?_; walk_at "lf")
  | (refine Same.sqT (by assumption) ?_; walk_at "lf")
  | (refine Same.seq (by assumption) ?_; walk_at "lf")
  | exact SqL.of (by walk_at "lf")
  | exact SqT.of (by walk_at "lf"))
local macro_rules | `(tactic| walk_at "st") => `(tactic| first
  | ((with_reducible refine r_var (v := ?vv) ?rv ?_); (case rv => exact rfl))
  | with_reducible first
    | refine r_seq ?_
    | refine r_asg ?_
    | refine r_gName ?_
    | refine r_c ?_
    | refine r_op ?_
    | refine r_I0 ?_
    | refine r_exbl ?_
    | refine r_cb ?_
    | refine r_nil ?_
    | refine r_cons ?_
    | refine r_test ?_
    | refine r_tB ?_
    | refine r_and ?_
    | refine r_or ?_
    | refine r_not ?_
    | refine r_if ?_
    | refine r_ret ?_
    | refine r_next ?_
    | refine r_tup ?_
    | refine r_lst ?_
    | refine r_int ?_
    | refine r_exint ?_
    | refine r_sl ?_
    | refine r_part ?_
    | refine r_nopart ?_
    | refine r_par ?_
    | refine r_ex2 ?_
    | refine r_call ?_
    | refine r_un ?_
    | refine r_U ?_
    | refine r_andV ?_
    | refine r_orV ?_
    | refine r_notV ?_
    | refine r_chain ?_
    | refine r_isN ?_
    | refine r_notN ?_
    | refine r_drop ?_
    | refine r_I (by decide) ?_
    | refine r_EqI ?_
    | refine r_NeI ?_
    | refine r_EqS ?_
    | refine r_NeS ?_
    | refine r_gSub ?_
    | refine r_gCons ?_
    | refine r_gNil ?_
    | refine r_dget ?_
    | refine r_pcons ?_
    | refine r_pnil ?_
    | refine iteT ?_
    | refine iteF ?_
    | refine iteNF ?_
    | refine iteNT ?_
    | refine r_prop ?_
    | refine r_dget2 ?_
    | refine r_din ?_
    | refine r_dput ?_
    | refine r_mk ?_
    | refine r_propG ?_
    | refine r_mtd ?_
    | refine r_bm ?_
    | refine r_si ?_
    | refine r_for ?_
    | refine r_lc ?_
    | refine r_iT ?_
    | refine r_iL ?_
    | refine r_enT ?_
    | refine r_zip ?_
    | refine r_zs ?_
    | refine r_iR1 ?_
    | refine r_yes ?_
    | refine r_fld ?_
    | refine r_star1 ?_
    | refine r_ctE ?_
    | refine r_div (by decide) (by decide) ?_
    | refine r_mulL (by decide) (by decide) ?_
    | refine r_mulR (by decide) (by decide) ?_)
local macro_rules | `(tactic| walk_at "tq") => `(tactic| ((repeat walk_at "st"); first
  | assumption
  | (refine q_decT (by omega) (by assumption))
  | (refine q_decF (by omega) (by assumption))
  | (refine q_nT (by omega) (by assumption))
  | (refine q_nF (by omega) (by assumption))
  | (refine ite_dec (fun _ => ?_) (fun _ => ?_) <;> first | (exfalso; omega) | walk_at "tq")
  | (refine ite_ndec (fun _ => ?_) (fun _ => ?_) <;> first | (exfalso; omega) | walk_at "tq")))
def spLE : Sp := fun vs H Q _ => ∃ (pv : V) (d : PD), vs = [pv] ∧ PartsAt H pv d ∧ PDOk d ∧ ∀ p H', Same H H' → Im H' (.ref p) (encM (memE d.fns.length d.base)) → Q (.ref p) H'
def spLK : Sp := fun vs H Q _ => ∃ (pv mv : V) (d : PD) (M : Mem), vs = [pv, mv] ∧ PDOk d ∧ Im H mv (encM M) ∧ MemOk d.fns.length d.base M ∧ ∀ v H', Same H H' → DM d.fns.length d.base H' v M → Q v H'
def spLR : Sp := fun vs H Q _ => ∃ (pv dv : V) (d : PD) (M : Mem), vs = [pv, dv] ∧ PartsAt H pv d ∧ PDOk d ∧ DM d.fns.length d.base H dv M ∧ MemOk d.fns.length d.base M ∧ ∀ p H', Same H H' → Im H' (.ref p) (encM M) → Q (.ref p) H'
def spLP : Sp := fun vs H Q _ => ∃ (pv wv : V) (d : PD) (wd : List Nat) (st g : Int) (k : Nat), vs = [pv, wv, .int st, .int k, .int g] ∧ PartsAt H pv d ∧ PDOk d ∧ WdOk d.fns wd ∧ Im H wv (encW wd) ∧ 0 ≤ st ∧ st < d.base ∧ k < d.fns.length ∧ 0 ≤ g ∧ g < d.base ∧ ∀ x H', Same H H' → Q (.int x) H'
theorem scLempty : FnScope ["parts"] ["parts"] (defScope (top 71)) := ⟨rfl, rfl, rfl, by decide +kernel, rfl, by decide +kernel, by decide +kernel⟩
theorem scLkept : FnScope ["parts", "memory", "found", "k", "row", "number", "one"] ["parts", "memory"] (defScope (top 74)) := ⟨rfl, rfl, rfl, by decide +kernel, rfl, by decide +kernel, by decide +kernel⟩
theorem scLrows : FnScope ["parts", "kept", "rows", "k", "number"] ["parts", "kept"] (defScope (top 75)) := ⟨rfl, rfl, rfl, by decide +kernel, rfl, by decide +kernel, by decide +kernel⟩
theorem scLplain : FnScope ["parts", "wording", "setting", "k", "given"] ["parts", "wording", "setting", "k", "given"] (defScope (top 76)) := ⟨rfl, rfl, rfl, by decide +kernel, rfl, by decide +kernel, by decide +kernel⟩
theorem memE_ok (nf b : Nat) : MemOk nf b (memE nf b) := by
  refine ⟨List.length_replicate, fun r hr => ?_, fun r hr x hx => ?_⟩
  · rw [List.eq_of_mem_replicate hr, List.length_replicate]
  · rw [List.eq_of_mem_replicate hr] at hx
    cases List.eq_of_mem_replicate hx
/-- keys that are pairs -/
structure PKs (kvs : List (List Key × V)) : Prop where
  pairs : ∀ kv ∈ kvs, ∃ k g : Nat, k < 3 ∧ g < 3 ∧ kv.1 = pk k g
  nd : (kvs.map (·.1)).Nodup
theorem PKs.put {kvs : List (List Key × V)} {k g : Nat} {x : V} (h : PKs kvs) (hk : k < 3) (hg : g < 3) : PKs (putK kvs (pk k g) x) := by
  refine ⟨fun kv hm => ?_, ?_⟩
  · have m : kv.1 ∈ (putK kvs (pk k g) x).map (·.1) := List.mem_map.mpr ⟨kv, hm, rfl⟩
    rw [keys_putK] at m
    have z : kv.1 ∈ kvs.map (·.1) ∨ kv.1 = pk k g := by
      split at m
      · exact .inl m
      · exact (List.mem_append.mp m).elim .inl fun z => .inr (List.mem_singleton.mp z)
    rcases z with z | z
    · obtain ⟨q, hq, e⟩ := List.mem_map.mp z
      rw [← e]
      exact h.pairs q hq
    · exact ⟨k, g, hk, hg, z⟩
  · rw [keys_putK]
    split
    · exact h.nd
    · rename_i nm
      rw [List.nodup_append]
      exact ⟨h.nd, by simp, fun a ha b hb' => by
        rw [List.mem_singleton.mp hb']
        intro z
        exact nm (z ▸ ha)⟩
theorem PKs.len {kvs : List (List Key × V)} (h : PKs kvs) : kvs.length ≤ 9 := (DMk.len (nf := 0) (base := 0) (M := []) ⟨h.pairs, h.nd, fun _ _ z => absurd z (Nat.not_lt_zero _)⟩)
theorem pk_inj {k g k' g' : Nat} : pk k g = pk k' g' ↔ k = k' ∧ g = g' := by
  unfold pk
  constructor
  · intro z
    simp only [List.cons.injEq, Sum.inl.injEq, and_true] at z
    omega
  · rintro ⟨rfl, rfl⟩
    rfl
section
variable {P : Program} {w : World} {K : PySem.W.Frag} {mg : Str → Option Value} {base : Heap}
theorem ok_lempty (D : Df K mg "_law_empty" (top 71)) (B : Bf mg) : Cal P w K mg base "_law_empty" 1 ["parts"] spLE := by
  refine D.cal (N := ["parts"]) (ps := ["parts"]) scLempty (fun _ _ _ _ _ _ us hl => match us, hl with | [_], _ => rfl) (fun vs H Q E h => ?_) fun f cdv A outer s H vs Q E hr h => ?_
  · obtain ⟨_, _, rfl, _⟩ := h
    rfl
  · obtain ⟨pv0, d, rfl, hp, dok, q⟩ := h
    refine ⟨_, (pss_one (ps_ret (pe_op op_repA (pe_tup (pa_cons (pe_op op_repA (pe_tup (pa_cons pe_non pa_nil)) (pe_dget (hu_of hr) (pv 0) pe_str (fun _ _ => rfl))) pa_nil)) (pe_callB c_len (by rfl) (B _ (by decide)) b_len (pa_cons (pe_dget (hu_of hr) (pv 0) pe_str (fun _ _ => rfl)) pa_nil))))), ?_⟩
    have fok : FnsOk d.fns d.base := dok.book.fns
    have n1 := fok.len1
    have n3 := fok.len3
    have b2 := fok.base2
    have b3 := fok.base3
    obtain ⟨pa, kvs, fa, fxs, rfl, hpa, kf, hfa, hfx, kb⟩ := hp.fns
    have fxl : fxs.length = d.fns.length := by rw [hfx.length, List.length_map]
    repeat walk_at "st"
    refine r_newT (by show 1 ≤ sizeLine; decide) fun p1 H1 np1 s1 e1 => ?_
    repeat walk_at "st"
    refine r_pget (.inr "base") rfl (s1.at hpa) kb ?_
    refine r_rep1 d.base e1 (by omega) (by omega) rfl fun p2 H2 s2 e2 => ?_
    repeat walk_at "st"
    refine r_newT (by show 1 ≤ sizeLine; decide) fun p3 H3 np3 s3 e3 => ?_
    have s13 := (s1.trans s2).trans s3
    repeat walk_at "st"
    refine r_pget (.inr "functions") rfl (s13.at hpa) kf ?_
    repeat walk_at "st"
    refine r_lenT (.of (s13.at hfa)) fxl ?_
    refine r_rep1 d.fns.length e3 (by omega) (by omega) rfl fun p4 H4 s4 e4 => ?_
    refine q p4 H4 (s13.trans s4) ?_
    rw [encM_rep]
    refine .tup e4 (imAll_rep ?_ _)
    rw [encRow_rep]
    exact .tup (s4.at (s3.at e2)) (imAll_rep .non _)
theorem ok_lkept (D : Df K mg "_law_kept" (top 74)) (B : Bf mg) : Cal P w K mg base "_law_kept" 1 ["parts", "memory"] spLK := by
  refine D.cal (N := ["parts", "memory", "found", "k", "row", "number", "one"]) (ps := ["parts", "memory"]) scLkept (fun _ _ _ _ _ _ us hl => match us, hl with | [_, _], _ => rfl) (fun vs H Q E h => ?_) fun f cdv A outer s H vs Q E hr h => ?_
  · obtain ⟨_, _, _, _, rfl, _⟩ := h
    rfl
  · obtain ⟨pv0, mv, d, M, rfl, dok, hm, mok, q⟩ := h
    refine ⟨_, (pss_cons (ps_set (i := 2) scLkept.nd rfl (by first | exact Or.inl rfl | exact Or.inr rfl) pe_dnewT)
      (pss_cons (ps_for PassesOwn.never rfl (pi_enumT (by rfl) (B _ (by decide)) (pa_cons (pv 1) pa_nil)) (pg_tup rfl (pgs_cons (pg_name (i := 3) scLkept.nd rfl (by first | exact Or.inl rfl | exact Or.inr rfl)) (pgs_cons (pg_name (i := 4) scLkept.nd rfl (by first | exact Or.inl rfl | exact Or.inr rfl)) pgs_nil)))
        (pss_one (ps_for PassesOwn.never rfl (pi_enumT (by rfl) (B _ (by decide)) (pa_cons (pv 4) pa_nil)) (pg_tup rfl (pgs_cons (pg_name (i := 5) scLkept.nd rfl (by first | exact Or.inl rfl | exact Or.inr rfl)) (pgs_cons (pg_name (i := 6) scLkept.nd rfl (by first | exact Or.inl rfl | exact Or.inr rfl)) pgs_nil)))
          (pss_one (ps_if (pt_cmp (pc_notN (pv 6)))
            (pss_one (ps_dput (hu_of hr) (pv 2) (pe_tup (pa_cons (pv 3) (pa_cons (pv 5) pa_nil))) (pv 6) rfl))
            pss_nil)))))
      (pss_one (ps_ret (pv 2))))), ?_⟩
    have fok : FnsOk d.fns d.base := dok.book.fns
    have n3 := fok.len3
    have b3 := fok.base3
    obtain ⟨ma, mxs, rfl, hma, hmx⟩ := im_tup hm
    have mxl : mxs.length = d.fns.length := by rw [hmx.length, List.length_map, mok.len]
    repeat walk_at "st"
    refine r_dnewT fun fd H1 nfd s1 e1 => ?_
    repeat walk_at "st"
    refine ⟨ma, mxs, rfl, .of (s1.at hma), ?_⟩
    refine for_w (walk_en (xs := mxs)) (fun i σ' H' => ∃ (kvs : List (List Key × V)) (o3 o4 o5 o6 : Option V), Same H H' ∧ H' fd = some (.dT kvs) ∧ PKs kvs ∧ (∀ k g : Nat, k < d.fns.length → g < d.base → valV kvs (pk k g) = if k < i then (mget M k g).map V.int else none) ∧
        σ' = [some pv0, some (.ref ma), some (.ref fd), o3, o4, o5, o6])
      ⟨[], none, none, none, none, s1, e1, ⟨by simp, by simp⟩, fun k g _ _ => by rw [if_neg (Nat.not_lt_zero k), valV_nil], rfl⟩ (fun i σ' H' _ ⟨kvs, o3, o4, o5, o6, z⟩ => .of (z.1.at hma)) ?_ ?_
    · rintro i x σ' H2 H3 hi ⟨kvs, o3, o4, o5, o6, s2, e2, pks, val, rfl⟩ y
      obtain ⟨Tp, a, v, rfl, s3, eT, ea, eb⟩ := ypair y
      cases ea
      have hik : i < d.fns.length := by omega
      obtain ⟨ma', xs', rb, ys, ema, hma', hmx', hk', hrb, hry⟩ := im_row mok hik (s2.im hm)
      cases ema
      have s23 := s2.trans s3
      have ex : xs' = mxs := by
        have z := s2.at hma
        rw [hma'] at z
        cases z
        rfl
      subst ex
      rw [hk'] at eb
      cases eb
      have ylen : ys.length = d.base := by
        obtain ⟨r, r1, r2, r3⟩ := mok.rowAt hik
        rw [hry.length, List.length_map, r3, r2]
      refine r_gTup (.of eT) rfl ?_
      repeat walk_at "st"
      refine ⟨rb, ys, rfl, .of (s3.at hrb), ?_⟩
      refine for_w (walk_en (xs := ys)) (fun j σ' H' => ∃ (kvs : List (List Key × V)) (o5 o6 : Option V), Same H H' ∧ H' fd = some (.dT kvs) ∧ H' rb = some (.tup ys) ∧ PKs kvs ∧ (∀ k g : Nat, k < d.fns.length → g < d.base → valV kvs (pk k g) = if k < i ∨ (k = i ∧ g < j) then (mget M k g).map V.int else none) ∧
          σ' = [some pv0, some (.ref ma), some (.ref fd), some (.int i), some (.ref rb), o5, o6])
        ⟨kvs, o5, o6, s23, s3.at e2, s3.at hrb, pks, fun k g hk hg => by
          rw [val k g hk hg]
          by_cases z : k < i
          · rw [if_pos z, if_pos (.inl z)]
          · rw [if_neg z, if_neg (fun q => q.elim z fun q => Nat.not_lt_zero _ q.2)], rfl⟩ (fun j σ' H' _ ⟨kvs, o5, o6, z⟩ => .of z.2.2.1) ?_ ?_
      · rintro j x σ' H4 H5 hj ⟨kvs2, o5, o6, s4, e4, r4, pks2, val2, rfl⟩ y
        obtain ⟨Tq, a2, v2, rfl, s5, eT2, ea2, eb2⟩ := ypair y
        cases ea2
        have cell := im_cell (g := (j : Int)) mok hik (by omega) (by omega) hry
        have e := atI_nat eb2
        rw [e] at cell
        have ev := Option.some.inj cell
        have s45 := s4.trans s5
        refine r_gTup (.of eT2) rfl ?_
        repeat walk_at "st"
        dsimp only
        cases em : mget M i j with
        | none =>
          rw [em] at ev
          obtain rfl : v2 = .non := ev
          refine t_ifN (fun Q' kk => ?_) ?_
          · repeat walk_at "st"
            exact kk
          repeat walk_at "st"
          refine ⟨kvs2, _, _, s45, s5.at e4, s5.at r4, pks2, fun k g hk hg => ?_, rfl⟩
          rw [val2 k g hk hg]
          by_cases z : k < i ∨ (k = i ∧ g < j)
          · rw [if_pos z, if_pos (z.elim .inl fun z => .inr ⟨z.1, by omega⟩)]
          · rw [if_neg z]
            by_cases z2 : k < i ∨ (k = i ∧ g < j + 1)
            · rw [if_pos z2]
              have ek : k = i ∧ g = j := by omega
              rw [ek.1, ek.2, em]
              rfl
            · rw [if_neg z2]
        | some c =>
          rw [em] at ev
          obtain rfl : v2 = .int c := ev
          refine t_ifY (fun Q' kk => ?_) ?_
          · repeat walk_at "st"
            exact kk
          repeat walk_at "st"
          refine r_newT (by show 2 ≤ sizeLine; decide) fun p6 H6 np6 s6 e6 => ?_
          have ml := pks2.len
          refine r_putT (pk i j) (s6.at (s5.at e4)) e6 (by omega) fun H7 k7 e7 => ?_
          have s7 : Same H H7 := fun b o h => k7 b o (ne_of_none h nfd) (s6 _ _ (s45 _ _ h))
          repeat walk_at "st"
          have nrf : rb ≠ fd := fun z => by
            have z2 := s6.at (s5.at r4)
            rw [z, s6.at (s5.at e4)] at z2
            cases z2
          refine ⟨_, _, _, s7, e7, k7 _ _ nrf (s6.at (s5.at r4)), pks2.put (by omega) (by omega), fun k g hk hg => ?_, rfl⟩
          rw [valV_put, val2 k g hk hg]
          by_cases ek : k = i ∧ g = j
          · rw [if_pos (pk_inj.mpr ek), if_pos (by omega), ek.1, ek.2, em]
            rfl
          · rw [if_neg (fun z => ek (pk_inj.mp z))]
            by_cases z : k < i ∨ (k = i ∧ g < j)
            · rw [if_pos z, if_pos (by omega)]
            · rw [if_neg z, if_neg (by omega)]
      · rintro σ' H4 ⟨kvs2, o5, o6, s4, e4, r4, pks2, val2, rfl⟩
        refine ⟨kvs2, _, _, _, _, s4, e4, pks2, fun k g hk hg => ?_, rfl⟩
        rw [val2 k g hk hg]
        by_cases z : k < i + 1
        · rw [if_pos z, if_pos (by omega)]
        · rw [if_neg z, if_neg (by omega)]
    · rintro σ' H2 ⟨kvs, o3, o4, o5, o6, s2, e2, pks, val, rfl⟩
      repeat walk_at "st"
      refine q (.ref fd) H2 s2 ⟨fd, kvs, rfl, e2, pks.pairs, pks.nd, fun k g hk hg => ?_⟩
      rw [val k g hk hg, if_pos (by omega)]
theorem ok_lrows (D : Df K mg "_law_rows" (top 75)) (B : Bf mg) : Cal P w K mg base "_law_rows" 1 ["parts", "kept"] spLR := by
  refine D.cal (N := ["parts", "kept", "rows", "k", "number"]) (ps := ["parts", "kept"]) scLrows (fun _ _ _ _ _ _ us hl => match us, hl with | [_, _], _ => rfl) (fun vs H Q E h => ?_) fun f cdv A outer s H vs Q E hr h => ?_
  · obtain ⟨_, _, _, _, rfl, _⟩ := h
    rfl
  · obtain ⟨pv0, dv, d, M, rfl, hp, dok, dm, mok, q⟩ := h
    refine ⟨_, (pss_cons (ps_set (i := 2) scLrows.nd rfl (by first | exact Or.inl rfl | exact Or.inr rfl) (pe_lst pa_nil))
      (pss_cons (ps_for PassesOwn.never rfl (pi_range1 (by rfl) (B _ (by decide)) (pa_cons (pe_callB c_len (by rfl) (B _ (by decide)) b_len (pa_cons (pe_dget (hu_of hr) (pv 0) pe_str (fun _ _ => rfl)) pa_nil)) pa_nil)) (pg_name (i := 3) scLrows.nd rfl (by first | exact Or.inl rfl | exact Or.inr rfl))
        (pss_one (ps_expr (pe_bm PySem.F.plainAttrs_list PySem.F.slot_list_append PySem.F.type_list_append mt_append (pv 2) (pa_cons (pe_callTy c_tup (by rfl) (B _ (by decide)) b_tuple (pa_cons (pe_lc (own := [("number", 4)]) (g := (gName 4)) (tt := tYes) rfl scLrows.nd (pi_range1 (by rfl) (B _ (by decide)) (pa_cons (pe_dget (hu_of hr) (pv 0) pe_str (fun _ _ => rfl)) pa_nil)) (blkOk_by (own := [("number", 4)]) (N := ["parts", "kept", "rows", "k", "number"]) (sc := defScope (top 75)) (by decide +kernel)) (fun _ _ _ _ _ => (pg_name (i := 4) scLrows.nd rfl (by first | exact Or.inl rfl | exact Or.inr rfl))) (fun _ _ _ _ _ => pts_nil) (fun _ _ _ _ _ => (pe_dget2 (hu_of hr) (pv 1) (pe_tup (pa_cons (pv 3) (pa_cons (pv 4) pa_nil))) pe_non ⟨rfl, rfl, rfl, rfl⟩))) pa_nil)) pa_nil)))))
      (pss_one (ps_ret (pe_callTy c_tup (by rfl) (B _ (by decide)) b_tuple (pa_cons (pv 2) pa_nil)))))), ?_⟩
    have fok : FnsOk d.fns d.base := dok.book.fns
    have n3 := fok.len3
    have b3 := fok.base3
    have szl : (1000 : Nat) ≤ sizeLine := by decide
    obtain ⟨pa, kvs, fa, fxs, rfl, hpa, kf, hfa, hfx, kb⟩ := hp.fns
    have fxl : fxs.length = d.fns.length := by rw [hfx.length, List.length_map]
    obtain ⟨da, mk, rfl, hda, dmk⟩ := dm
    repeat walk_at "st"
    refine r_newL (by show 0 ≤ sizeLine; decide) fun l H1 nl s1 el => ?_
    repeat walk_at "st"
    refine r_pget (.inr "functions") rfl (s1.at hpa) kf ?_
    repeat walk_at "st"
    refine r_lenT (.of (s1.at hfa)) fxl ?_
    repeat walk_at "st"
    refine ⟨(d.fns.length : Int), rfl, by omega, by omega, ?_⟩
    rw [Int.toNat_natCast]
    refine for_w (walk_range (n := d.fns.length)) (fun i σ' H' => ∃ (acc : List V) (o3 o4 : Option V), Same H H' ∧ H' l = some (.lst acc) ∧ ImAll H' acc ((M.take i).map encRow) ∧ σ' = [some (.ref pa), some (.ref da), some (.ref l), o3, o4])
      ⟨[], none, none, s1, el, .nil, rfl⟩ (fun _ _ _ _ _ => trivial) ?_ ?_
    · rintro i x σ' HX H2 hi ⟨acc, o3, o4, s2, e2, iacc, rfl⟩ ⟨rfl, rfl⟩
      obtain ⟨r, r1, r2, r3⟩ := mok.rowAt hi
      have al := iacc.length
      rw [List.length_map, List.length_take] at al
      repeat walk_at "st"
      refine ⟨ty_l e2, ?_⟩
      repeat walk_at "st"
      refine r_pget (.inr "base") rfl (s2.at hpa) kb ?_
      repeat walk_at "st"
      refine ⟨(d.base : Int), rfl, by omega, by omega, ?_⟩
      rw [Int.toNat_natCast]
      intro D nD
      refine lc_w (walk_range (n := d.base)) nD (fun j acc2 H' => ImAll H' acc2 ((r.take j).map encO)) (fun _ _ _ _ n z => n.ims z) (by omega) (fun _ _ => trivial) .nil (fun j x acc2 H3 H4 Kt Kf hj s3 p y kt _ => ?_) fun acc2 H5 s5 e5 al2 p => ?_
      · obtain ⟨rfl, rfl⟩ := y
        repeat walk_at "st"
        refine ⟨rfl, ?_⟩
        repeat walk_at "st"
        refine ⟨da, rfl, .inr ⟨mk, .inl ((s2.trans s3).at hda)⟩, ?_⟩
        repeat walk_at "st"
        refine r_newT (by show 2 ≤ sizeLine; decide) fun p6 H6 np6 s6 e6 => ?_
        repeat walk_at "st"
        have e6' : H6 p6 = some (.tup ((pk i j).map kV)) := by
          rw [e6]
          show some (HO.tup [V.int (0 + (i : Int)), V.int (0 + (j : Int))]) = some (HO.tup [V.int (i : Int), V.int (j : Int)])
          rw [Int.zero_add, Int.zero_add]
        refine ⟨_, DGet.t ((s2.trans s3).trans s6 |>.at hda) e6', ?_⟩
        rw [dmk.val i j hi hj]
        refine kt _ _ s6 ?_
        have hjr : j < r.length := by omega
        have nx : r.take (j + 1) = r.take j ++ [r[j]] := by
          rw [List.take_succ, List.getElem?_eq_getElem hjr]
          rfl
        have em : mget M i j = r[j] := by
          unfold mget
          rw [r3, Int.toNat_natCast, List.getD_eq_getElem?_getD, List.getElem?_eq_getElem hjr]
          rfl
        rw [nx, em]
        refine imAll_snoc (s6.ims p) ?_
        cases r[j] with
        | none => exact .non
        | some c => exact .int c
      · have rt : r.take d.base = r := List.take_of_length_le (by omega)
        rw [rt] at p
        repeat walk_at "st"
        refine r_tupL (.of e5) fun p6 H6 np6 s6 e6 => ?_
        have s26 := s5.trans s6
        repeat walk_at "st"
        refine r_append (s26.at e2) (by omega) fun H7 m7 e7 => ?_
        repeat walk_at "st"
        have nx : M.take (i + 1) = M.take i ++ [r] := by
          rw [List.take_succ, r1]
          rfl
        refine ⟨acc ++ [.ref p6], _, _, Mv.same (s2.trans s26) m7 nl, e7, ?_, rfl⟩
        rw [nx]
        exact imAll_snoc (m7.ims (s26.ims iacc)) (.tup (m7.at e6 fun _ z => by cases z) (m7.ims (s6.ims p)))
    · rintro σ' H2 ⟨acc, o3, o4, s2, e2, iacc, rfl⟩
      repeat walk_at "st"
      refine r_tupL (.of e2) fun p H3 np s3 e3 => ?_
      rw [List.take_of_length_le (by rw [mok.len]; exact Nat.le_refl _)] at iacc
      exact q p H3 (s2.trans s3) (.tup e3 (s3.ims iacc))
theorem ok_lplain {l : Nat} (D : Df K mg "_law_plainly" (top 76)) (B : Bf mg) (cLC : Cal P w K mg base "_law_calls" l ["parts", "wording", "setting", "call", "memory"] (spLC 3)) : Cal P w K mg base "_law_plainly" (l + 1) ["parts", "wording", "setting", "k", "given"] spLP := by
  refine D.cal (N := ["parts", "wording", "setting", "k", "given"]) (ps := ["parts", "wording", "setting", "k", "given"]) scLplain (fun _ _ _ _ _ _ us hl => match us, hl with | [_, _, _, _, _], _ => rfl) (fun vs H Q E h => ?_) fun f cdv A outer s H vs Q E hr h => ?_
  · obtain ⟨_, _, _, _, _, _, _, rfl, _⟩ := h
    rfl
  · obtain ⟨pv0, wv, d, wd, st, g, k, rfl, hp, dok, wok, hw, st0, st1, hk, g0, g1, q⟩ := h
    refine ⟨_, (pss_one (ps_ret (pe_ix ix_tup (pe_cal cLC hr (by omega) (pa_cons (pv 0) (pa_cons (pv 1) (pa_cons (pv 2) (pa_cons (pe_tup (pa_cons (pv 3) (pa_cons (pv 4) pa_nil))) (pa_cons pe_dnewT pa_nil)))))) pe_int (fun _ _ => rfl)))), ?_⟩
    have fok : FnsOk d.fns d.base := dok.book.fns
    have n3 := fok.len3
    repeat walk_at "st"
    refine r_newT (by show 2 ≤ sizeLine; decide) fun p1 H1 np1 s1 e1 => ?_
    repeat walk_at "st"
    refine r_dnewT fun fd H2 nfd s2 e2 => ?_
    repeat walk_at "st"
    have s12 := s1.trans s2
    refine ⟨pv0, wv, .ref fd, p1, d, wd, memE d.fns.length d.base, st, g, k, rfl, hp.isn s12.isn, dok, wok, s12.im hw, st0, st1, s2.at e1, by omega, hk, g0, g1, ⟨fd, [], rfl, e2, .nil⟩, memE_ok _ _, fun p dv' H3 s3 e3 _ => ?_⟩
    repeat walk_at "st"
    exact r_ixT (.of e3) (atI_nat (j := 0) rfl) (q _ H3 (s12.trans s3))
end
end K5
end

section
set_option maxHeartbeats 4000000
/-! LN: the law's deeds, its next scene. -/
namespace K5
open PySem PySem.Spec L2
open PyProof.Rows hiding St
local macro_rules | `(tactic| walk_at "lf") => `(tactic| first
  | assumption
  | (refine Same.im (by assumption) ?_; walk_at "lf")
  | (refine Same.ims (by assumption) ?_; walk_at "lf")
  | (refine Same.at (by assumption) ?_; walk_at "lf")
  | (refine Same.sqT (by assumption) ?_; walk_at "lf")
  | (refine Same.seq (by assumption) ?_; walk_at "lf")
  | exact SqL.of (by walk_at "lf")
  | exact SqT.of (by walk_at "lf"))
local macro_rules | `(tactic| walk_at "st") => `(tactic| first
  | ((with_reducible refine r_var (v := ?vv) ?rv ?_); (case rv => exact rfl))
  | with_reducible first
    | refine r_seq ?_
    | refine r_asg ?_
    | refine r_gName ?_
    | refine r_c ?_
    | refine r_op ?_
    | refine r_I0 ?_
    | refine r_exbl ?_
    | refine r_cb ?_
    | refine r_nil ?_
    | refine r_cons ?_
    | refine r_test ?_
    | refine r_tB ?_
    | refine r_and ?_
    | refine r_or ?_
    | refine r_not ?_
    | refine r_if ?_
    | refine r_ret ?_
    | refine r_next ?_
    | refine r_tup ?_
    | refine r_lst ?_
    | refine r_int ?_
    | refine r_exint ?_
    | refine r_sl ?_
    | refine r_part ?_
    | refine r_nopart ?_
    | refine r_par ?_
    | refine r_ex2 ?_
    | refine r_call ?_
    | refine r_un ?_
    | refine r_U ?_
    | refine r_andV ?_
    | refine r_orV ?_
    | refine r_notV ?_
    | refine r_chain ?_
    | refine r_isN ?_
    | refine r_notN ?_
    | refine r_drop ?_
    | refine r_I (by decide) ?_
    | refine r_EqI ?_
    | refine r_NeI ?_
    | refine r_EqS ?_
    | refine r_NeS ?_
    | refine r_gSub ?_
    | refine r_gCons ?_
    | refine r_gNil ?_
    | refine r_dget ?_
    | refine r_pcons ?_
    | refine r_pnil ?_
    | refine iteT ?_
    | refine iteF ?_
    | refine iteNF ?_
    | refine iteNT ?_
    | refine r_prop ?_
    | refine r_dget2 ?_
    | refine r_din ?_
    | refine r_dput ?_
    | refine r_mk ?_
    | refine r_propG ?_
    | refine r_mtd ?_
    | refine r_bm ?_
    | refine r_si ?_
    | refine r_for ?_
    | refine r_lc ?_
    | refine r_iT ?_
    | refine r_iL ?_
    | refine r_enT ?_
    | refine r_zip ?_
    | refine r_zs ?_
    | refine r_iR1 ?_
    | refine r_yes ?_
    | refine r_fld ?_
    | refine r_star1 ?_
    | refine r_ctE ?_
    | refine r_div (by decide) (by decide) ?_
    | refine r_mulL (by decide) (by decide) ?_
    | refine r_mulR (by decide) (by decide) ?_)
local macro_rules | `(tactic| walk_at "tq") => `(tactic| ((repeat walk_at "st"); first
  | assumption
  | (refine q_decT (by omega) (by assumption))
  | (refine q_decF (by omega) (by assumption))
  | (refine q_nT (by omega) (by assumption))
  | (refine q_nF (by omega) (by assumption))
  | (refine ite_dec (fun _ => ?_) (fun _ => ?_) <;> first | (exfalso; omega) | walk_at "tq")
  | (refine ite_ndec (fun _ => ?_) (fun _ => ?_) <;> first | (exfalso; omega) | walk_at "tq")))
def spLD : Sp := fun vs H Q _ => ∃ (pv : V) (d : PD), vs = [pv] ∧ PartsAt H pv d ∧ PDOk d ∧ ∀ l (ds : List Dd) xs H', Same H H' → H' l = some (.lst xs) → ImAll H' xs (ds.map encD) → ds ≠ [] → ds.length ≤ 1000 → (∀ x ∈ ds, DdOk d.book d.free x) → Q (.ref l) H'
theorem scLdeeds : FnScope ["parts", "found", "k", "number", "b"] ["parts"] (defScope (top 77)) := ⟨rfl, rfl, rfl, by decide +kernel, rfl, by decide +kernel, by decide +kernel⟩
theorem r_catA {K : PySem.W.Frag} {H : Hp} {Q : VK} {a b : Addr} {xs ys : List V} (ha : H a = some (.tup xs)) (hb : H b = some (.tup ys)) (hz : xs.length + ys.length ≤ 100000) (q : ∀ p H', Same H H' → H' p = some (.tup (xs ++ ys)) → Q (.ref p) H') : rCatA K (.ref a) (.ref b) H Q := by
  have e : (100000 : Nat) ≤ sizeLine := by decide
  refine ⟨a, b, xs, ys, rfl, rfl, .of ha, .of hb, by omega, fun z => ?_, fun _ z => ?_, fun _ _ p hp => q p _ (same_upd hp) upd_same⟩
  · subst z
    exact q b H (fun _ _ e => e) hb
  · subst z
    exact q a H (fun _ _ e => e) (by rw [List.append_nil]; exact ha)
section
variable {P : Program} {w : World} {K : PySem.W.Frag} {mg : Str → Option Value} {base : Heap}
theorem ok_ldeeds (D : Df K mg "_law_scene_deeds" (top 77)) (B : Bf mg) : Cal P w K mg base "_law_scene_deeds" 1 ["parts"] spLD := by
  refine D.cal (N := ["parts", "found", "k", "number", "b"]) (ps := ["parts"]) scLdeeds (fun _ _ _ _ _ _ us hl => match us, hl with | [_], _ => rfl) (fun vs H Q E h => ?_) fun f cdv A outer s H vs Q E hr h => ?_
  · obtain ⟨_, _, rfl, _⟩ := h
    rfl
  · obtain ⟨pv0, d, rfl, hp, dok, q⟩ := h
    refine ⟨_, (pss_cons (ps_set (i := 1) scLdeeds.nd rfl (by first | exact Or.inl rfl | exact Or.inr rfl) (pe_lst pa_nil))
      (pss_cons (ps_for PassesOwn.never rfl (pi_range1 (by rfl) (B _ (by decide)) (pa_cons (pe_callB c_len (by rfl) (B _ (by decide)) b_len (pa_cons (pe_dget (hu_of hr) (pv 0) pe_str (fun _ _ => rfl)) pa_nil)) pa_nil)) (pg_name (i := 2) scLdeeds.nd rfl (by first | exact Or.inl rfl | exact Or.inr rfl))
        (pss_one (ps_set (i := 1) scLdeeds.nd rfl (by first | exact Or.inl rfl | exact Or.inr rfl) (pe_op op_cat (pv 1) (pe_lc (own := [("number", 3)]) (g := (gName 3)) (tt := tYes) rfl scLdeeds.nd (pi_range1 (by rfl) (B _ (by decide)) (pa_cons (pe_dget (hu_of hr) (pv 0) pe_str (fun _ _ => rfl)) pa_nil)) (blkOk_by (own := [("number", 3)]) (N := ["parts", "found", "k", "number", "b"]) (sc := defScope (top 77)) (by decide +kernel)) (fun _ _ _ _ _ => (pg_name (i := 3) scLdeeds.nd rfl (by first | exact Or.inl rfl | exact Or.inr rfl))) (fun _ _ _ _ _ => pts_nil) (fun _ _ _ _ _ => (pe_tup (pa_cons pe_str (pa_cons (pv 2) (pa_cons (pv 3) pa_nil))))))))))
      (pss_cons (ps_for PassesOwn.never rfl (pi_tup (pe_dget (hu_of hr) (pv 0) pe_str (fun _ _ => rfl))) (pg_name (i := 2) scLdeeds.nd rfl (by first | exact Or.inl rfl | exact Or.inr rfl))
        (pss_one (ps_set (i := 1) scLdeeds.nd rfl (by first | exact Or.inl rfl | exact Or.inr rfl) (pe_op op_cat (pv 1) (pe_lc (own := [("b", 4)]) (g := (gName 4)) (tt := tYes) rfl scLdeeds.nd (pi_range1 (by rfl) (B _ (by decide)) (pa_cons (pe_callB c_len (by rfl) (B _ (by decide)) b_len (pa_cons (pe_ix ix_tup (pe_dget (hu_of hr) (pv 0) pe_str (fun _ _ => rfl)) (pv 2) (fun _ _ => rfl)) pa_nil)) pa_nil)) (blkOk_by (own := [("b", 4)]) (N := ["parts", "found", "k", "number", "b"]) (sc := defScope (top 77)) (by decide +kernel)) (fun _ _ _ _ _ => (pg_name (i := 4) scLdeeds.nd rfl (by first | exact Or.inl rfl | exact Or.inr rfl))) (fun _ _ _ _ _ => pts_nil) (fun _ _ _ _ _ => (pe_tup (pa_cons pe_str (pa_cons (pv 2) (pa_cons (pv 4) pa_nil))))))))))
      (pss_one (ps_ret (pv 1)))))), ?_⟩
    have fok : FnsOk d.fns d.base := dok.book.fns
    have n1 := fok.len1
    have n3 := fok.len3
    have b2 := fok.base2
    have b3 := fok.base3
    obtain ⟨pa, kvs, fv, tv, fr, wr, av, rfl, hpa, kb, k2, kf, k4, k5, k6, k7, k8, i1, i2, i3, i4, i5⟩ := hp.ex
    obtain ⟨fa, fxs, rfl, hfa, hfx⟩ := im_tup i1
    have fxl : fxs.length = d.fns.length := by rw [hfx.length, List.length_map]
    obtain ⟨fra, frx, rfl, hfr, ifr⟩ := im_tup i3
    obtain rfl := ints_of ifr
    repeat walk_at "st"
    refine r_newL (by show 0 ≤ sizeLine; decide) fun l0 H1 nl s1 el => ?_
    repeat walk_at "st"
    refine r_pget (.inr "functions") rfl (s1.at hpa) kf ?_
    repeat walk_at "st"
    refine r_lenT (.of (s1.at hfa)) fxl ?_
    repeat walk_at "st"
    refine ⟨(d.fns.length : Int), rfl, by omega, by omega, ?_⟩
    rw [Int.toNat_natCast]
    refine for_w (walk_range (n := d.fns.length)) (fun i σ' H' => ∃ (l : Addr) (acc : List V) (ds : List Dd) (o2 o3 o4 : Option V), Same H H' ∧ H' l = some (.lst acc) ∧ ImAll H' acc (ds.map encD) ∧ ds.length ≤ 3 * i ∧ (0 < i → ds ≠ []) ∧ (∀ x ∈ ds, DdOk d.book d.free x) ∧ σ' = [some (.ref pa), some (.ref l), o2, o3, o4])
      ⟨l0, [], [], none, none, none, s1, el, .nil, Nat.le_refl _, fun z => absurd z (Nat.lt_irrefl 0), by simp, rfl⟩ (fun _ _ _ _ _ => trivial) ?_ ?_
    · rintro i x σ' HX H2 hi ⟨l, acc, ds, o2, o3, o4, s2, e2, iacc, dl, dn, dk, rfl⟩ ⟨rfl, rfl⟩
      have al := iacc.length
      rw [List.length_map] at al
      repeat walk_at "st"
      refine r_pget (.inr "base") rfl (s2.at hpa) kb ?_
      repeat walk_at "st"
      refine ⟨(d.base : Int), rfl, by omega, by omega, ?_⟩
      rw [Int.toNat_natCast]
      intro D nD
      refine lc_w (walk_range (n := d.base)) nD (fun j acc2 H' => ImAll H' acc2 (((List.range j).map fun g => Dd.ask i (g : Nat)).map encD)) (fun _ _ _ _ n z => n.ims z) (by omega) (fun _ _ => trivial) .nil (fun j x acc2 H3 H4 Kt Kf hj s3 p y kt _ => ?_) fun acc2 H5 s5 e5 al2 p => ?_
      · obtain ⟨rfl, rfl⟩ := y
        repeat walk_at "st"
        refine ⟨rfl, ?_⟩
        repeat walk_at "st"
        refine r_newT (by show 3 ≤ sizeLine; decide) fun p6 H6 np6 s6 e6 => ?_
        refine kt _ _ s6 ?_
        rw [List.range_succ, List.map_append]
        refine imAll_snoc (f := encD) (x := .ask i (j : Nat)) (s6.ims p) (.tup (xs := [.str "ask", .int i, .int j]) ?_ (.cons (.str _) (.cons (.int _) (.cons (.int _) .nil))))
        rw [e6]
        show some (HO.tup [V.str "ask", .int (0 + (i : Int)), .int (0 + (j : Int))]) = _
        rw [Int.zero_add, Int.zero_add]
      · have pl := p.length
        rw [List.length_map, List.length_map, List.length_range] at pl
        refine r_cat (s5.at e2) e5 (by omega) fun p6 H6 s6 e6 => ?_
        repeat walk_at "st"
        refine ⟨p6, acc ++ acc2, ds ++ _, _, _, _, (s2.trans s5).trans s6, e6, by rw [List.map_append]; exact (s6.ims (s5.ims iacc)).app (s6.ims p), ?_, fun _ z => ?_, fun x hx => ?_, rfl⟩
        · rw [List.length_append, List.length_map, List.length_range]
          omega
        · have := congrArg List.length z
          rw [List.length_append, List.length_map, List.length_range] at this
          simp at this
          omega
        · rcases List.mem_append.mp hx with z | z
          · exact dk x z
          · obtain ⟨g, hg, rfl⟩ := List.mem_map.mp z
            have := List.mem_range.mp hg
            exact ⟨hi, by omega, by show (g : Int) < d.base; omega⟩
    · rintro σ' H2 ⟨l, acc, ds, o2, o3, o4, s2, e2, iacc, dl, dn, dk, rfl⟩
      repeat walk_at "st"
      refine r_pget (.inr "free") rfl (s2.at hpa) k6 ?_
      refine ⟨fra, rfl, ⟨_, .of (s2.at hfr)⟩, ?_⟩
      have flen := dok.free.short
      refine for_w (walk_tup (xs := d.free.map nI)) (fun i σ' H' => ∃ (l : Addr) (acc : List V) (ds : List Dd) (o2 o3 o4 : Option V), Same H H' ∧ H' l = some (.lst acc) ∧ ImAll H' acc (ds.map encD) ∧ ds.length ≤ 9 + 3 * i ∧ ds ≠ [] ∧ (∀ x ∈ ds, DdOk d.book d.free x) ∧ σ' = [some (.ref pa), some (.ref l), o2, o3, o4])
        ⟨l, acc, ds, o2, o3, o4, s2, e2, iacc, by omega, dn (by omega), dk, rfl⟩ (fun i σ' H' _ ⟨l, acc, ds, o2, o3, o4, z⟩ => .of (z.1.at hfr)) ?_ ?_
      · rintro i x σ' HX H3 hi ⟨l, acc, ds, o2, o3, o4, s3, e3, iacc, dl, dn, dk, rfl⟩ ⟨rfl, ex⟩
        rw [List.getElem?_map] at ex
        obtain ⟨k, hk, rfl⟩ := Option.map_eq_some_iff.mp ex
        have kf2 := List.mem_of_getElem? hk
        have klt := dok.free.low k kf2
        have er := List.getElem?_eq_getElem klt
        obtain ⟨rv, hrv, irv⟩ := hfx.get (i := k) (d := encB d.fns[k]) (by rw [List.getElem?_map, er]; rfl)
        obtain ⟨ra, rxs, rfl, hra, hrx⟩ := im_tup irv
        have rl : rxs.length = d.fns[k].length := by rw [hrx.length, List.length_map]
        have r3 := fok.row3 _ (List.mem_of_getElem? er)
        have al := iacc.length
        rw [List.length_map] at al
        have il : i < d.free.length := by rw [List.length_map] at hi; exact hi
        repeat walk_at "st"
        refine r_pget (.inr "functions") rfl (s3.at hpa) kf ?_
        repeat walk_at "st"
        refine r_ixT (i := (k : Int)) (.of (s3.at hfa)) (atI_nat hrv) ?_
        repeat walk_at "st"
        refine r_lenT (.of (s3.at hra)) rl ?_
        repeat walk_at "st"
        refine ⟨(d.fns[k].length : Int), rfl, by omega, by omega, ?_⟩
        rw [Int.toNat_natCast]
        intro D nD
        refine lc_w (walk_range (n := d.fns[k].length)) nD (fun j acc2 H' => ImAll H' acc2 (((List.range j).map fun b => Dd.put k b).map encD)) (fun _ _ _ _ n z => n.ims z) (by omega) (fun _ _ => trivial) .nil (fun j x acc2 H4 H5 Kt Kf hj s4 p y kt _ => ?_) fun acc2 H5 s5 e5 al2 p => ?_
        · obtain ⟨rfl, rfl⟩ := y
          repeat walk_at "st"
          refine ⟨rfl, ?_⟩
          repeat walk_at "st"
          refine r_newT (by show 3 ≤ sizeLine; decide) fun p6 H6 np6 s6 e6 => ?_
          refine kt _ _ s6 ?_
          rw [List.range_succ, List.map_append]
          refine imAll_snoc (f := encD) (x := .put k j) (s6.ims p) (.tup (xs := [.str "put", .int k, .int j]) ?_ (.cons (.str _) (.cons (.int _) (.cons (.int _) .nil))))
          rw [e6]
          show some (HO.tup [V.str "put", .int (k : Int), .int (0 + (j : Int))]) = _
          rw [Int.zero_add]
        · have pl := p.length
          rw [List.length_map, List.length_map, List.length_range] at pl
          refine r_cat (s5.at e3) e5 (by omega) fun p6 H6 s6 e6 => ?_
          repeat walk_at "st"
          refine ⟨p6, acc ++ acc2, ds ++ _, _, _, _, (s3.trans s5).trans s6, e6, by rw [List.map_append]; exact (s6.ims (s5.ims iacc)).app (s6.ims p), ?_, fun z => dn (List.append_eq_nil_iff.mp z).1, fun x hx => ?_, rfl⟩
          · rw [List.length_append, List.length_map, List.length_range]
            omega
          · rcases List.mem_append.mp hx with z | z
            · exact dk x z
            · obtain ⟨b, hb, rfl⟩ := List.mem_map.mp z
              have := List.mem_range.mp hb
              refine ⟨klt, kf2, ?_⟩
              show b < (d.fns.getD k []).length
              rw [List.getD_eq_getElem?_getD, er]
              exact this
      · rintro σ' H3 ⟨l, acc, ds, o2, o3, o4, s3, e3, iacc, dl, dn, dk, rfl⟩
        rw [List.length_map] at dl
        repeat walk_at "st"
        exact q l ds acc H3 s3 e3 iacc dn (by omega) dk
end
end K5
end

section
set_option maxHeartbeats 4000000
/-! LO: the law's next scene. -/
namespace K5
open PySem PySem.Spec L2
open PyProof.Rows hiding St
theorem op_repAK {X : Cx} {K : PySem.W.Frag} (h : X.K = K) : OpR X (binaryOp .Mult) (rRepA K) := h ▸ op_repA
local macro_rules | `(tactic| walk_at "lf") => `(tactic| first
  | assumption
  | (refine Same.im (by assumption) ?_; walk_at "lf")
  | (refine Same.ims (by assumption) ?_; walk_at "lf")
  | (refine Same.at (by assumption) ?_; walk_at "lf")
  | (refine Same.sqT (by assumption) ?_; walk_at "lf")
  | (refine Same.seq (by assumption) ?_; walk_at "lf")
  | exact SqL.of (by walk_at "lf")
  | exact SqT.of (by walk_at "lf"))
local macro_rules | `(tactic| walk_at "st") => `(tactic| first
  | ((with_reducible refine r_var (v := ?vv) ?rv ?_); (case rv => exact rfl))
  | with_reducible first
    | refine r_seq ?_
    | refine r_asg ?_
    | refine r_gName ?_
    | refine r_c ?_
    | refine r_op ?_
    | refine r_I0 ?_
    | refine r_exbl ?_
    | refine r_cb ?_
    | refine r_nil ?_
    | refine r_cons ?_
    | refine r_test ?_
    | refine r_tB ?_
    | refine r_and ?_
    | refine r_or ?_
    | refine r_not ?_
    | refine r_if ?_
    | refine r_ret ?_
    | refine r_next ?_
    | refine r_tup ?_
    | refine r_lst ?_
    | refine r_int ?_
    | refine r_exint ?_
    | refine r_sl ?_
    | refine r_part ?_
    | refine r_nopart ?_
    | refine r_par ?_
    | refine r_ex2 ?_
    | refine r_call ?_
    | refine r_un ?_
    | refine r_U ?_
    | refine r_andV ?_
    | refine r_orV ?_
    | refine r_notV ?_
    | refine r_chain ?_
    | refine r_isN ?_
    | refine r_notN ?_
    | refine r_drop ?_
    | refine r_I (by decide) ?_
    | refine r_EqI ?_
    | refine r_NeI ?_
    | refine r_EqS ?_
    | refine r_NeS ?_
    | refine r_gSub ?_
    | refine r_gCons ?_
    | refine r_gNil ?_
    | refine r_dget ?_
    | refine r_pcons ?_
    | refine r_pnil ?_
    | refine iteT ?_
    | refine iteF ?_
    | refine iteNF ?_
    | refine iteNT ?_
    | refine r_prop ?_
    | refine r_dget2 ?_
    | refine r_din ?_
    | refine r_dput ?_
    | refine r_mk ?_
    | refine r_propG ?_
    | refine r_mtd ?_
    | refine r_bm ?_
    | refine r_si ?_
    | refine r_for ?_
    | refine r_lc ?_
    | refine r_iT ?_
    | refine r_iL ?_
    | refine r_enT ?_
    | refine r_zip ?_
    | refine r_zs ?_
    | refine r_iR1 ?_
    | refine r_yes ?_
    | refine r_fld ?_
    | refine r_star1 ?_
    | refine r_ctE ?_
    | refine r_div (by decide) (by decide) ?_
    | refine r_mulL (by decide) (by decide) ?_
    | refine r_mulR (by decide) (by decide) ?_)
local macro_rules | `(tactic| walk_at "tq") => `(tactic| ((repeat walk_at "st"); first
  | assumption
  | (refine q_decT (by omega) (by assumption))
  | (refine q_decF (by omega) (by assumption))
  | (refine q_nT (by omega) (by assumption))
  | (refine q_nF (by omega) (by assumption))
  | (refine ite_dec (fun _ => ?_) (fun _ => ?_) <;> first | (exfalso; omega) | walk_at "tq")
  | (refine ite_ndec (fun _ => ?_) (fun _ => ?_) <;> first | (exfalso; omega) | walk_at "tq")))
def spLN : Sp := fun vs H Q _ => ∃ (pv rv sv dv : V) (d : PD) (wd : List Nat) (M : Mem) (rl : List (Nat × Nat)) (st : Int) (dd : Dd), vs = [pv, .int st, rv, sv, dv] ∧ PartsAt H pv d ∧ PDOk d ∧ 0 ≤ st ∧ st < d.settings ∧ RuleOk d.fns.length rl ∧ Im H rv (encR rl) ∧ WdOk d.fns wd ∧ MemOk d.fns.length d.base M ∧
  Im H sv (encS wd M) ∧ DdOk d.book d.free dd ∧ Im H dv (encD dd) ∧ ∀ p b H', Same H H' → Im H' (.ref p) (.tuple [encS (aft d.book st rl wd M dd).1.1 (aft d.book st rl wd M dd).1.2, encO (aft d.book st rl wd M dd).2, .bool b]) → Q (.ref p) H'
theorem scLnext : FnScope ["parts", "setting", "rule", "scene", "deed", "wording", "memory", "word", "one", "other", "number", "kept", "is_old", "late", "rows", "k", "row"] ["parts", "setting", "rule", "scene", "deed"] (defScope (top 78)) := ⟨rfl, rfl, rfl, by decide +kernel, rfl, by decide +kernel, by decide +kernel⟩
section
variable {P : Program} {w : World} {K : PySem.W.Frag} {mg : Str → Option Value} {base : Heap}
theorem ok_lnext (D : Df K mg "_law_next" (top 78)) (B : Bf mg) (cLC : Cal P w K mg base "_law_calls" 23 ["parts", "wording", "setting", "call", "memory"] (spLC 3)) (cLP : Cal P w K mg base "_law_plainly" 24 ["parts", "wording", "setting", "k", "given"] spLP) (cLK : Cal P w K mg base "_law_kept" 1 ["parts", "memory"] spLK) (cLR : Cal P w K mg base "_law_rows" 1 ["parts", "kept"] spLR) :
    Cal P w K mg base "_law_next" 25 ["parts", "setting", "rule", "scene", "deed"] spLN := by
  refine D.cal (N := ["parts", "setting", "rule", "scene", "deed", "wording", "memory", "word", "one", "other", "number", "kept", "is_old", "late", "rows", "k", "row"]) (ps := ["parts", "setting", "rule", "scene", "deed"]) scLnext (fun _ _ _ _ _ _ us hl => match us, hl with | [_, _, _, _, _], _ => rfl) (fun vs H Q E h => ?_) fun f cdv A outer s H vs Q E hr h => ?_
  · obtain ⟨_, _, _, _, _, _, _, _, _, _, rfl, _⟩ := h
    rfl
  · obtain ⟨pv0, rv, sv, dv, d, wd, M, rl, st, dd, rfl, hp, dok, st0, st1, rok, hrl, wok, mok, hs, ddok, hd, q⟩ := h
    refine ⟨_, (pss_cons (ps_asg (pe_tup (pa_cons (pv 3) (pa_cons (pv 4) pa_nil))) (pg_tup rfl (pgs_cons (pg_tup rfl (pgs_cons (pg_name (i := 5) scLnext.nd rfl (by first | exact Or.inl rfl | exact Or.inr rfl)) (pgs_cons (pg_name (i := 6) scLnext.nd rfl (by first | exact Or.inl rfl | exact Or.inr rfl)) pgs_nil))) (pgs_cons (pg_tup rfl (pgs_cons (pg_name (i := 7) scLnext.nd rfl (by first | exact Or.inl rfl | exact Or.inr rfl)) (pgs_cons (pg_name (i := 8) scLnext.nd rfl (by first | exact Or.inl rfl | exact Or.inr rfl)) (pgs_cons (pg_name (i := 9) scLnext.nd rfl (by first | exact Or.inl rfl | exact Or.inr rfl)) pgs_nil)))) pgs_nil))))
      (pss_cons (ps_if (pt_cmpR op_eq (pv 7) pe_str (nomark _))
        (pss_cons (ps_asg (pe_cal cLC hr (by omega) (pa_cons (pv 0) (pa_cons (pv 5) (pa_cons (pv 1) (pa_cons (pe_tup (pa_cons (pv 8) (pa_cons (pv 9) pa_nil))) (pa_cons (pe_cal cLK hr (by omega) (pa_cons (pv 0) (pa_cons (pv 6) pa_nil))) pa_nil)))))) (pg_tup rfl (pgs_cons (pg_name (i := 10) scLnext.nd rfl (by first | exact Or.inl rfl | exact Or.inr rfl)) (pgs_cons (pg_name (i := 11) scLnext.nd rfl (by first | exact Or.inl rfl | exact Or.inr rfl)) pgs_nil))))
        (pss_cons (ps_set (i := 12) scLnext.nd rfl (by first | exact Or.inl rfl | exact Or.inr rfl) (pe_cmpR op_ne (pv 10) (pe_cal cLP hr (by omega) (pa_cons (pv 0) (pa_cons (pv 5) (pa_cons (pv 1) (pa_cons (pv 8) (pa_cons (pv 9) pa_nil)))))) (nomark _)))
        (pss_one (ps_ret (pe_tup (pa_cons (pe_tup (pa_cons (pv 5) (pa_cons (pe_cal cLR hr (by omega) (pa_cons (pv 0) (pa_cons (pv 11) pa_nil))) pa_nil))) (pa_cons (pv 10) (pa_cons (pv 12) pa_nil))))))))
        pss_nil)
      (pss_cons (ps_set (i := 13) scLnext.nd rfl (by first | exact Or.inl rfl | exact Or.inr rfl) (pe_op op_catA (pe_op op_catA (pe_slice sl_tupA (pv 5) po_none (po_some (pv 8))) (pe_tup (pa_cons (pv 9) pa_nil))) (pe_slice sl_tupA (pv 5) (po_some (pe_op op_add (pv 8) pe_int)) po_none)))
      (pss_cons (ps_setLc (i := 14) (own := [("k", 15), ("row", 16)]) (g := (gTup _ 2 (gCons (gName 15) (gCons (gName 16) gNil)))) (tt := tYes) rfl scLnext.nd rfl rfl (sw_true rfl rfl rfl (by decide +kernel)) (pi_enumT (by rfl) (B _ (by decide)) (pa_cons (pv 6) pa_nil)) (blkOk_by (own := [("k", 15), ("row", 16)]) (N := ["parts", "setting", "rule", "scene", "deed", "wording", "memory", "word", "one", "other", "number", "kept", "is_old", "late", "rows", "k", "row"]) (sc := defScope (top 78)) (by decide +kernel)) (fun _ _ _ _ _ => (pg_tup rfl (pgs_cons (pg_name (i := 15) scLnext.nd rfl (by first | exact Or.inl rfl | exact Or.inr rfl)) (pgs_cons (pg_name (i := 16) scLnext.nd rfl (by first | exact Or.inl rfl | exact Or.inr rfl)) pgs_nil)))) (fun _ _ _ _ _ => pts_nil) (fun _ _ _ _ _ => (pe_ifExp (pt_cmpR (op_inTDK (K := K) rfl (u65 hr)) (pe_tup (pa_cons (pv 8) (pa_cons (pv 15) pa_nil))) (pv 2) (by with_unfolding_all rfl)) (pe_op (op_repAK (K := K) rfl) (pe_tup (pa_cons pe_non pa_nil)) (pe_dget (hu_of hr) (pv 0) pe_str (fun _ _ => rfl))) (pv 16))))
      (pss_one (ps_ret (pe_tup (pa_cons (pe_tup (pa_cons (pv 13) (pa_cons (pe_callTy c_tup (by rfl) (B _ (by decide)) b_tuple (pa_cons (pv 14) pa_nil)) pa_nil))) (pa_cons pe_non (pa_cons pe_bl pa_nil)))))))))), ?_⟩
    have fok : FnsOk d.fns d.base := dok.book.fns
    have n3 := fok.len3
    have b2 := fok.base2
    have b3 := fok.base3
    have sB : d.settings ≤ d.base := dok.book.setB
    obtain ⟨sa, sxs, rfl, hsa, hsx⟩ := im_tup hs
    cases hsx with
    | cons i1 r1 =>
    cases r1 with
    | cons i2 r2 =>
    cases r2
    obtain ⟨da, dxs, rfl, hda, hdx⟩ : ∃ a xs, dv = .ref a ∧ H a = some (.tup xs) ∧ xs = (match dd with | .ask k g => [V.str "ask", .int (k : Int), .int g] | .put k b => [V.str "put", .int (k : Int), .int (b : Int)]) := by
      cases dd with
      | ask k g =>
        obtain ⟨da, dxs, rfl, hda, hdx⟩ := im_tup hd
        cases hdx with
        | cons j1 r1 =>
        cases j1
        cases r1 with
        | cons j2 r2 =>
        cases j2
        cases r2 with
        | cons j3 r3 =>
        cases j3
        cases r3
        exact ⟨_, _, rfl, hda, rfl⟩
      | put k b =>
        obtain ⟨da, dxs, rfl, hda, hdx⟩ := im_tup hd
        cases hdx with
        | cons j1 r1 =>
        cases j1
        cases r1 with
        | cons j2 r2 =>
        cases j2
        cases r2 with
        | cons j3 r3 =>
        cases j3
        cases r3
        exact ⟨_, _, rfl, hda, rfl⟩
    subst hdx
    obtain ⟨pa, kvs, fa, fxs, rfl, hpa, kf, hfa, hfx, kb⟩ := hp.fns
    repeat walk_at "st"
    refine r_newT (by show 2 ≤ sizeLine; decide) fun p1 H1 np1 s1 e1 => ?_
    refine r_gTup (.of e1) rfl ?_
    repeat walk_at "st"
    refine r_gTup (.of (s1.at hsa)) rfl ?_
    repeat walk_at "st"
    cases dd with
    | ask k g =>
      obtain ⟨k1, g0, g1⟩ := ddok
      have k1 : k < d.fns.length := k1
      have g1 : g < d.base := g1
      refine r_gTup (.of (s1.at hda)) rfl ?_
      repeat walk_at "st"
      refine t_ifY (fun Q' kk => ?_) ?_
      · repeat walk_at "st"
        exact q_decT rfl kk
      repeat walk_at "st"
      refine r_newT (by show 2 ≤ sizeLine; decide) fun p2 H2 np2 s2 e2 => ?_
      repeat walk_at "st"
      have s12 := s1.trans s2
      refine ⟨.ref pa, _, d, M, rfl, dok, s12.im i2, mok, fun kv H3 s3 dm3 => ?_⟩
      repeat walk_at "st"
      have s13 := s12.trans s3
      refine ⟨.ref pa, _, kv, p2, d, wd, M, st, g, k, rfl, hp.isn s13.isn, dok, wok, s13.im i1, st0, by omega, s3.at e2, by omega, k1, g0, g1, dm3, mok, fun p4 dv4 H4 s4 e4 dm4 => ?_⟩
      have v0 := evC_ok fok wok st0 (by omega) 3 k g M (by omega) k1 g0 g1 mok
      have s14 := s13.trans s4
      refine r_gTup (.of e4) rfl ?_
      repeat walk_at "st"
      refine ⟨.ref pa, _, d, wd, st, g, k, rfl, hp.isn s14.isn, dok, wok, s14.im i1, st0, by omega, k1, g0, g1, fun x H5 s5 => ?_⟩
      have s15 := s14.trans s5
      repeat walk_at "st"
      refine ⟨.ref pa, dv4, d, _, rfl, hp.isn s15.isn, dok, dm4.isn s5.isn, v0.2.2, fun p6 H6 s6 i6 => ?_⟩
      repeat walk_at "st"
      refine r_newT (by show 2 ≤ sizeLine; decide) fun p7 H7 np7 s7 e7 => ?_
      repeat walk_at "st"
      refine r_newT (by show 3 ≤ sizeLine; decide) fun p8 H8 np8 s8 e8 => ?_
      have s18 := ((s15.trans s6).trans s7).trans s8
      exact q p8 _ H8 s18 (.tup e8 (.cons (.tup (s8.at e7) (.cons (s18.im i1) (.cons ((s7.trans s8).im i6) .nil))) (.cons (.int _) (.cons (.bl _) .nil))))
    | put k b =>
      obtain ⟨k1, kf, bl⟩ := ddok
      have k1 : k < d.fns.length := k1
      refine r_gTup (.of (s1.at hda)) rfl ?_
      repeat walk_at "st"
      refine t_ifN (fun Q' kk => ?_) ?_
      · repeat walk_at "st"
        exact q_decF (by decide) kk
      obtain ⟨wa, wxs, rfl, hwa, hwx⟩ := im_tup i1
      obtain ⟨ma, mxs, rfl, hma, hmx⟩ := im_tup i2
      have wl : wxs.length = d.fns.length := by rw [hwx.length, List.length_map, wok.len]
      have ml : mxs.length = d.fns.length := by rw [hmx.length, List.length_map, mok.len]
      repeat walk_at "st"
      refine r_slT (s1.at hwa) fun p2 H2 s2 e2 => ?_
      rw [cut_take _ (k : Int) k rfl] at e2
      repeat walk_at "st"
      refine r_newT (by show 1 ≤ sizeLine; decide) fun p3 H3 np3 s3 e3 => ?_
      refine r_catA (s3.at e2) e3 (by rw [List.length_take]; show _ + 1 ≤ _; omega) fun p4 H4 s4 e4 => ?_
      have s14 := ((s1.trans s2).trans s3).trans s4
      repeat walk_at "st"
      refine r_slT (s14.at hwa) fun p5 H5 s5 e5 => ?_
      rw [cut_drop _ ((k : Int) + 1) (k + 1) rfl] at e5
      refine r_catA (s5.at e4) e5 (by rw [List.length_append, List.length_take, List.length_drop]; show _ + 1 + _ ≤ _; omega) fun p6 H6 s6 e6 => ?_
      have s16 := (s14.trans s5).trans s6
      repeat walk_at "st"
      have hma6 := s16.at hma
      refine ⟨ma, mxs, rfl, .of hma6, fun D nD => ?_⟩
      refine lc_w (walk_en (xs := mxs)) nD (fun i acc H' => ImAll H' acc (((forget rl d.base k M).map encRow).take i)) (fun i acc Ha Hb n z => n.ims z) (by omega) (fun H' s => .of (s.at hma6)) .nil (fun i x acc Ha Hb Kt Kf hi sa ia y kt _ => ?_) fun acc H7 s7 e7 al i7 => ?_
      · obtain ⟨Tp, a, r, rfl, sb, eT, ea, eb⟩ := ypair y
        cases ea
        obtain ⟨dd, hdd, ir⟩ := hmx.get' eb
        rw [List.getElem?_map] at hdd
        obtain ⟨rr, hrr, rfl⟩ := Option.map_eq_some_iff.mp hdd
        have nx : ((forget rl d.base k M).map encRow).take (i + 1) = ((forget rl d.base k M).map encRow).take i ++ [encRow (if (k, i) ∈ rl then List.replicate d.base none else rr)] := by
          rw [List.take_succ, List.getElem?_map]
          unfold forget
          rw [List.getElem?_mapIdx, hrr]
          rfl
        have s1b := (s16.trans sa).trans sb
        refine r_gTup (.of eT) rfl ?_
        repeat walk_at "st"
        refine ⟨rfl, ?_⟩
        repeat walk_at "st"
        refine r_newT (by show 2 ≤ sizeLine; decide) fun p8 H8 np8 s8 e8 => ?_
        have s18 := s1b.trans s8
        repeat walk_at "st"
        refine r_inTD (d := encP (k, i)) (.tup e8 (.cons (.int _) (.cons (.int _) .nil))) (s18.im hrl) (shaped_encP _) (shaped_encR rl) ?_
        rw [any_encP]
        repeat walk_at "st"
        have sa8 := sb.trans s8
        refine ite_dec (fun z => ?_) fun z => ?_
        · repeat walk_at "st"
          refine r_newT (by show 1 ≤ sizeLine; decide) fun p9 H9 np9 s9 e9 => ?_
          repeat walk_at "st"
          refine r_pget (.inr "base") rfl ((s18.trans s9).at hpa) kb ?_
          refine r_rep1 d.base e9 (by omega) (by omega) rfl fun p10 H10 s10 e10 => ?_
          rw [if_pos z] at nx
          have sa10 := (sa8.trans s9).trans s10
          refine kt _ _ sa10 ?_
          rw [nx]
          refine (sa10.ims ia).app (.cons ?_ .nil)
          rw [encRow_rep]
          exact .tup e10 (imAll_rep .non _)
        · repeat walk_at "st"
          rw [if_neg z] at nx
          refine kt _ _ sa8 ?_
          rw [nx]
          exact (sa8.ims ia).app (.cons (s18.im ir) .nil)
      · repeat walk_at "st"
        refine r_tupL (.of e7) fun p8 H8 np8 s8 e8 => ?_
        repeat walk_at "st"
        refine r_newT (by show 2 ≤ sizeLine; decide) fun p9 H9 np9 s9 e9 => ?_
        repeat walk_at "st"
        refine r_newT (by show 3 ≤ sizeLine; decide) fun pz Hz npz sz ez => ?_
        have s7z := (s8.trans s9).trans sz
        have s6z := s7.trans s7z
        have sH := s16.trans s6z
        have ml2 : ((forget rl d.base k M).map encRow).take mxs.length = (forget rl d.base k M).map encRow := List.take_of_length_le (by
          rw [List.length_map]
          unfold forget
          rw [List.length_mapIdx, mok.len]
          omega)
        rw [ml2] at i7
        have iw : Im Hz (.ref p6) (encW (wd.set k b)) := by
          unfold encW
          rw [List.set_eq_take_append_cons_drop, if_pos (by rw [wok.len]; exact k1), List.map_append, List.map_cons, List.map_take, List.map_drop]
          refine .tup (s6z.at e6) ?_
          rw [List.append_assoc]
          exact (sH.ims (hwx.take _)).app (.cons (.int _) (sH.ims (hwx.drop _)))
        exact q pz _ Hz sH (.tup ez (.cons (.tup (sz.at e9) (.cons iw (.cons (.tup ((s9.trans sz).at e8) (s7z.ims i7)) .nil))) (.cons .non (.cons (.bl _) .nil))))
end
end K5
end

section
set_option maxHeartbeats 4000000
/-! LP: the law's rule, its scene. -/
namespace K5
open PySem PySem.Spec L2
open PyProof.Rows hiding St
theorem r_enL {K : PySem.W.Frag} {σ : L2.St} {H : Hp} {ta : TA} {R : It → Hp → Prop} (q : ta σ H fun vs H1 => ∃ a xs, vs = [.ref a] ∧ SqL K H1 a xs ∧ R (Ite K a) H1) : iEnum K ta σ H R := q
local macro_rules | `(tactic| walk_at "lf") => `(tactic| first
  | assumption
  | (refine Same.im (by assumption) ?_; walk_at "lf")
  | (refine Same.ims (by assumption) ?_; walk_at "lf")
  | (refine Same.at (by assumption) ?_; walk_at "lf")
  | (refine Same.sqT (by assumption) ?_; walk_at "lf")
  | (refine Same.seq (by assumption) ?_; walk_at "lf")
  | exact SqL.of (by walk_at "lf")
  | exact SqT.of (by walk_at "lf"))
local macro_rules | `(tactic| walk_at "st") => `(tactic| first
  | ((with_reducible refine r_var (v := ?vv) ?rv ?_); (case rv => exact rfl))
  | with_reducible first
    | refine r_seq ?_
    | refine r_asg ?_
    | refine r_gName ?_
    | refine r_c ?_
    | refine r_op ?_
    | refine r_I0 ?_
    | refine r_exbl ?_
    | refine r_cb ?_
    | refine r_nil ?_
    | refine r_cons ?_
    | refine r_test ?_
    | refine r_tB ?_
    | refine r_and ?_
    | refine r_or ?_
    | refine r_not ?_
    | refine r_if ?_
    | refine r_ret ?_
    | refine r_next ?_
    | refine r_tup ?_
    | refine r_lst ?_
    | refine r_int ?_
    | refine r_exint ?_
    | refine r_sl ?_
    | refine r_part ?_
    | refine r_nopart ?_
    | refine r_par ?_
    | refine r_ex2 ?_
    | refine r_call ?_
    | refine r_un ?_
    | refine r_U ?_
    | refine r_andV ?_
    | refine r_orV ?_
    | refine r_notV ?_
    | refine r_chain ?_
    | refine r_isN ?_
    | refine r_notN ?_
    | refine r_drop ?_
    | refine r_I (by decide) ?_
    | refine r_EqI ?_
    | refine r_NeI ?_
    | refine r_EqS ?_
    | refine r_NeS ?_
    | refine r_gSub ?_
    | refine r_gCons ?_
    | refine r_gNil ?_
    | refine r_dget ?_
    | refine r_pcons ?_
    | refine r_pnil ?_
    | refine iteT ?_
    | refine iteF ?_
    | refine iteNF ?_
    | refine iteNT ?_
    | refine r_prop ?_
    | refine r_dget2 ?_
    | refine r_din ?_
    | refine r_dput ?_
    | refine r_mk ?_
    | refine r_propG ?_
    | refine r_mtd ?_
    | refine r_bm ?_
    | refine r_si ?_
    | refine r_for ?_
    | refine r_lc ?_
    | refine r_iT ?_
    | refine r_iL ?_
    | refine r_enT ?_
    | refine r_zip ?_
    | refine r_zs ?_
    | refine r_iR1 ?_
    | refine r_yes ?_
    | refine r_fld ?_
    | refine r_star1 ?_
    | refine r_ctE ?_
    | refine r_div (by decide) (by decide) ?_
    | refine r_mulL (by decide) (by decide) ?_
    | refine r_mulR (by decide) (by decide) ?_)
local macro_rules | `(tactic| walk_at "tq") => `(tactic| ((repeat walk_at "st"); first
  | assumption
  | (refine q_decT (by omega) (by assumption))
  | (refine q_decF (by omega) (by assumption))
  | (refine q_nT (by omega) (by assumption))
  | (refine q_nF (by omega) (by assumption))
  | (refine ite_dec (fun _ => ?_) (fun _ => ?_) <;> first | (exfalso; omega) | walk_at "tq")
  | (refine ite_ndec (fun _ => ?_) (fun _ => ?_) <;> first | (exfalso; omega) | walk_at "tq")))
def spLRu (K : PySem.W.Frag) : Sp := fun vs H Q _ => ∃ (a : Addr) (sc : List Int) (i : Int) (pv : V) (d : PD), vs = [.ref a, .int i, pv] ∧ SqL K H a (sc.map V.int) ∧ sc.length ≤ 63 ∧ PartsAt H pv d ∧ PDOk d ∧ ∀ p rl H', Same H H' → RuleOk d.fns.length rl → Im H' (.ref p) (encR rl) → Q (.ref p) H'
def spLS (K : PySem.W.Frag) : Sp := fun vs H Q _ => ∃ (a : Addr) (sc : List Int) (i : Int) (pv : V) (d : PD), vs = [.ref a, .int i, pv] ∧ SqL K H a (sc.map V.int) ∧ sc.length ≤ 63 ∧ PartsAt H pv d ∧ PDOk d ∧ ∀ p wd M H', Same H H' → WdOk d.fns wd → MemOk d.fns.length d.base M → Im H' (.ref p) (encS wd M) → Q (.ref p) H'
theorem scLrule : FnScope ["script", "at", "parts", "many", "pairs", "k", "one", "seed", "spot", "pair"] ["script", "at", "parts"] (defScope (top 79)) := ⟨rfl, rfl, rfl, by decide +kernel, rfl, by decide +kernel, by decide +kernel⟩
theorem scLscene : FnScope ["script", "at", "parts", "wording", "k", "bodies", "rows", "row", "number", "seed"] ["script", "at", "parts"] (defScope (top 80)) := ⟨rfl, rfl, rfl, by decide +kernel, rfl, by decide +kernel, by decide +kernel⟩
def ltP (p q : Nat × Nat) : Prop := p.1 < q.1 ∨ (p.1 = q.1 ∧ p.2 < q.2)
section
variable {P : Program} {w : World} {K : PySem.W.Frag} {mg : Str → Option Value} {base : Heap}
theorem ok_lrule (D : Df K mg "_law_rule" (top 79)) (B : Bf mg) (cNum : Cal P w K mg base "_law_number" 1 ["script", "index"] (spNum K)) : Cal P w K mg base "_law_rule" 2 ["script", "at", "parts"] (spLRu K) := by
  refine D.cal (N := ["script", "at", "parts", "many", "pairs", "k", "one", "seed", "spot", "pair"]) (ps := ["script", "at", "parts"]) scLrule (fun _ _ _ _ _ _ us hl => match us, hl with | [_, _, _], _ => rfl) (fun vs H Q E h => ?_) fun f cdv A outer s H vs Q E hr h => ?_
  · obtain ⟨_, _, _, _, _, rfl, _⟩ := h
    rfl
  · obtain ⟨a, sc, i, pv0, d, rfl, hS, hl, hp, dok, q⟩ := h
    refine ⟨_, (pss_cons (ps_set (i := 3) scLrule.nd rfl (by first | exact Or.inl rfl | exact Or.inr rfl) (pe_callB c_len (by rfl) (B _ (by decide)) b_len (pa_cons (pe_dget (hu_of hr) (pv 2) pe_str (fun _ _ => rfl)) pa_nil)))
      (pss_cons (ps_set (i := 4) scLrule.nd rfl (by first | exact Or.inl rfl | exact Or.inr rfl) (pe_lst pa_nil))
      (pss_cons (ps_for PassesOwn.never rfl (pi_range1 (by rfl) (B _ (by decide)) (pa_cons (pv 3) pa_nil)) (pg_name (i := 5) scLrule.nd rfl (by first | exact Or.inl rfl | exact Or.inr rfl))
        (pss_one (ps_set (i := 4) scLrule.nd rfl (by first | exact Or.inl rfl | exact Or.inr rfl) (pe_op op_cat (pv 4) (pe_lc (own := [("one", 6)]) (g := (gName 6)) (tt := tYes) rfl scLrule.nd (pi_range1 (by rfl) (B _ (by decide)) (pa_cons (pv 3) pa_nil)) (blkOk_by (own := [("one", 6)]) (N := ["script", "at", "parts", "many", "pairs", "k", "one", "seed", "spot", "pair"]) (sc := defScope (top 79)) (by decide +kernel)) (fun _ _ _ _ _ => (pg_name (i := 6) scLrule.nd rfl (by first | exact Or.inl rfl | exact Or.inr rfl))) (fun _ _ _ _ _ => pts_nil) (fun _ _ _ _ _ => (pe_tup (pa_cons (pv 5) (pa_cons (pv 6) pa_nil)))))))))
      (pss_cons (ps_set (i := 7) scLrule.nd rfl (by first | exact Or.inl rfl | exact Or.inr rfl) (pe_callTy c_int (by rfl) (B _ (by decide)) b_int (pa_cons (pe_cal cNum hr (by omega) (pa_cons (pv 0) (pa_cons (pv 1) pa_nil))) pa_nil)))
      (pss_one (ps_ret (pe_callTy c_tup (by rfl) (B _ (by decide)) b_tuple (pa_cons (pe_lc (own := [("spot", 8), ("pair", 9)]) (g := (gTup _ 2 (gCons (gName 8) (gCons (gName 9) gNil)))) rfl scLrule.nd (pi_enum (by rfl) (B _ (by decide)) (pa_cons (pv 4) pa_nil)) (blkOk_by (own := [("spot", 8), ("pair", 9)]) (N := ["script", "at", "parts", "many", "pairs", "k", "one", "seed", "spot", "pair"]) (sc := defScope (top 79)) (by decide +kernel)) (fun _ _ _ _ _ => (pg_tup rfl (pgs_cons (pg_name (i := 8) scLrule.nd rfl (by first | exact Or.inl rfl | exact Or.inr rfl)) (pgs_cons (pg_name (i := 9) scLrule.nd rfl (by first | exact Or.inl rfl | exact Or.inr rfl)) pgs_nil)))) (fun _ _ _ _ _ => (pts_one (pt_cmpR op_gt (pe_op op_mod (pe_callTy c_int (by rfl) (B _ (by decide)) b_int (pa_cons (pe_op op_fdiv (pv 7) (pe_op op_add pe_int (pe_op op_mul pe_int (pv 8)))) pa_nil)) pe_int) pe_int (nomark _)))) (fun _ _ _ _ _ => (pv 9))) pa_nil)))))))), ?_⟩
    have fok : FnsOk d.fns d.base := dok.book.fns
    have n3 := fok.len3
    obtain ⟨pa, kvs, fa, fxs, rfl, hpa, kf, hfa, hfx, kb⟩ := hp.fns
    have fxl : fxs.length = d.fns.length := by rw [hfx.length, List.length_map]
    repeat walk_at "st"
    refine r_pget (.inr "functions") rfl hpa kf ?_
    repeat walk_at "st"
    refine r_lenT (.of hfa) fxl ?_
    repeat walk_at "st"
    refine r_newL (by show 0 ≤ sizeLine; decide) fun l0 H1 nl s1 el => ?_
    repeat walk_at "st"
    refine ⟨(d.fns.length : Int), rfl, by omega, by omega, ?_⟩
    rw [Int.toNat_natCast]
    refine for_w (walk_range (n := d.fns.length)) (fun k σ' H' => ∃ (l : Addr) (acc : List V) (ps : List (Nat × Nat)) (o5 o6 o7 o8 o9 : Option V), Same H H' ∧ H' l = some (.lst acc) ∧ ImAll H' acc (ps.map encP) ∧ ps.Pairwise ltP ∧ (∀ p ∈ ps, p.1 < k ∧ p.2 < d.fns.length) ∧ ps.length ≤ 3 * k ∧
        σ' = [some (.ref a), some (.int i), some (.ref pa), some (.int d.fns.length), some (.ref l), o5, o6, o7, o8, o9])
      ⟨l0, [], [], none, none, none, none, none, s1, el, .nil, .nil, by simp, Nat.le_refl _, rfl⟩ (fun _ _ _ _ _ => trivial) ?_ ?_
    · rintro k x σ' HX H2 hk ⟨l, acc, ps, o5, o6, o7, o8, o9, s2, e2, iacc, pw, lt, pl, rfl⟩ ⟨rfl, rfl⟩
      have al := iacc.length
      rw [List.length_map] at al
      repeat walk_at "st"
      refine ⟨(d.fns.length : Int), rfl, by omega, by omega, ?_⟩
      rw [Int.toNat_natCast]
      intro D nD
      refine lc_w (walk_range (n := d.fns.length)) nD (fun j acc2 H' => ImAll H' acc2 (((List.range j).map fun o => (k, o)).map encP)) (fun _ _ _ _ n z => n.ims z) (by omega) (fun _ _ => trivial) .nil (fun j x acc2 H3 H4 Kt Kf hj s3 p y kt _ => ?_) fun acc2 H5 s5 e5 al2 p => ?_
      · obtain ⟨rfl, rfl⟩ := y
        repeat walk_at "st"
        refine ⟨rfl, ?_⟩
        repeat walk_at "st"
        refine r_newT (by show 2 ≤ sizeLine; decide) fun p6 H6 np6 s6 e6 => ?_
        refine kt _ _ s6 ?_
        rw [List.range_succ, List.map_append]
        refine imAll_snoc (f := encP) (x := (k, j)) (s6.ims p) (.tup (xs := [.int k, .int j]) ?_ (.cons (.int _) (.cons (.int _) .nil)))
        rw [e6]
        show some (HO.tup [V.int (0 + (k : Int)), .int (0 + (j : Int))]) = _
        rw [Int.zero_add, Int.zero_add]
      · have pl2 := p.length
        rw [List.length_map, List.length_map, List.length_range] at pl2
        refine r_cat (s5.at e2) e5 (by omega) fun p6 H6 s6 e6 => ?_
        repeat walk_at "st"
        refine ⟨p6, acc ++ acc2, ps ++ _, _, _, _, _, _, (s2.trans s5).trans s6, e6, by rw [List.map_append]; exact (s6.ims (s5.ims iacc)).app (s6.ims p), ?_, fun x hx => ?_, ?_, rfl⟩
        · rw [List.pairwise_append]
          refine ⟨pw, ?_, fun x hx y hy => ?_⟩
          · rw [List.pairwise_map]
            exact List.pairwise_lt_range.imp fun {u v} h => .inr ⟨rfl, h⟩
          · obtain ⟨o, ho, rfl⟩ := List.mem_map.mp hy
            exact .inl (lt x hx).1
        · rcases List.mem_append.mp hx with z | z
          · have := lt x z
            exact ⟨by omega, this.2⟩
          · obtain ⟨o, ho, rfl⟩ := List.mem_map.mp z
            exact ⟨by show k < k + 1; omega, List.mem_range.mp ho⟩
        · rw [List.length_append, List.length_map, List.length_range]
          omega
    · rintro σ' H2 ⟨l, acc, ps, o5, o6, o7, o8, o9, s2, e2, iacc, pw, lt, pl, rfl⟩
      have al := iacc.length
      rw [List.length_map] at al
      repeat walk_at "st"
      refine r_num (s2.seq hS) hl fun H3 s3 => ?_
      repeat walk_at "st"
      refine r_enL ?_
      repeat walk_at "st"
      have e3 := s3.at e2
      refine ⟨l, acc, rfl, .of e3, fun D nD => ?_⟩
      refine lc_w (walk_enum (xs := acc)) nD (fun j acc2 H' => ∃ rl : List (Nat × Nat), ImAll H' acc2 (rl.map encP) ∧ rl.Sublist (ps.take j)) (fun _ _ _ _ n ⟨rl, z⟩ => ⟨rl, n.ims z.1, z.2⟩) (by omega) (fun H' s => .of (s.at e3)) ⟨[], .nil, List.nil_sublist _⟩ (fun j x acc2 H4 H5 Kt Kf hj s4 p y kt kf => ?_) fun acc2 H6 s6 e6 al2 p => ?_
      · obtain ⟨Tp, u, v, rfl, s5, eT, ea, eb⟩ := ypair y
        cases ea
        obtain ⟨rl, irl, sub⟩ := p
        obtain ⟨dd, hdd, iv⟩ := iacc.get' eb
        rw [List.getElem?_map] at hdd
        obtain ⟨pp, hpp, rfl⟩ := Option.map_eq_some_iff.mp hdd
        have nx : ps.take (j + 1) = ps.take j ++ [pp] := by
          rw [List.take_succ, hpp]
          rfl
        refine r_gTup (.of eT) rfl ?_
        repeat walk_at "st"
        refine ⟨rfl, ?_⟩
        repeat walk_at "st"
        refine r_div (by omega) (by omega) ?_
        repeat walk_at "st"
        refine ite_dec (fun _ => ?_) fun _ => kf _ s5 ⟨rl, s5.ims irl, by rw [nx]; exact sub.trans (List.sublist_append_left _ _)⟩
        repeat walk_at "st"
        exact kt _ _ s5 ⟨rl ++ [pp], imAll_snoc (s5.ims irl) ((s3.trans (s4.trans s5)).im iv), by rw [nx]; exact sub.append (List.Sublist.refl _)⟩
      · obtain ⟨rl, irl, sub⟩ := p
        have sub2 : rl.Sublist ps := sub.trans (List.take_sublist _ _)
        have pw2 := pw.sublist sub2
        have len2 := sub2.length_le
        repeat walk_at "st"
        refine r_tupL (.of e6) fun p7 H7 np7 s7 e7 => ?_
        refine q p7 rl H7 (((s2.trans s3).trans s6).trans s7) ⟨fun x hx => ?_, fun j x y h1 h2 => ?_, by omega⟩ (.tup e7 (s7.ims irl))
        · have := lt x (sub2.subset hx)
          exact ⟨by omega, this.2⟩
        · obtain ⟨l1, e1⟩ := List.getElem?_eq_some_iff.mp h1
          obtain ⟨l2, e2⟩ := List.getElem?_eq_some_iff.mp h2
          have := List.pairwise_iff_getElem.mp pw2 j (j + 1) l1 l2 (by omega)
          rw [e1, e2] at this
          exact this
theorem ok_lscene (D : Df K mg "_law_scene" (top 80)) (B : Bf mg) (cNum : Cal P w K mg base "_law_number" 1 ["script", "index"] (spNum K)) : Cal P w K mg base "_law_scene" 2 ["script", "at", "parts"] (spLS K) := by
  refine D.cal (N := ["script", "at", "parts", "wording", "k", "bodies", "rows", "row", "number", "seed"]) (ps := ["script", "at", "parts"]) scLscene (fun _ _ _ _ _ _ us hl => match us, hl with | [_, _, _], _ => rfl) (fun vs H Q E h => ?_) fun f cdv A outer s H vs Q E hr h => ?_
  · obtain ⟨_, _, _, _, _, rfl, _⟩ := h
    rfl
  · obtain ⟨a, sc, i, pv0, d, rfl, hS, hl, hp, dok, q⟩ := h
    refine ⟨_, (pss_cons (ps_set (i := 3) scLscene.nd rfl (by first | exact Or.inl rfl | exact Or.inr rfl) (pe_callTy c_tup (by rfl) (B _ (by decide)) b_tuple (pa_cons (pe_lc (own := [("k", 4), ("bodies", 5)]) (g := (gTup _ 2 (gCons (gName 4) (gCons (gName 5) gNil)))) (tt := tYes) rfl scLscene.nd (pi_enumT (by rfl) (B _ (by decide)) (pa_cons (pe_dget (hu_of hr) (pv 2) pe_str (fun _ _ => rfl)) pa_nil)) (blkOk_by (own := [("k", 4), ("bodies", 5)]) (N := ["script", "at", "parts", "wording", "k", "bodies", "rows", "row", "number", "seed"]) (sc := defScope (top 80)) (by decide +kernel)) (fun _ _ _ _ _ => (pg_tup rfl (pgs_cons (pg_name (i := 4) scLscene.nd rfl (by first | exact Or.inl rfl | exact Or.inr rfl)) (pgs_cons (pg_name (i := 5) scLscene.nd rfl (by first | exact Or.inl rfl | exact Or.inr rfl)) pgs_nil)))) (fun _ _ _ _ _ => pts_nil) (fun _ _ _ _ _ => (pe_op op_mod (pe_callTy c_int (by rfl) (B _ (by decide)) b_int (pa_cons (pe_cal cNum hr (by omega) (pa_cons (pv 0) (pa_cons (pe_op op_add (pv 1) (pv 4)) pa_nil))) pa_nil)) (pe_callB (c_lenK (K := K) rfl) (by rfl) (B _ (by decide)) b_len (pa_cons (pv 5) pa_nil))))) pa_nil)))
      (pss_cons (ps_set (i := 6) scLscene.nd rfl (by first | exact Or.inl rfl | exact Or.inr rfl) (pe_lst pa_nil))
      (pss_cons (ps_for PassesOwn.never rfl (pi_range1 (by rfl) (B _ (by decide)) (pa_cons (pe_callB c_len (by rfl) (B _ (by decide)) b_len (pa_cons (pv 3) pa_nil)) pa_nil)) (pg_name (i := 4) scLscene.nd rfl (by first | exact Or.inl rfl | exact Or.inr rfl))
        (pss_cons (ps_set (i := 7) scLscene.nd rfl (by first | exact Or.inl rfl | exact Or.inr rfl) (pe_lst pa_nil))
        (pss_cons (ps_for PassesOwn.never rfl (pi_range1 (by rfl) (B _ (by decide)) (pa_cons (pe_dget (hu_of hr) (pv 2) pe_str (fun _ _ => rfl)) pa_nil)) (pg_name (i := 8) scLscene.nd rfl (by first | exact Or.inl rfl | exact Or.inr rfl))
          (pss_cons (ps_set (i := 9) scLscene.nd rfl (by first | exact Or.inl rfl | exact Or.inr rfl) (pe_callTy c_int (by rfl) (B _ (by decide)) b_int (pa_cons (pe_cal cNum hr (by omega) (pa_cons (pv 0) (pa_cons (pe_op op_add (pe_op op_add (pe_op op_add (pv 1) pe_int) (pe_op op_mul pe_int (pv 4))) (pv 8)) pa_nil))) pa_nil)))
          (pss_one (ps_expr (pe_bm PySem.F.plainAttrs_list PySem.F.slot_list_append PySem.F.type_list_append mt_append (pv 7) (pa_cons (pe_ifExp (pt_cmpR op_gt (pe_op op_mod (pe_callTy c_int (by rfl) (B _ (by decide)) b_int (pa_cons (pv 9) pa_nil)) pe_int) pe_int (nomark _)) pe_non (pe_op op_mod (pe_callTy c_int (by rfl) (B _ (by decide)) b_int (pa_cons (pe_op op_fdiv (pv 9) pe_int) pa_nil)) (pe_dget (hu_of hr) (pv 2) pe_str (fun _ _ => rfl)))) pa_nil))))))
        (pss_one (ps_expr (pe_bm PySem.F.plainAttrs_list PySem.F.slot_list_append PySem.F.type_list_append mt_append (pv 6) (pa_cons (pe_callTy c_tup (by rfl) (B _ (by decide)) b_tuple (pa_cons (pv 7) pa_nil)) pa_nil)))))))
      (pss_one (ps_ret (pe_tup (pa_cons (pv 3) (pa_cons (pe_callTy c_tup (by rfl) (B _ (by decide)) b_tuple (pa_cons (pv 6) pa_nil)) pa_nil)))))))), ?_⟩
    have fok : FnsOk d.fns d.base := dok.book.fns
    have n3 := fok.len3
    have b2 := fok.base2
    have b3 := fok.base3
    have szl : (1000 : Nat) ≤ sizeLine := by decide
    obtain ⟨pa, kvs, fa, fxs, rfl, hpa, kf, hfa, hfx, kb⟩ := hp.fns
    have fxl : fxs.length = d.fns.length := by rw [hfx.length, List.length_map]
    repeat walk_at "st"
    refine r_pget (.inr "functions") rfl hpa kf ?_
    repeat walk_at "st"
    refine ⟨fa, fxs, rfl, .of hfa, fun D nD => ?_⟩
    refine lc_w (walk_en (xs := fxs)) nD (fun j acc _ => ∃ wd : List Nat, acc = wd.map nI ∧ wd.length = j ∧ ∀ (k b : Nat), wd[k]? = some b → ∀ r, d.fns[k]? = some r → b < r.length) (fun _ _ _ _ _ z => z) (by omega) (fun H' s => .of (s.at hfa)) ⟨[], rfl, rfl, by simp⟩ (fun j x acc H1 H2 Kt Kf hj s1 p y kt _ => ?_) fun acc H3 s3 e3 al p => ?_
    · obtain ⟨Tp, u, v, rfl, s2, eT, ea, eb⟩ := ypair y
      cases ea
      obtain ⟨dd, hdd, iv⟩ := hfx.get' eb
      rw [List.getElem?_map] at hdd
      obtain ⟨r, hr', rfl⟩ := Option.map_eq_some_iff.mp hdd
      obtain ⟨rb, rxs, rfl, hrb, hrx⟩ := im_tup iv
      have rxl : rxs.length = r.length := by rw [hrx.length, List.length_map]
      have r1 := fok.row1 r (List.mem_of_getElem? hr')
      obtain ⟨wd, rfl, wl, wk⟩ := p
      have s12 := s1.trans s2
      refine r_gTup (.of eT) rfl ?_
      repeat walk_at "st"
      refine ⟨rfl, ?_⟩
      repeat walk_at "st"
      refine r_num (s12.seq hS) hl fun H4 s4 => ?_
      repeat walk_at "st"
      refine r_lenT (.of ((s12.trans s4).at hrb)) rxl ?_
      repeat walk_at "st"
      refine r_I (by omega) ?_
      have v0 : 0 ≤ lnum sc (i + (j : Int)) % (r.length : Int) := Int.emod_nonneg _ (by omega)
      have v1 : lnum sc (i + (j : Int)) % (r.length : Int) < r.length := Int.emod_lt_of_pos _ (by omega)
      refine kt _ _ (s2.trans s4) ⟨wd ++ [(lnum sc (i + (j : Int)) % (r.length : Int)).toNat], ?_, ?_, fun k b hk r' hr2 => ?_⟩
      · rw [List.map_append]
        show _ = _ ++ [V.int ((lnum sc (i + (j : Int)) % (r.length : Int)).toNat : Int)]
        rw [Int.toNat_of_nonneg v0]
      · rw [List.length_append]
        show wd.length + 1 = _
        omega
      · by_cases hkk : k < wd.length
        · rw [List.getElem?_append_left hkk] at hk
          exact wk k b hk r' hr2
        · rw [List.getElem?_append_right (by omega)] at hk
          have k0 : k - wd.length = 0 := by
            have := (List.getElem?_eq_some_iff.mp hk).1
            simp at this
            omega
          rw [k0] at hk
          have kj : k = j := by omega
          rw [kj, hr'] at hr2
          cases hr2
          have := Option.some.inj hk
          omega
    · obtain ⟨wd, rfl, wl, wk⟩ := p
      have wok : WdOk d.fns wd := ⟨by omega, wk⟩
      repeat walk_at "st"
      refine r_tupL (.of e3) fun wp H4 nwp s4 e4 => ?_
      have s04 := s3.trans s4
      repeat walk_at "st"
      refine r_newL (by show 0 ≤ sizeLine; decide) fun l H5 nl s5 el => ?_
      have s05 := s04.trans s5
      repeat walk_at "st"
      refine r_lenT (.of (s5.at e4)) (n := d.fns.length) (by rw [List.length_map]; omega) ?_
      repeat walk_at "st"
      refine ⟨(d.fns.length : Int), rfl, by omega, by omega, ?_⟩
      rw [Int.toNat_natCast]
      refine for_w (walk_range (n := d.fns.length)) (fun k σ' H' => ∃ (acc : List V) (M : Mem) (o4 o5 o7 o8 o9 : Option V), Same H4 H' ∧ H' l = some (.lst acc) ∧ ImAll H' acc (M.map encRow) ∧ M.length = k ∧ (∀ r ∈ M, r.length = d.base) ∧ (∀ r ∈ M, ∀ x, some x ∈ r → 0 ≤ x ∧ x < d.base) ∧
          σ' = [some (.ref a), some (.int i), some (.ref pa), some (.ref wp), o4, o5, some (.ref l), o7, o8, o9])
        ⟨[], [], _, _, _, _, _, s5, el, .nil, rfl, by simp, by simp, rfl⟩ (fun _ _ _ _ _ => trivial) ?_ ?_
      · rintro k x σ' HX H6 hk ⟨acc, M, o4, o5, o7, o8, o9, s6, e6, iacc, Ml, Mr, Mv', rfl⟩ ⟨rfl, rfl⟩
        have al := iacc.length
        rw [List.length_map] at al
        repeat walk_at "st"
        refine r_newL (by show 0 ≤ sizeLine; decide) fun rl H7 nrl s7 erl => ?_
        have s07 := (s04.trans s6).trans s7
        repeat walk_at "st"
        refine r_pget (.inr "base") rfl (s07.at hpa) kb ?_
        repeat walk_at "st"
        refine ⟨(d.base : Int), rfl, by omega, by omega, ?_⟩
        rw [Int.toNat_natCast]
        refine for_w (walk_range (n := d.base)) (fun j σ' H' => ∃ (acc2 : List V) (r : List (Option Int)) (o8 o9 : Option V), Same H6 H' ∧ H' rl = some (.lst acc2) ∧ ImAll H' acc2 (r.map encO) ∧ r.length = j ∧ (∀ x, some x ∈ r → 0 ≤ x ∧ x < d.base) ∧
            σ' = [some (.ref a), some (.int i), some (.ref pa), some (.ref wp), some (.int (0 + (k : Int))), o5, some (.ref l), some (.ref rl), o8, o9])
          ⟨[], [], o8, o9, s7, erl, .nil, rfl, by simp, rfl⟩ (fun _ _ _ _ _ => trivial) ?_ ?_
        · rintro j x σ' HX H8 hj ⟨acc2, r, o8, o9, s8, e8, iacc2, rlen, rv, rfl⟩ ⟨rfl, rfl⟩
          have al2 := iacc2.length
          rw [List.length_map] at al2
          have s08 := (s04.trans s6).trans s8
          repeat walk_at "st"
          refine r_num (s08.seq hS) hl fun H9 s9 => ?_
          generalize lnum sc _ = zz
          have s89 := s08.trans s9
          repeat walk_at "st"
          refine ⟨ty_l (s9.at e8), ?_⟩
          repeat walk_at "st"
          refine ite_dec (fun _ => ?_) fun _ => ?_
          · repeat walk_at "st"
            refine r_append (s9.at e8) (by omega) fun HA mA eA => ?_
            repeat walk_at "st"
            refine ⟨acc2 ++ [.non], r ++ [none], _, _, Mv.same (s8.trans s9) mA nrl, eA, imAll_snoc (mA.ims (s9.ims iacc2)) .non, by rw [List.length_append]; show r.length + 1 = _; omega, fun x hx => ?_, rfl⟩
            rcases List.mem_append.mp hx with z | z
            · exact rv x z
            · simp at z
          · repeat walk_at "st"
            refine r_pget (.inr "base") rfl (s89.at hpa) kb ?_
            repeat walk_at "st"
            refine r_I (by omega) ?_
            have v0 : 0 ≤ zz / 3 % (d.base : Int) := Int.emod_nonneg _ (by omega)
            have v1 : zz / 3 % (d.base : Int) < d.base := Int.emod_lt_of_pos _ (by omega)
            repeat walk_at "st"
            refine r_append (s9.at e8) (by omega) fun HA mA eA => ?_
            repeat walk_at "st"
            refine ⟨acc2 ++ [_], r ++ [some (zz / 3 % (d.base : Int))], _, _, Mv.same (s8.trans s9) mA nrl, eA, imAll_snoc (mA.ims (s9.ims iacc2)) (.int _), by rw [List.length_append]; show r.length + 1 = _; omega, fun x hx => ?_, rfl⟩
            rcases List.mem_append.mp hx with z | z
            · exact rv x z
            · rw [Option.some.inj (List.mem_singleton.mp z)]
              exact ⟨v0, v1⟩
        · rintro σ' H8 ⟨acc2, r, o8, o9, s8, e8, iacc2, rlen, rv, rfl⟩
          dsimp only
          repeat walk_at "st"
          refine ⟨ty_l (s8.at e6), ?_⟩
          repeat walk_at "st"
          refine r_tupL (.of e8) fun p9 H9 np9 s9 e9 => ?_
          have s69 := s8.trans s9
          repeat walk_at "st"
          refine r_append (s69.at e6) (by omega) fun HA mA eA => ?_
          repeat walk_at "st"
          refine ⟨acc ++ [.ref p9], M ++ [r], _, _, _, _, _, Mv.same (s6.trans s69) mA (by
            cases hz : H4 l with
            | none => rfl
            | some o => rw [nl] at hz; cases hz), eA, imAll_snoc (mA.ims (s69.ims iacc)) (.tup (mA.at e9 fun _ z => by cases z) (mA.ims (s9.ims iacc2))), by rw [List.length_append]; show M.length + 1 = _; omega, fun r' hr' => ?_, fun r' hr' => ?_, rfl⟩
          · rcases List.mem_append.mp hr' with z | z
            · exact Mr r' z
            · rw [List.mem_singleton.mp z]
              exact rlen
          · rcases List.mem_append.mp hr' with z | z
            · exact Mv' r' z
            · rw [List.mem_singleton.mp z]
              exact rv
      · rintro σ' H6 ⟨acc, M, o4, o5, o7, o8, o9, s6, e6, iacc, Ml, Mr, Mv', rfl⟩
        repeat walk_at "st"
        refine r_tupL (.of e6) fun p7 H7 np7 s7 e7 => ?_
        repeat walk_at "st"
        refine r_newT (by show 2 ≤ sizeLine; decide) fun p8 H8 np8 s8 e8 => ?_
        have s48 := (s6.trans s7).trans s8
        exact q p8 wd M H8 (s04.trans s48) wok ⟨Ml, Mr, Mv'⟩ (.tup e8 (.cons (.tup (s48.at e4) (im_nats wd)) (.cons (.tup (s8.at e7) ((s7.trans s8).ims iacc)) .nil)))
end
end K5
end

section
set_option maxHeartbeats 4000000
/-! LQ: the calls, three deep. -/
namespace K5
open PySem PySem.Spec L2 NdefX LamX
open PyProof.Rows hiding St
section
variable {P : Program} {w : World} {K : PySem.W.Frag} {mg : Str → Option Value} {base : Heap} {T : List NTab} {CP CB CF : Addr}
theorem ok_called {dS : Addr} (B : Bf mg) (Kc : Kcl P w K mg base CP CB CF) (gSg : mg "SIGNS" = some (.ref dS)) (sg : SgAt K w dS (signs.map fun q => (q.1, V.str q.2)))
    {gc : Addr} {fdc : FuncData} (Dc : FunD K "comes_to" "comes_to" (defArgs (top 27)) (defBody (top 27)) (defScope (top 27)) [] [] gc fdc) (gCt : mg "comes_to" = some (.ref gc))
    {f cc Pc : Addr} {fd : FuncData} (D : FunD K "called" "called" (defArgs (top 59)) (defBody (top 59)) (defScope (top 59)) [] [] f fd) (gC : mg "called" = some (.ref f)) (hcc : fd.code = .ref cc) (TB : TabB base mg cc Pc) (hm : (Pc, nmA) ∈ T) (hu : ∀ p ∈ T, p.1 = Pc → p.2 = nmA) :
    Cal P w K mg base "called" 26 ["plan", "setting", "scene", "function", "number"] (spCalled T CP CB CF 3) := by
  have Df0 : Df K mg "called" (top 59) := ⟨f, fd, gC, D⟩
  have c0 : Cal P w K mg base "called" 2 ["plan", "setting", "scene", "function", "number"] (spCalled T CP CB CF 0) := Df0.never (fun _ _ _ _ _ _ us hl => match us, hl with | [_, _, _, _, _], _ => rfl) fun vs H Q E h => by
    obtain ⟨_, _, _, _, _, _, _, _, _, k, _, _, _, _, _, _, _, _, _, _, _, hk, _⟩ := h
    exact absurd hk (Nat.not_lt_zero k)
  have c1 := called_step B Kc gSg sg Dc gCt D gC hcc TB hm hu (by omega) c0
  have c2 := called_step B Kc gSg sg Dc gCt D gC hcc TB hm hu (by omega) c1
  exact called_step B Kc gSg sg Dc gCt D gC hcc TB hm hu (by omega) c2
theorem lg_all {n l : Nat} (Dg : Df K mg "_law_gone" (top 73)) (B : Bf mg) (hl2 : 2 ≤ l) (cLC : Cal P w K mg base "_law_calls" l ["parts", "wording", "setting", "call", "memory"] (spLC n)) : ∀ e : Nat, Cal P w K mg base "_law_gone" (l + e) ["parts", "wording", "setting", "tree", "here"] (spLG n e)
  | 0 => Dg.never (fun _ _ _ _ _ _ us hl => match us, hl with | [_, _, _, _, _], _ => rfl) fun vs H Q E h => by
    obtain ⟨_, _, _, _, _, _, _, _, t, _, _, _, _, _, _, _, _, _, _, _, _, _, _, _, _, _, hd, _⟩ := h
    exact absurd hd (Nat.not_lt_zero _)
  | e + 1 => lg_step Dg B hl2 cLC (lg_all Dg B hl2 cLC e)
theorem ok_lc (Dc : Df K mg "_law_calls" (top 72)) (Dg : Df K mg "_law_gone" (top 73)) (B : Bf mg) : Cal P w K mg base "_law_calls" 23 ["parts", "wording", "setting", "call", "memory"] (spLC 3) := by
  have c0 : Cal P w K mg base "_law_calls" 2 ["parts", "wording", "setting", "call", "memory"] (spLC 0) := Dc.never (fun _ _ _ _ _ _ us hl => match us, hl with | [_, _, _, _, _], _ => rfl) fun vs H Q E h => by
    obtain ⟨_, _, _, _, _, _, _, _, _, k, _, _, _, _, _, _, _, _, hk, _⟩ := h
    exact absurd hk (Nat.not_lt_zero k)
  have c1 := lc_step (l := 8) Dc B (by omega) (lg_all (l := 2) Dg B (by omega) c0 6)
  have c2 := lc_step (l := 15) Dc B (by omega) (lg_all (l := 9) Dg B (by omega) c1 6)
  exact lc_step (l := 22) Dc B (by omega) (lg_all (l := 16) Dg B (by omega) c2 6)
end
/-! ### data that is compared -/
theorem canLay_nats (ns : List Nat) : PyData.canLayAll0 (ns.map nD) = true := by
  rw [nats_ints]
  exact canLay_ints _
theorem depth_nats (ns : List Nat) : PyData.depthAll (ns.map nD) = 0 := by
  rw [nats_ints]
  exact depth_ints _
theorem canLay_O : ∀ r : List (Option Int), PyData.canLayAll0 (r.map encO) = true
  | [] => by simp only [List.map_nil, PyData.canLayAll0]
  | none :: r => by simp only [List.map_cons, encO, PyData.canLayAll0, PyData.canLay0, canLay_O r, Bool.and_self]
  | some n :: r => by simp only [List.map_cons, encO, PyData.canLayAll0, PyData.canLay0, canLay_O r, Bool.and_self]
theorem depth_O : ∀ r : List (Option Int), PyData.depthAll (r.map encO) = 0
  | [] => by simp only [List.map_nil, PyData.depthAll]
  | none :: r => by simp only [List.map_cons, encO, PyData.depthAll, PyData.depth, depth_O r, Nat.max_self]
  | some n :: r => by simp only [List.map_cons, encO, PyData.depthAll, PyData.depth, depth_O r, Nat.max_self]
theorem canLay_M : ∀ m : Mem, PyData.canLayAll0 (m.map encRow) = true
  | [] => by simp only [List.map_nil, PyData.canLayAll0]
  | r :: m => by simp only [List.map_cons, encRow, PyData.canLayAll0, PyData.canLay0, canLay_O r, canLay_M m, Bool.and_self]
theorem depth_M : ∀ m : Mem, PyData.depthAll (m.map encRow) ≤ 1
  | [] => by simp only [List.map_nil, PyData.depthAll]; omega
  | r :: m => by
    have := depth_M m
    simp only [List.map_cons, encRow, PyData.depthAll, PyData.depth, depth_O r]
    omega
theorem shaped_S (wd : List Nat) (m : Mem) : SeqAt.shaped (encS wd m) = true := by
  have := depth_M m
  unfold SeqAt.shaped encS encW encM
  simp only [PyData.canLay0, PyData.canLayAll0, canLay_nats, canLay_M, Bool.and_true, Bool.and_self, PyData.depth, PyData.depthAll, depth_nats, Bool.true_and]
  exact decide_eq_true (by omega)
theorem shaped_SO (wd : List Nat) (m : Mem) (o : Option Int) : SeqAt.shaped (.tuple [encS wd m, encO o]) = true := by
  have := depth_M m
  unfold SeqAt.shaped encS encW encM
  cases o <;> simp only [encO, PyData.canLay0, PyData.canLayAll0, canLay_nats, canLay_M, Bool.and_true, Bool.and_self, PyData.depth, PyData.depthAll, depth_nats, Bool.true_and] <;> exact decide_eq_true (by omega)
theorem shaped_LO (r : List (Option Int)) : SeqAt.shaped (.list (r.map encO)) = true := by
  unfold SeqAt.shaped
  simp only [PyData.canLay0, canLay_O, PyData.depth, depth_O, Bool.true_and]
  exact decide_eq_true (by omega)
theorem ne_self {d : PyData} (h : SeqAt.shaped d = true) : (!PyData.eqv d d) = false := by
  rw [SeqAt.eqv_refl d (SeqAt.canLay_of_shaped h)]
  rfl
end K5
end

section
set_option maxHeartbeats 4000000
/-! LR: BadRun, whose __init__ says super().__init__(index). -/
namespace K5
open PySem PySem.Spec L2 PySem.W PySem.Calls PySem.HandSPX
open PyProof.Rows hiding St
def bI : Stmt := inClass (top 16) 0
/-- what the written part says of BadRun, at C, of its __init__, at fI *)-/
structure BadTxt (prog : Program) (K : Frag) (mg : Str → Option Value) (C fI cc cda : Addr) : Prop where
  gC : mg "BadRun" = some (.ref C)
  cls : ∃ nm q N bs bm sn sub ab col dd k0 k1 k2 k3 k5, K.lookup C = some (excClassObj nm q C N bs bm true sn sub ab col dd k0 k1 k2 k3 k5 "ValueError.__new__") ∧ refsVE bm = true
  sa : findIn K (.ref C) "__setattr__" = some (some (.builtin "object.__setattr__"))
  noN : findIn K (.ref C) "index" = some none
  iC : findIn K (.ref C) "__init__" = some (some (.ref fI))
  tC : typeIn K (.ref fI) = some (.type "function")
  kC : keepIn K (.ref C) = true
  xf : XfC K C
  tyC : typeIn K (.ref C) = some (.type "type")
  te : exmOne K (.ref C) (.ref C) = some true
  fn : ∃ (oc : Value) (od : Option Addr) (doc pm : Value) (an : Option Addr) (ct : Value) (osl : Array (Option Value)),
    K.lookup fI = some ⟨oc, od, .func (ksFn "__init__" "BadRun.__init__" (defArgs bI) (defBody bI) (defScope bI) .none .none doc pm an (.ref cda) ct cc), osl⟩ ∧ codeIn K (.ref cda) "BadRun.__init__" = true
  cell : ∃ (cl : Value) (cld : Option Addr) (csl : Array (Option Value)), K.lookup cc = some ⟨cl, cld, .cell (some (.ref C)), csl⟩
  code : ∃ (ccl : Value) (cdd : Option Addr) (vs : Array Value) (ccs : Array (Option Value)) (file : Str) (tf : Tok), K.lookup cda = some ⟨ccl, cdd, .fields vs, ccs⟩ ∧ vs[2]? = some (.str file tf) ∧ ((prog.main.file : Str) == file) = true
  top_ : (prog.main.scope.names.lookup ("super" : Str)).isSome = false
  mgS : mg "super" = none
  sub : mroIn K C (.ref C) = some true
  subV : subIn K (.ref C) (.type "ValueError") = some true
  sup : ks_superIn K C C "__init__" = some (some (.builtin "ValueError.__init__"))
  opq : nsIn K cStatics "thirdparty.any" = some none
section
variable {prog : Program} {w : World} {A : Around} {E : Value → Shared → Prop} {R : Result → Shared → Prop} {s : Shared} {K : Frag} {mg mb : Str → Option Value} {C fI cc cda : Addr}
theorem callW1 {M : Model} {pos : Pos} {env : Env} {e : Expr} {rest : List Expr} {i : String} {u x : Addr} {Q : Value → Shared → Prop} (h : wpAny M A (spliced (backTo pos (starEach (e :: rest) env))) (fun vs s₁ => KxsAt i u x s₁.heap ∧ wpAny M A (call (.ref u) vs) Q E s₁) E s)
    (he : starEach (e :: rest) env = (false, eval e env) :: starEach rest env := by rfl) (hp : (backTo pos (starEach rest env)).any (·.1) = false := by rfl) : wpAny M A (callWith pos (.ref u) [] (backTo pos (starEach (e :: rest) env)) []) Q E s := by
  rw [he] at h ⊢
  refine kxs_callWith (i := i) (x := x) ?_ (evalArgs_plain h)
  show (false || (backTo pos (starEach rest env)).any (·.1)) = false
  rw [hp]
  rfl
/-- the bound ValueError.__init__ is called -/
theorem call_vw {h : Heap} {g : Array GenState} {d : Drawn} {t : Nat} {os : OsState} {nm q : Str} {N e u t0 : Addr} {bs bm : List Value} {hd : Bool} {sn : List Str} {sub : List Value} {ab : Bool} {col : Option Bool} {dd : Option Addr} {k0 k1 k2 k3 k5 : Option Value} {us : List Value} {Q : Value → Shared → Prop}
    (hC : h.get? C = some (excClassObj nm q C N bs bm hd sn sub ab col dd k0 k1 k2 k3 k5 "ValueError.__new__")) (he : h.get? e = some (excO C t0)) (hu : h.get? u = some (kxs_mw "ValueError.__init__" e)) (hz : us.length ≤ sizeLine)
    (hq : ∀ h' t1, (∀ b o, b ≠ e → h.get? b = some o → h'.get? b = some o) → h'.get? e = some (excO C t1) → Q .none ⟨h', g, d, t, os⟩) : wpAny (model prog w) A (call (.ref u) us) Q E ⟨h, g, d, t, os⟩ := by
  refine wpAny_call (codeAny_of_tree ?_)
  show wpAny _ A.in1 (callAny (.ref u) ⟨us, []⟩) _ _ _
  simp only [callAny]
  refine wpAny_bind (wpAny_load hu ?_)
  simp only [kxs_mw, show (Value.type "method-wrapper" == Value.type "method" || Value.type "method-wrapper" == Value.type "builtin_function_or_method" || Value.type "method-wrapper" == Value.type "method-wrapper") = true by decide, if_true]
  refine W.KFB.if_so (by decide) ?_
  refine wpAny_bind (ESX.check_bound F.excBase_ValueError hC he rfl ?_)
  refine wpAny_bind (wpAny_pure (wpAny_pure ?_))
  refine ⟨Code.quiet_builtin _ (by decide +kernel), codeAny_builtin F.excBase_ValueError.initEntry ?_⟩
  rw [Around.under_plainId F.excBase_ValueError.init.plain _]
  wp_walk
  refine hq _ h.objs.size (fun b o nb hb => ?_) ?_
  · rw [Heap.get?_update_other _ _ (Ne.symm nb)]
    exact Heap.get?_push_of_some _ hb
  · rw [Heap.get?_update_self _ (Heap.get?_push_of_some _ he) rfl]
    rfl
theorem bad_init (T : BadTxt prog K mg C fI cc cda) {x t0 : Addr} {v : Value} (X : K.In s.heap) (hg : s.heap.Ns mainGlobals mg) (hb : s.heap.Ns builtinsNs mb) (hbb : ∀ x : Str, x ≠ "__name__" → mb x = bootBuiltins x) (hlim : s.heap.NoLimit) (hx : s.heap.get? x = some (excO C t0)) (hnx : K.lookup x = none) (hroom : A.depth < recursionLimit)
    (hq : ∀ h' tk dx t1, (∀ b o, b ≠ x → s.heap.get? b = some o → h'.get? b = some o) → h'.get? x = some { cls := .ref C, dict := some dx, data := .fields #[.ref t1, .none, .none, .none, .bool false, .none] } → s.heap.objs.size ≤ dx → dx ≠ x → h'.Ns1 dx (fun y => if y = "index" then some v else none) → R (.ok (.ret .none)) { s with heap := h', toks := tk }) :
    codeAny (model prog w) A (.call (.ref fI) ⟨[.ref x, v], []⟩) R s := by
  obtain ⟨oc, od, doc, pm, an, ct, osl, ho, hcd⟩ := T.fn
  obtain ⟨nm, q, N, bs, bm, sn, sub, ab, col, dd, k0, k1, k2, k3, k5, hC, hbm⟩ := T.cls
  obtain ⟨cl, cld, csl, hcell⟩ := T.cell
  obtain ⟨ccl, cdd, vs, ccs, file, tf, hcode, hvs, hfile⟩ := T.code
  refine ks_codeAny_call_defAt (fd := ksFn "__init__" "BadRun.__init__" (defArgs bI) (defBody bI) (defScope bI) .none .none doc pm an (.ref cda) ct cc) (binds := [("self", .ref x), ("index", v)]) hroom (X _ _ ho) rfl hlim (codeRec_of X hcd) rfl (BindsTo.of_eq rfl) (show ∀ y ∈ (defScope bI).names, y.2 ≠ NameKind.cell by decide +kernel) (fun y hy => ?_) (fun h₁ hns k => ?_) rfl rfl rfl
  · simp only [List.mem_cons, List.not_mem_nil, or_false] at hy
    rcases hy with rfl | rfl
    · show (defScope bI).names.lookup (("self" : Str)) = some NameKind.local
      decide +kernel
    · show (defScope bI).names.lookup (("index" : Str)) = some NameKind.local
      decide +kernel
  have X₁ : K.In h₁ := X.keeps k
  refine ks_wpAt_execs_cons (ks_wpAt_Expr_any (ks_wpAt_MethodCall ?_))
  refine ks_wpAt_super_base rfl rfl rfl rfl (X₁ _ _ ho) rfl rfl rfl (X₁ _ _ hcode) rfl hvs hfile T.top_ ?_
  refine ks_loadName_global rfl rfl (loadGlobal_builtin (hg.keeps k) T.mgS (hb.keeps k) ((hbb _ (by decide)).trans (by decide +kernel : bootBuiltins "super" = some (.type "super"))) ⟨rfl, ?_⟩)
  refine wpAny_loadName_free rfl rfl rfl ⟨_, X₁ _ _ hcell, rfl⟩ ?_
  refine wpAny_loadName_local rfl rfl hns (v := .ref x) rfl ?_
  refine ks_wpAny_isType_cls (X₁ _ _ hC) rfl ⟨rfl, ?_⟩
  refine ks_wpAny_call_super (X₁ _ _ hC) rfl (k _ _ hx) rfl (fun c e => by cases e) (looks_mroIn X₁ T.sub) (fun h₂ e2 k2 => ?_)
  have k02 : ∀ b o, s.heap.get? b = some o → h₂.get? b = some o := fun b o e => k2 _ _ (k _ _ e)
  have X₂ : K.In h₂ := X₁.keeps k2
  have hx2 := k02 _ _ hx
  have hcl : clsIn K C = some { name := nm, bases := bs, mro := .ref C :: bm, ns := N, qualname := q, hasDict := true, slotNames := sn, subclasses := sub, abstract := ab, collection := col, hasDel := false } := by
    unfold clsIn
    rw [hC]
  have hxC : x ≠ C := fun z => by
    rw [z, hC] at hnx
    cases hnx
  have IX : InstAt h₂ x (excO C t0) C none := ⟨hx2, rfl, rfl, trivial⟩
  have hsup := T.sup
  unfold ks_superIn at hsup
  rw [hcl] at hsup
  refine kxs_getMethod kxs_ValueError e2 (looks_opaque X₂ T.opq) (l₀ := .ref C :: bm) (fun A Q E s k q => wpAny_bind ((looks_clsIn X₂ hcl) A _ E s k (wpAny_pure q))) rfl X₂ hsup (IX.type.andThen (looks_subIn X₂ T.subV)) hxC (by decide) ?_
  have hn2 := hns.keeps k2
  have hu : (h₂.push (kxs_mw "ValueError.__init__" x)).get? h₂.objs.size = some (kxs_mw "ValueError.__init__" x) := Heap.get?_push_at rfl rfl
  have k3 : ∀ b o, h₂.get? b = some o → (h₂.push (kxs_mw "ValueError.__init__" x)).get? b = some o := fun b o e => Heap.get?_push_of_some _ e
  refine callW1 (i := "ValueError.__init__") (x := x) (spliced_cons (ESX.ldL (hn2.keeps k3) (v := v) rfl (spliced_nil ⟨hu, ?_⟩)))
  refine call_vw (k3 _ _ (X₂ _ _ hC)) (k3 _ _ hx2) hu (by show 1 ≤ sizeLine; decide) fun h₄ t1 k4 e4 => ?_
  have k04 : ∀ b o, b ≠ x → h₁.get? b = some o → h₄.get? b = some o := fun b o n e => k4 b o n (k3 _ _ (k2 _ _ e))
  have X₄ : K.In h₄ := fun b o e => k04 b o (fun z => by rw [z, hnx] at e; cases e) (X₁ _ _ e)
  have Lx : s.heap.objs.size ≠ x := Nat.ne_of_gt (Heap.lt_size hx)
  have hn4 : h₄.Ns s.heap.objs.size (fun y => [(("self" : Str), Value.ref x), ("index", v)].reverse.lookup y) := by
    obtain ⟨oL, es, ep, hL, r⟩ := hns
    exact ⟨oL, es, ep, k04 _ _ Lx hL, r⟩
  refine wpAt_of_wpAny ?_
  refine wpAny_execs_cons (plainObj_wpAny_Assign_Attribute ?_)
  refine ESX.ldL hn4 (v := v) rfl (ESX.ldL hn4 (v := .ref x) rfl ?_)
  refine set_plain X₄ (ox := excO C t1) (od := none) ⟨e4, rfl, rfl, trivial⟩ T.sa ?_
  refine exc_osa X₄ e4 hcl (show refsVE (.ref C :: bm) = true from hbm) rfl T.noN (fun h₅ tk₅ dx k₅ dn dne hx₅ hn₅ => ?_)
  show wpAny _ _ (execs _ _) _ _ _
  have z4 : s.heap.objs.size ≤ h₄.objs.size := by
    obtain ⟨oL, es, ep, hL, r⟩ := hn4
    exact Nat.le_of_lt (Heap.lt_size hL)
  exact wpAny_execs_nil (hq h₅ tk₅ dx t1 (fun b o nb e => k₅ b o nb (k04 b o nb (k _ _ e))) hx₅ (Nat.le_trans z4 dn) dne hn₅)
end
end K5
end

section
set_option maxHeartbeats 4000000
/-! LS: BadRun(index) made and raised. -/
namespace K5
open PySem PySem.Spec L2 PySem.W PySem.Calls PySem.HandSPX
open PyProof.Rows hiding St
theorem oneSz (v : Value) : [v].length ≤ sizeLine := by
  rw [sizeLine_eq]
  exact (by decide : 1 ≤ 16777216)
/-- a made BadRun -/
structure BadMade (h h' : Heap) (e C d : Addr) (v : Value) : Prop where
  keep : ∀ b o, h.get? b = some o → h'.get? b = some o
  new : h.objs.size ≤ e
  obj : ∃ oe vs, h'.get? e = some oe ∧ oe.cls = .ref C ∧ oe.dict = some d ∧ oe.data = .fields vs ∧ vs[1]? = some .none
  dbig : h.objs.size ≤ d
  dne : d ≠ e
  ns : h'.Ns1 d (fun y => if y = "index" then some v else none)
section
variable {prog : Program} {w : World} {A : Around} {R : Result → Shared → Prop} {s : Shared} {K : Frag} {mg mb : Str → Option Value} {C fI cc cda : Addr}
theorem bad_made (T : BadTxt prog K mg C fI cc cda) {v : Value} (X : K.In s.heap) (hg : s.heap.Ns mainGlobals mg) (hb : s.heap.Ns builtinsNs mb) (hbb : ∀ x : Str, x ≠ "__name__" → mb x = bootBuiltins x) (hlim : s.heap.NoLimit) (hroom : A.depth + 1 < recursionLimit)
    (hq : ∀ h' tk e d, BadMade s.heap h' e C d v → R (.ok (.ret (.ref e))) { s with heap := h', toks := tk }) :
    codeAny (model prog w) A (.call (.ref C) ⟨[v], []⟩) R s := by
  obtain ⟨nm, q, N, bs, bm, sn, sub, ab, col, dd, k0, k1, k2, k3, k5, hC, hbm⟩ := T.cls
  obtain ⟨hp, g, dr, tk, os⟩ := s
  have k : ∀ b o, hp.get? b = some o → ((hp.push (kdv_tup [v])).push (excO C hp.objs.size)).get? b = some o := fun b o e => Heap.get?_push_of_some _ (Heap.get?_push_of_some _ e)
  have hget : ((hp.push (kdv_tup [v])).push (excO C hp.objs.size)).get? (hp.objs.size + 1) = some (excO C hp.objs.size) := by heap_get
  have hnx : K.lookup (hp.objs.size + 1) = none := by
    cases e : K.lookup (hp.objs.size + 1) with
    | none => rfl
    | some o =>
      have z : hp.get? (hp.objs.size + 1) = some o := X _ _ e
      exact absurd (Nat.lt_of_succ_lt (Heap.lt_size z)) (Nat.lt_irrefl _)
  refine call_own F.excBase_ValueError (fun X => refsVE_contains X bm hbm) (X _ _ hC) (looks_findIn X T.iC) (fun self => bind_fn X self T.tC) (oneSz v) ?_
  refine bad_init (s := ⟨(hp.push (kdv_tup [v])).push (excO C hp.objs.size), g, dr, tk, os⟩) T (X.keeps k) (hg.keeps k) (hb.keeps k) hbb (hlim.keeps k) hget hnx ?_ fun h' tk' dx t1 k' hx dn dne hns => ?_
  · show A.depth + 1 < recursionLimit
    exact hroom
  · have old : ∀ b o, hp.get? b = some o → h'.get? b = some o := fun b o e => k' b o (Nat.ne_of_lt (Nat.lt_succ_of_lt (Heap.lt_size e))) (k b o e)
    have z : hp.objs.size + 1 + 1 ≤ dx := by
      first
        | (simpa only [Heap.size_push] using dn)
        | exact dn
        | (have q := dn; rw [Heap.size_push, Heap.size_push] at q; exact q)
    exact ⟨rfl, hq h' tk' (hp.objs.size + 1) dx ⟨old, Nat.le_succ _, ⟨_, _, hx, rfl, rfl, rfl, rfl⟩, Nat.le_trans (Nat.le_trans (Nat.le_succ _) (Nat.le_succ _)) z, dne, hns⟩⟩
end
end K5
namespace K5
open PySem PySem.Spec L2 PySem.HandSPX
open PyProof.Rows hiding St
theorem relO_idx {v : V} {v' : Value} (r : RelV v v') (f : Str) : RelO (List.lookup f [(("index" : Str), v)]) (if f = "index" then some v' else none) := by
  by_cases hw : f = "index"
  · subst hw
    rw [if_pos rfl]
    have q : List.lookup ("index" : Str) [(("index" : Str), v)] = some v := by simp [List.lookup]
    rw [q]
    exact r
  · rw [if_neg hw]
    have qw : (f == ("index" : Str)) = false := by simpa using hw
    have q2 : List.lookup f [(("index" : Str), v)] = none := by simp [List.lookup, qw]
    rw [q2]
    trivial
section
variable {X : Cx} {C fI cc cda : Addr}
/-- BadRun(e) -/
def tMkBad (C : Addr) (ta : TA) : St → Hp → XK → Prop := fun σ H Q => ta σ H fun vs H1 => ∃ v, vs = [v] ∧ ∀ d, H1 d = none → Q (.ref C) (some d) (upd H1 d (.xd [(("index" : Str), v)]))
theorem pmk_bad {a : Expr} {ta : TA} {p pos : Pos} {k : Nat} (T : BadTxt X.prog X.K X.mg C fI cc cda) (hr : Room k X.A) (ha : PA X [a] ta) (hg : Gl X "BadRun" := by rfl)
    (he : starEach (a :: []) X.env = (false, eval a X.env) :: starEach [] X.env := by rfl) (hpl : (backTo pos (starEach [] X.env)).any (·.1) = false := by rfl) :
    PMk X (.Call (.Name "BadRun" p) [a] [] pos) (tMkBad C ta) := by
  intro pins s σ H Q I h
  refine wpAny_Call_Name_kw (ld_glob I hg T.gC ?_)
  refine PySem.W.callWith_K (h₀ := X.base) I.ok.mod.kin T.kC (thn (ha.run pos pins s σ H _ I h) fun us s1 hh => ?_) he hpl
  obtain ⟨vs, H1, I1, r1, v, ev, q1⟩ := hh
  subst ev
  refine ⟨I1.kIn, ?_⟩
  cases r1 with
  | cons rv rn =>
    rename_i v' us'
    cases rn
    show wpAny _ _ (call (.ref C) [v']) _ _ _
    have hlim := I1.nolimit
    have hgl := I1.mod.glob.keeps I1.bk
    obtain ⟨mb, hb1, hb2⟩ := I1.mod.blt
    have hbl := hb1.keeps I1.bk
    obtain ⟨hp, g, dr, tk, os⟩ := s1
    refine wpAny_call (bad_made T I1.kIn hgl hbl hb2 hlim (by have := hr.dp; omega) fun h' tk' e d M => ?_)
    show MkP X pins σ Q (.ref e) ⟨h', g, dr, tk', os⟩
    obtain ⟨oe, fv, hoe, hc, hd, hdat, h1⟩ := M.obj
    have hns := M.ns
    obtain ⟨G', g1, g2⟩ := restrict h' fun b => decide (b ≠ e)
    have gk : ∀ b, b ≠ e → G'.get? b = h'.get? b := fun b hb => g1 b (decide_eq_true hb)
    have ge : G'.get? e = none := g2 e (by simp)
    have old : ∀ b o, hp.get? b = some o → G'.get? b = some o := fun b o q => (gk b (Nat.ne_of_lt (Nat.lt_of_lt_of_le (Heap.lt_size q) M.new))).trans (M.keep b o q)
    have ob : ObjOk X.prog X.w (upd H1 d (.xd [(("index" : Str), v)])) G' d (.xd [(("index" : Str), v)]) :=
      ⟨_, hns.at (fun o q => (gk d M.dne).trans q), fun f => relO_idx rv f⟩
    have J : Inv X pins σ (upd H1 d (.xd [(("index" : Str), v)])) ⟨G', g, dr, tk', os⟩ := I1.laid (t' := tk') old M.dbig ob
    refine ⟨e, oe, fv, ⟨G', g, dr, tk', os⟩, _, .ref C, some d, rfl, J, fun b o q => ?_, ge, hoe, ⟨hc, hd⟩, hdat, h1, ?_, rfl, I1.bare, raises_own T.xf.exC T.tyC, q1 d (I1.hok.fresh M.dbig)⟩
    · by_cases hb : b = e
      · have q' : G'.get? b = some o := q
        rw [hb, ge] at q'; cases q'
      · exact (gk b hb).symm.trans q
    · rw [upd_ne (Ne.symm M.dne)]
      exact I1.hok.fresh M.new
/-- raise BadRun(e) -/
def tRaiseBad (C : Addr) (W : WX) (ta : TA) : TS := fun _ σ H => tMkBad C ta σ H fun cls d H' => W cls d σ H'
theorem ps_raiseBad {a : Expr} {ta : TA} {W : WX} {p pos pos2 : Pos} {k : Nat} (hc : X.calm = true) (T : BadTxt X.prog X.K X.mg C fI cc cda) (hr : Room k X.A) (tk : Takes X W) (ha : PA X [a] ta) (hg : Gl X "BadRun" := by rfl)
    (he : starEach (a :: []) X.env = (false, eval a X.env) :: starEach [] X.env := by rfl) (hpl : (backTo pos (starEach [] X.env)).any (·.1) = false := by rfl) :
    PS X (.Raise (some (.Call (.Name "BadRun" p) [a] [] pos)) none pos2) (tRaiseBad C W ta) := ps_raise hc tk (pmk_bad T hr ha hg he hpl)
end
end K5
end

section
set_option maxHeartbeats 4000000
/-! LT: told_along, which may raise BadRun(index). -/
namespace K5
open PySem PySem.Spec L2 NdefX LamX
open PyProof.Rows hiding St
local macro_rules | `(tactic| walk_at "lf") => `(tactic| first
  | assumption
  | (refine Same.im (by assumption) ?_; walk_at "lf")
  | (refine Same.ims (by assumption) ?_; walk_at "lf")
  | (refine Same.at (by assumption) ?_; walk_at "lf")
  | (refine Same.sqT (by assumption) ?_; walk_at "lf")
  | (refine Same.seq (by assumption) ?_; walk_at "lf")
  | exact SqL.of (by walk_at "lf")
  | exact SqT.of (by walk_at "lf"))
local macro_rules | `(tactic| walk_at "st") => `(tactic| first
  | ((with_reducible refine r_var (v := ?vv) ?rv ?_); (case rv => exact rfl))
  | with_reducible first
    | refine r_seq ?_
    | refine r_asg ?_
    | refine r_gName ?_
    | refine r_c ?_
    | refine r_op ?_
    | refine r_I0 ?_
    | refine r_exbl ?_
    | refine r_cb ?_
    | refine r_nil ?_
    | refine r_cons ?_
    | refine r_test ?_
    | refine r_tB ?_
    | refine r_and ?_
    | refine r_or ?_
    | refine r_not ?_
    | refine r_if ?_
    | refine r_ret ?_
    | refine r_next ?_
    | refine r_tup ?_
    | refine r_lst ?_
    | refine r_int ?_
    | refine r_exint ?_
    | refine r_sl ?_
    | refine r_part ?_
    | refine r_nopart ?_
    | refine r_par ?_
    | refine r_ex2 ?_
    | refine r_call ?_
    | refine r_un ?_
    | refine r_U ?_
    | refine r_andV ?_
    | refine r_orV ?_
    | refine r_notV ?_
    | refine r_chain ?_
    | refine r_isN ?_
    | refine r_notN ?_
    | refine r_drop ?_
    | refine r_I (by decide) ?_
    | refine r_EqI ?_
    | refine r_NeI ?_
    | refine r_EqS ?_
    | refine r_NeS ?_
    | refine r_gSub ?_
    | refine r_gCons ?_
    | refine r_gNil ?_
    | refine r_dget ?_
    | refine r_pcons ?_
    | refine r_pnil ?_
    | refine iteT ?_
    | refine iteF ?_
    | refine iteNF ?_
    | refine iteNT ?_
    | refine r_prop ?_
    | refine r_dget2 ?_
    | refine r_din ?_
    | refine r_dput ?_
    | refine r_mk ?_
    | refine r_propG ?_
    | refine r_mtd ?_
    | refine r_bm ?_
    | refine r_si ?_
    | refine r_for ?_
    | refine r_lc ?_
    | refine r_iT ?_
    | refine r_iL ?_
    | refine r_enT ?_
    | refine r_zip ?_
    | refine r_zs ?_
    | refine r_iR1 ?_
    | refine r_yes ?_
    | refine r_fld ?_
    | refine r_star1 ?_
    | refine r_ctE ?_
    | refine r_div (by decide) (by decide) ?_
    | refine r_mulL (by decide) (by decide) ?_
    | refine r_mulR (by decide) (by decide) ?_)
local macro_rules | `(tactic| walk_at "tq") => `(tactic| ((repeat walk_at "st"); first
  | assumption
  | (refine q_decT (by omega) (by assumption))
  | (refine q_decF (by omega) (by assumption))
  | (refine q_nT (by omega) (by assumption))
  | (refine q_nF (by omega) (by assumption))
  | (refine ite_dec (fun _ => ?_) (fun _ => ?_) <;> first | (exfalso; omega) | walk_at "tq")
  | (refine ite_ndec (fun _ => ?_) (fun _ => ?_) <;> first | (exfalso; omega) | walk_at "tq")))
/-- the scene and the answers behind a run -/
def toldF (B : Book) (st : Int) (rl : List (Nat × Nat)) (s0 : List Nat × Mem) (ds : List Dd) : (List Nat × Mem) × List (Option Int) :=
  ds.foldl (fun p d => ((aft B st rl p.1.1 p.1.2 d).1, p.2 ++ [(aft B st rl p.1.1 p.1.2 d).2])) (s0, [])
theorem toldF_snoc (B : Book) (st : Int) (rl : List (Nat × Nat)) (s0 : List Nat × Mem) (ds : List Dd) (d : Dd) : toldF B st rl s0 (ds ++ [d]) =
    ((aft B st rl (toldF B st rl s0 ds).1.1 (toldF B st rl s0 ds).1.2 d).1, (toldF B st rl s0 ds).2 ++ [(aft B st rl (toldF B st rl s0 ds).1.1 (toldF B st rl s0 ds).1.2 d).2]) := by
  unfold toldF
  rw [List.foldl_append]
  rfl
theorem aft_ok {B : Book} {free : List Nat} {st : Int} {rl : List (Nat × Nat)} {wd : List Nat} {M : Mem} {d : Dd} (bok : BookOk B) (h0 : 0 ≤ st) (h1 : st < B.settings) (W : WdOk B.fns wd) (mok : MemOk B.fns.length B.base M) (dok : DdOk B free d)  (h3 : B.fns.length ≤ 3) :
    WdOk B.fns (aft B st rl wd M d).1.1 ∧ MemOk B.fns.length B.base (aft B st rl wd M d).1.2 := by
  have sB := bok.setB
  cases d with
  | ask k g =>
    obtain ⟨k1, g0, g1⟩ := dok
    exact ⟨W, (evC_ok bok.fns W h0 (by omega) 3 k g M (by omega) k1 g0 g1 mok).2.2⟩
  | put k b =>
    obtain ⟨k1, _, hb⟩ := dok
    refine ⟨⟨?_, fun j c hj r hr => ?_⟩, ⟨?_, fun r hr => ?_, fun r hr x hx => ?_⟩⟩
    · show (wd.set k b).length = _
      rw [List.length_set]
      exact W.len
    · replace hj : (wd.set k b)[j]? = some c := hj
      rw [List.getElem?_set] at hj
      split at hj
      · rename_i e
        subst e
        split at hj
        · cases hj
          rw [List.getD_eq_getElem?_getD, hr] at hb
          exact hb
        · cases hj
      · exact W.at_ j c hj r hr
    · show (forget rl B.base k M).length = _
      unfold forget
      rw [List.length_mapIdx]
      exact mok.len
    · have hr : r ∈ forget rl B.base k M := hr
      unfold forget at hr
      obtain ⟨j, hj, e⟩ := List.mem_mapIdx.mp hr
      subst e
      split
      · exact List.length_replicate
      · exact mok.row _ (List.getElem_mem hj)
    · have hr : r ∈ forget rl B.base k M := hr
      unfold forget at hr
      obtain ⟨j, hj, e⟩ := List.mem_mapIdx.mp hr
      subst e
      split at hx
      · cases (List.mem_replicate.mp hx).2
      · exact mok.val _ (List.getElem_mem hj) x hx
theorem toldF_ok {B : Book} {free : List Nat} {st : Int} {rl : List (Nat × Nat)} {s0 : List Nat × Mem} (bok : BookOk B) (h0 : 0 ≤ st) (h1 : st < B.settings) (h3 : B.fns.length ≤ 3) (W : WdOk B.fns s0.1) (mok : MemOk B.fns.length B.base s0.2) :
    ∀ (n : Nat) (ds : List Dd), ds.length = n → (∀ d ∈ ds, DdOk B free d) → WdOk B.fns (toldF B st rl s0 ds).1.1 ∧ MemOk B.fns.length B.base (toldF B st rl s0 ds).1.2 ∧ (toldF B st rl s0 ds).2.length = n := by
  intro n
  induction n with
  | zero =>
    intro ds e _
    rw [List.length_eq_zero_iff.mp e]
    exact ⟨W, mok, rfl⟩
  | succ n ih =>
    intro ds e hd
    have ne : ds ≠ [] := fun z => by rw [z] at e; cases e
    rw [← List.dropLast_concat_getLast ne] at hd ⊢
    rw [toldF_snoc]
    obtain ⟨a, b, c⟩ := ih ds.dropLast (by rw [List.length_dropLast]; omega) fun d z => hd d (List.mem_append_left _ z)
    obtain ⟨x, y⟩ := aft_ok (rl := rl) bok h0 h1 a b (hd (ds.getLast ne) (by simp)) h3
    exact ⟨x, y, by rw [List.length_append, c]; rfl⟩
theorem wdE_ok {fns : List (List Tr)} {base : Nat} (F : FnsOk fns base) : WdOk fns (wdE fns.length) := by
  refine ⟨List.length_replicate, fun k b hb r hr => ?_⟩
  unfold wdE at hb
  rw [List.getElem?_replicate] at hb
  split at hb
  · cases hb
    exact F.row1 r (List.mem_of_getElem? hr)
  · cases hb
def RunAt (k : Bool) (H : Hp) (a : Addr) (xs : List V) : Prop := H a = some (if k then .lst xs else .tup xs)
theorem DeedAt.xr {B : Book} {free : List Nat} {H H1 H2 : Hp} {l : Addr} {v : V} {b : Bool} {ls : List V} (h : DeedAt B free H v b) (s : Same H H1) (n : H l = none) (hl : H1 l = some (.lst ls)) (x : Xr l H1 H2) : DeedAt B free H2 v b := by
  have i : Isn H H2 := s.isn.trans (x.isn hl)
  rcases h with ⟨d, a, b, c⟩ | ⟨d, a, b, c⟩ | ⟨a, xs, rfl, e, c⟩
  · exact .inl ⟨d, a, i.im b, c⟩
  · exact .inr (.inl ⟨d, a, i.im b, c⟩)
  · exact .inr (.inr ⟨a, xs, rfl, x a _ (ne_of_none e n) (s _ _ e) (fun ps z => by cases z), c⟩)
theorem DeedAt.same {B : Book} {free : List Nat} {H H1 : Hp} {v : V} {b : Bool} (h : DeedAt B free H v b) (s : Same H H1) : DeedAt B free H1 v b := by
  rcases h with ⟨d, a, b, c⟩ | ⟨d, a, b, c⟩ | ⟨a, xs, rfl, e, c⟩
  · exact .inl ⟨d, a, s.im b, c⟩
  · exact .inr (.inl ⟨d, a, s.im b, c⟩)
  · exact .inr (.inr ⟨a, xs, rfl, s _ _ e, c⟩)
/-- told_along: the answers of a whole run; or BadRun(index) at the first that is no deed -/
def spTold (T : List NTab) (CP CB CF C : Addr) : Sp := fun vs H Q E => ∃ (pl rv : V) (a : Addr) (xs : List V) (kind : Bool) (B : Book) (free : List Nat) (rl : List (Nat × Nat)) (st : Int) (ds : List Dd), vs = [pl, .int st, rv, .ref a] ∧ PlanAt CP CB CF H pl B free ∧ BookOk B ∧
  0 ≤ st ∧ st < B.settings ∧ RuleOk B.fns.length rl ∧ Im H rv (encR rl) ∧ TabsN T H ∧ RunAt kind H a xs ∧ xs.length ≤ 100 ∧ ds.length ≤ xs.length ∧ (∀ (i : Nat) d, ds[i]? = some d → DdOk B free d ∧ ∃ v, xs[i]? = some v ∧ Im H v (encD d)) ∧
  (ds.length < xs.length → ∃ v, xs[ds.length]? = some v ∧ DeedAt B free H v false ∧ ∀ H' H'' d, ExtN H H' → TabsN T H' → H' d = none → H'' = upd H' d (.xd [(("index" : Str), .int (ds.length : Nat))]) → E (.ref C) (some d) H'') ∧
  (ds.length = xs.length → ∀ p acc H', ExtN H H' → TabsN T H' → H' p = some (.lst acc) → ImAll H' acc ((toldF B st rl (wdE B.fns.length, memE B.fns.length B.base) ds).2.map encO) → Q (.ref p) H')
theorem r_raiseBad {C : Addr} {ta : TA} {W : WX} {D : Ends} {σ : L2.St} {H : Hp} (q : ta σ H fun vs H1 => ∃ v, vs = [v] ∧ ∀ d, H1 d = none → W (.ref C) (some d) σ (upd H1 d (.xd [(("index" : Str), v)]))) : tRaiseBad C W ta D σ H := q
/-- a def that is called by its name and may raise -/
def CalX (P : Program) (w : World) (K : PySem.W.Frag) (mg : Str → Option Value) (base : Heap) (x : Str) (k : Nat) (ps : List Str) (sp : Sp) : Prop :=
  ∃ f fd, mg x = some (.ref f) ∧ PySem.W.keepIn K (.ref f) = true ∧ Binds K fd ps [] ∧ FnOk P w K mg base (L2.CX P w) k f fd ps sp
theorem scTold : FnScope ["plan", "setting", "rule", "run", "scene", "found", "index", "deed", "number"] ["plan", "setting", "rule", "run"] (defScope (top 63)) := ⟨rfl, rfl, rfl, by decide +kernel, rfl, by decide +kernel, by decide +kernel⟩
section
variable {P : Program} {w : World} {K : PySem.W.Frag} {mg : Str → Option Value} {base : Heap} {T : List NTab} {CP CB CF C fI cc cda : Addr}
theorem Df.calX {x : Str} {st : Stmt} {N ps : List Str} {k : Nat} {sp : Sp} (D : Df K mg x st) (S : FnScope N ps (defScope st))
    (hb : ∀ (kV doc pm : Value) (an : Option Addr) (cdv ct : Value) (us : List Value), us.length = ps.length → bindArgs (PySem.W.fnOf x x (defArgs st) (defBody st) (defScope st) .none kV doc pm an cdv ct) ⟨us, []⟩ = pure (ps.zip us))
    (len : ∀ vs H Q E, sp vs H Q E → vs.length = ps.length)
    (body : ∀ (f : Addr) (cdv : Value) (A : Around) (outer : List Env) (s : Shared) (H : Hp) (vs : List V) (Q : VK) (E : XK), Room k (A.deeper (envOfC x (defScope st) s.heap.objs.size f cdv)) → sp vs H Q E →
      ∃ t, PSs (cxOf (L2.CX P w) P w K mg base N x (defScope st) f cdv A outer s H E) (defBody st) t ∧ t { nx := fun _ H' => Q .non H', rt := Q } (start N vs) H) :
    CalX P w K mg base x (k + 1) ps sp := by
  obtain ⟨f, fd, h1, F⟩ := D
  exact ⟨f, fd, h1, F.kp, F.bindsN hb, F.ok S len fun cdv A outer s H vs Q E hr hsp => body f cdv A outer s H vs Q E hr hsp⟩
theorem ok_told (D : Df K mg "told_along" (top 63)) (B : Bf mg) (Tb : BadTxt P K mg C fI cc cda) (Kc : Kcl P w K mg base CP CB CF) (gMR : ∃ t, mg "MOST_RUN" = some (.int 100 t)) (cChkR : Cal P w K mg base "check_rule" 6 ["plan", "setting", "rule"] (spChkR CP CB CF))
    (cFirst : Cal P w K mg base "first_of_scenes" 5 ["plan"] (spFirst CP CB CF)) (cIsDeed : Cal P w K mg base "is_scene_deed" 8 ["plan", "thing"] (spIsDeed CP CB CF)) (cAfter : Cal P w K mg base "after_deed" 27 ["plan", "setting", "rule", "scene", "deed"] (spAfter T CP CB CF)) :
    CalX P w K mg base "told_along" 28 ["plan", "setting", "rule", "run"] (spTold T CP CB CF C) := by
  obtain ⟨tMR, gMR⟩ := gMR
  refine D.calX (N := ["plan", "setting", "rule", "run", "scene", "found", "index", "deed", "number"]) (ps := ["plan", "setting", "rule", "run"]) scTold (fun _ _ _ _ _ _ us hl => match us, hl with | [_, _, _, _], _ => rfl) (fun vs H Q E h => ?_) fun f cdv A outer s H vs Q E hr h => ?_
  · obtain ⟨_, _, _, _, _, _, _, _, _, _, rfl, _⟩ := h
    rfl
  · obtain ⟨pl, rv, a, xs, kind, Bk, free, rl, st, ds, rfl, hp, bok, st0, st1, rok, hrl, tabs, hrun, xl, dl, hds, hbad, q⟩ := h
    cases kind with
    | true =>
      refine ⟨_, (pss_cons (ps_expr (pe_cal cChkR hr (by omega) (pa_cons (pv 0) (pa_cons (pv 1) (pa_cons (pv 2) pa_nil)))))
      (pss_cons (ps_if (pw_or (pt_not (pt_val (pe_callB call_isiT (by rfl) (B _ (by decide)) b_isinstance (pa_cons (pv 3) (pa_cons (pe_tup (pa_cons (pe_bltn (v := .ty "list") (by rfl) (B _ (by decide)) b_list rfl) (pa_cons (pe_bltn (v := .ty "tuple") (by rfl) (B _ (by decide)) b_tuple rfl) pa_nil))) pa_nil))))) (pw_or1 (pt_cmpR op_gt (pe_callB c_len (by rfl) (B _ (by decide)) b_len (pa_cons (pv 3) pa_nil)) (pe_glob (v := .int 100) (by rfl) gMR ⟨_, rfl⟩ rfl) (nomark _)))).pt
        (pss_one ps_never)
        pss_nil)
      (pss_cons (ps_par (i := 4) (j := 5) rfl scTold.nd rfl rfl (by decide) rfl rfl (pa_cons (pe_cal cFirst hr (by omega) (pa_cons (pv 0) pa_nil)) (pa_cons (pe_lst pa_nil) pa_nil)) rfl)
      (pss_cons (ps_for (passes_of rfl) rfl (pi_enum (by rfl) (B _ (by decide)) (pa_cons (pv 3) pa_nil)) (pg_tup rfl (pgs_cons (pg_name (i := 6) scTold.nd rfl (by first | exact Or.inl rfl | exact Or.inr rfl)) (pgs_cons (pg_name (i := 7) scTold.nd rfl (by first | exact Or.inl rfl | exact Or.inr rfl)) pgs_nil)))
        (pss_cons (ps_if (pt_not (pt_val (pe_cal cIsDeed hr (by omega) (pa_cons (pv 0) (pa_cons (pv 7) pa_nil)))))
          (pss_one (ps_raiseBad rfl Tb hr (takes_of rfl rfl rfl rfl) (pa_cons (pv 6) pa_nil)))
          pss_nil)
        (pss_cons (ps_asg (pe_cal cAfter hr (by omega) (pa_cons (pv 0) (pa_cons (pv 1) (pa_cons (pv 2) (pa_cons (pv 4) (pa_cons (pv 7) pa_nil)))))) (pg_tup rfl (pgs_cons (pg_name (i := 4) scTold.nd rfl (by first | exact Or.inl rfl | exact Or.inr rfl)) (pgs_cons (pg_name (i := 8) scTold.nd rfl (by first | exact Or.inl rfl | exact Or.inr rfl)) pgs_nil))))
        (pss_one (ps_expr (pe_bm PySem.F.plainAttrs_list PySem.F.slot_list_append PySem.F.type_list_append mt_append (pv 5) (pa_cons (pv 8) pa_nil)))))))
      (pss_one (ps_ret (pv 5))))))), ?_⟩
      have n3 := bok.fns.len3
      repeat walk_at "st"
      refine ⟨pl, rv, Bk, free, rl, st, rfl, hp, bok, st0, st1, rok, hrl, fun H1 s1 => ?_⟩
      repeat walk_at "st"
      dsimp only
      have hrun1 : H1 a = some (.lst xs) := s1.at hrun
      refine t_ifNS (fun Q' kk => ?_) fun H2 s2 => ?_
      · repeat walk_at "st"
        refine r_newT (by show 2 ≤ sizeLine; decide) fun p2 H2 np2 s2 e2 => ?_
        repeat walk_at "st"
        refine r_isiT (a := "list") (b := true) (c := false) e2 (.base (.lst (s2.at hrun1))) rfl rfl ?_
        repeat walk_at "st"
        rw [if_neg (by decide)]
        repeat walk_at "st"
        refine r_lenL (.of (s2.at hrun1)) rfl ?_
        repeat walk_at "st"
        exact q_decF (by omega) (kk _ s2)
      repeat walk_at "st"
      refine ⟨pl, Bk, free, rfl, hp.isn (s1.trans s2).isn, bok, fun p H3 s3 i3 => ?_⟩
      repeat walk_at "st"
      refine r_newL (by show 0 ≤ sizeLine; decide) fun l H4 np4 s4 e4 => ?_
      repeat walk_at "st"
      dsimp only
      have s03 := (s1.trans s2).trans s3
      have s04 := s03.trans s4
      have nl : H l = none := by
        cases e : H l with
        | none => rfl
        | some o => exact absurd (s03 _ _ e) (by rw [np4]; exact fun z => by cases z)
      refine r_enL ?_
      repeat walk_at "st"
      refine ⟨a, xs, rfl, .of (s04.at hrun), ?_⟩
      refine for_w (walk_enum (xs := xs)) (fun i σ' H' => ∃ (sv : V) (acc : List V) (o6 o7 o8 : Option V), i ≤ ds.length ∧ Xr l H4 H' ∧ TabsN T H' ∧ Im H' sv (encS (toldF Bk st rl (wdE Bk.fns.length, memE Bk.fns.length Bk.base) (ds.take i)).1.1 (toldF Bk st rl (wdE Bk.fns.length, memE Bk.fns.length Bk.base) (ds.take i)).1.2) ∧ H' l = some (.lst acc) ∧
          ImAll H' acc ((toldF Bk st rl (wdE Bk.fns.length, memE Bk.fns.length Bk.base) (ds.take i)).2.map encO) ∧ σ' = [some pl, some (.int st), some rv, some (.ref a), some sv, some (.ref l), o6, o7, o8])
        ⟨.ref p, [], none, none, none, Nat.zero_le _, fun _ _ _ h _ => h, tabs.ext s04, s4.im i3, e4, .nil, rfl⟩ (fun i σ' H' _ ⟨sv, acc, o6, o7, o8, z0, z1, z2, z3, z4, z5, z6⟩ => .of (z1 a _ (ne_of_none (show H a = some (.lst xs) from hrun) nl) (s04.at hrun) fun ps z => by cases z)) ?_ ?_
      · rintro i x σ' H5 H6 hi ⟨sv, acc, o6, o7, o8, hid, x5, t5, i5, e5, ia5, rfl⟩ y
        obtain ⟨Tp, u, v, rfl, s6, eT, ea, eb⟩ := ypair y
        cases ea
        refine r_gTup (.of eT) rfl ?_
        repeat walk_at "st"
        dsimp only
        have i05 : Isn H H5 := s04.isn.trans (x5.isn e4)
        have i06 : Isn H H6 := i05.trans s6.isn
        have t6 := t5.ext s6
        rcases Nat.lt_or_ge i ds.length with lt | ge
        · have hdi := List.getElem?_eq_getElem lt
          obtain ⟨dok, v', ev', iv⟩ := hds i _ hdi
          rw [ev'] at eb
          cases eb
          have nx : ds.take (i + 1) = ds.take i ++ [ds[i]] := by
            rw [List.take_succ, hdi]
            rfl
          obtain ⟨wok, mok, tl⟩ := toldF_ok (free := free) (rl := rl) (s0 := (wdE Bk.fns.length, memE Bk.fns.length Bk.base)) bok st0 st1 n3 (wdE_ok bok.fns) (memE_ok _ _) i (ds.take i) (by rw [List.length_take]; omega) fun d hd => by
            obtain ⟨j, hj⟩ := List.mem_iff_getElem?.mp (List.mem_of_mem_take hd)
            exact (hds j d hj).1
          refine t_ifNS (fun Q' kk => ?_) fun H7 s7 => ?_
          · repeat walk_at "st"
            exact ⟨pl, _, Bk, free, true, rfl, hp.isn i06, bok, .inl ⟨_, dok, i06.im iv, rfl⟩, fun H' s => r_exbl (kk _ s)⟩
          have i07 := i06.trans s7.isn
          have s57 := s6.trans s7
          repeat walk_at "st"
          refine ⟨pl, rv, sv, _, Bk, free, _, _, rl, st, _, rfl, hp.isn i07, bok, st0, st1, rok, i07.im hrl, wok, mok, s57.im i5, dok, i07.im iv, t6.ext s7, fun p8 H8 x8 t8 i8 => ?_⟩
          obtain ⟨pa, pxs, pe, h8, ix8⟩ := im_tup i8
          cases pe
          cases ix8 with
          | cons ia r1 =>
          cases r1 with
          | cons ib r2 =>
          cases r2
          repeat walk_at "st"
          refine r_gTup (.of h8) rfl ?_
          repeat walk_at "st"
          have e8 : H8 l = some (.lst acc) := x8 _ _ (s57 _ _ e5) fun ps z => by cases z
          have al := ia5.length
          rw [List.length_map, tl] at al
          refine ⟨ty_l e8, ?_⟩
          repeat walk_at "st"
          refine r_append e8 (by have : (100 : Nat) < sizeLine := by decide
                                 omega) fun H9 m9 e9 => ?_
          repeat walk_at "st"
          refine ⟨_, _, _, _, _, lt, ((x5.trans s57.xr).trans x8.xr).trans (fun b o n h _ => m9.rest b o n h), K5.TabsN.mv t8 m9, ?_, e9, ?_, rfl⟩
          · rw [nx, toldF_snoc]
            exact m9.im ia
          · rw [nx, toldF_snoc]
            exact imAll_snoc (m9.ims (x8.isn.ims (s57.ims ia5))) (m9.im ib)
        · have hie : i = ds.length := by omega
          subst hie
          obtain ⟨v', ev', dv, ke⟩ := hbad hi
          rw [ev'] at eb
          cases eb
          have d6 : DeedAt Bk free H6 v false := (dv.xr s04 nl e4 x5).same s6
          refine r_ifS ?_
          repeat walk_at "st"
          refine ⟨pl, v, Bk, free, false, rfl, hp.isn i06, bok, d6, fun H7 s7 => r_exbl ?_⟩
          repeat walk_at "st"
          refine r_raiseBad ?_
          repeat walk_at "st"
          refine ⟨_, rfl, fun d hd => ke H7 _ d (fun b o h z => s7 _ _ (s6 _ _ (x5 b o (ne_of_none h nl) (s04 _ _ h) z))) ((t6.ext s7)) hd rfl⟩
      · rintro σ' H5 ⟨sv, acc, o6, o7, o8, hid, x5, t5, i5, e5, ia5, rfl⟩
        repeat walk_at "st"
        have dx : ds.length = xs.length := by omega
        rw [← dx, List.take_length] at ia5
        exact q dx l acc H5 (fun b o h z => x5 b o (ne_of_none h nl) (s04 _ _ h) z) t5 e5 ia5
    | false =>
      refine ⟨_, (pss_cons (ps_expr (pe_cal cChkR hr (by omega) (pa_cons (pv 0) (pa_cons (pv 1) (pa_cons (pv 2) pa_nil)))))
      (pss_cons (ps_if (pw_or (pt_not (pt_val (pe_callB call_isiT (by rfl) (B _ (by decide)) b_isinstance (pa_cons (pv 3) (pa_cons (pe_tup (pa_cons (pe_bltn (v := .ty "list") (by rfl) (B _ (by decide)) b_list rfl) (pa_cons (pe_bltn (v := .ty "tuple") (by rfl) (B _ (by decide)) b_tuple rfl) pa_nil))) pa_nil))))) (pw_or1 (pt_cmpR op_gt (pe_callB c_len (by rfl) (B _ (by decide)) b_len (pa_cons (pv 3) pa_nil)) (pe_glob (v := .int 100) (by rfl) gMR ⟨_, rfl⟩ rfl) (nomark _)))).pt
        (pss_one ps_never)
        pss_nil)
      (pss_cons (ps_par (i := 4) (j := 5) rfl scTold.nd rfl rfl (by decide) rfl rfl (pa_cons (pe_cal cFirst hr (by omega) (pa_cons (pv 0) pa_nil)) (pa_cons (pe_lst pa_nil) pa_nil)) rfl)
      (pss_cons (ps_for (passes_of rfl) rfl (pi_enumT (by rfl) (B _ (by decide)) (pa_cons (pv 3) pa_nil)) (pg_tup rfl (pgs_cons (pg_name (i := 6) scTold.nd rfl (by first | exact Or.inl rfl | exact Or.inr rfl)) (pgs_cons (pg_name (i := 7) scTold.nd rfl (by first | exact Or.inl rfl | exact Or.inr rfl)) pgs_nil)))
        (pss_cons (ps_if (pt_not (pt_val (pe_cal cIsDeed hr (by omega) (pa_cons (pv 0) (pa_cons (pv 7) pa_nil)))))
          (pss_one (ps_raiseBad rfl Tb hr (takes_of rfl rfl rfl rfl) (pa_cons (pv 6) pa_nil)))
          pss_nil)
        (pss_cons (ps_asg (pe_cal cAfter hr (by omega) (pa_cons (pv 0) (pa_cons (pv 1) (pa_cons (pv 2) (pa_cons (pv 4) (pa_cons (pv 7) pa_nil)))))) (pg_tup rfl (pgs_cons (pg_name (i := 4) scTold.nd rfl (by first | exact Or.inl rfl | exact Or.inr rfl)) (pgs_cons (pg_name (i := 8) scTold.nd rfl (by first | exact Or.inl rfl | exact Or.inr rfl)) pgs_nil))))
        (pss_one (ps_expr (pe_bm PySem.F.plainAttrs_list PySem.F.slot_list_append PySem.F.type_list_append mt_append (pv 5) (pa_cons (pv 8) pa_nil)))))))
      (pss_one (ps_ret (pv 5))))))), ?_⟩
      have n3 := bok.fns.len3
      repeat walk_at "st"
      refine ⟨pl, rv, Bk, free, rl, st, rfl, hp, bok, st0, st1, rok, hrl, fun H1 s1 => ?_⟩
      repeat walk_at "st"
      dsimp only
      have hrun1 : H1 a = some (.tup xs) := s1.at hrun
      refine t_ifNS (fun Q' kk => ?_) fun H2 s2 => ?_
      · repeat walk_at "st"
        refine r_newT (by show 2 ≤ sizeLine; decide) fun p2 H2 np2 s2 e2 => ?_
        repeat walk_at "st"
        refine r_isiT (a := "tuple") (b := false) (c := true) e2 (.base (.tup (s2.at hrun1))) rfl rfl ?_
        repeat walk_at "st"
        rw [if_neg (by decide)]
        repeat walk_at "st"
        refine r_lenT (.of (s2.at hrun1)) rfl ?_
        repeat walk_at "st"
        exact q_decF (by omega) (kk _ s2)
      repeat walk_at "st"
      refine ⟨pl, Bk, free, rfl, hp.isn (s1.trans s2).isn, bok, fun p H3 s3 i3 => ?_⟩
      repeat walk_at "st"
      refine r_newL (by show 0 ≤ sizeLine; decide) fun l H4 np4 s4 e4 => ?_
      repeat walk_at "st"
      dsimp only
      have s03 := (s1.trans s2).trans s3
      have s04 := s03.trans s4
      have nl : H l = none := by
        cases e : H l with
        | none => rfl
        | some o => exact absurd (s03 _ _ e) (by rw [np4]; exact fun z => by cases z)
      refine ⟨a, xs, rfl, .of (s04.at hrun), ?_⟩
      refine for_w (walk_en (xs := xs)) (fun i σ' H' => ∃ (sv : V) (acc : List V) (o6 o7 o8 : Option V), i ≤ ds.length ∧ Xr l H4 H' ∧ TabsN T H' ∧ Im H' sv (encS (toldF Bk st rl (wdE Bk.fns.length, memE Bk.fns.length Bk.base) (ds.take i)).1.1 (toldF Bk st rl (wdE Bk.fns.length, memE Bk.fns.length Bk.base) (ds.take i)).1.2) ∧ H' l = some (.lst acc) ∧
          ImAll H' acc ((toldF Bk st rl (wdE Bk.fns.length, memE Bk.fns.length Bk.base) (ds.take i)).2.map encO) ∧ σ' = [some pl, some (.int st), some rv, some (.ref a), some sv, some (.ref l), o6, o7, o8])
        ⟨.ref p, [], none, none, none, Nat.zero_le _, fun _ _ _ h _ => h, tabs.ext s04, s4.im i3, e4, .nil, rfl⟩ (fun i σ' H' _ ⟨sv, acc, o6, o7, o8, z0, z1, z2, z3, z4, z5, z6⟩ => .of (z1.isn e4 _ _ rfl (s04.at hrun))) ?_ ?_
      · rintro i x σ' H5 H6 hi ⟨sv, acc, o6, o7, o8, hid, x5, t5, i5, e5, ia5, rfl⟩ y
        obtain ⟨Tp, u, v, rfl, s6, eT, ea, eb⟩ := ypair y
        cases ea
        refine r_gTup (.of eT) rfl ?_
        repeat walk_at "st"
        dsimp only
        have i05 : Isn H H5 := s04.isn.trans (x5.isn e4)
        have i06 : Isn H H6 := i05.trans s6.isn
        have t6 := t5.ext s6
        rcases Nat.lt_or_ge i ds.length with lt | ge
        · have hdi := List.getElem?_eq_getElem lt
          obtain ⟨dok, v', ev', iv⟩ := hds i _ hdi
          rw [ev'] at eb
          cases eb
          have nx : ds.take (i + 1) = ds.take i ++ [ds[i]] := by
            rw [List.take_succ, hdi]
            rfl
          obtain ⟨wok, mok, tl⟩ := toldF_ok (free := free) (rl := rl) (s0 := (wdE Bk.fns.length, memE Bk.fns.length Bk.base)) bok st0 st1 n3 (wdE_ok bok.fns) (memE_ok _ _) i (ds.take i) (by rw [List.length_take]; omega) fun d hd => by
            obtain ⟨j, hj⟩ := List.mem_iff_getElem?.mp (List.mem_of_mem_take hd)
            exact (hds j d hj).1
          refine t_ifNS (fun Q' kk => ?_) fun H7 s7 => ?_
          · repeat walk_at "st"
            exact ⟨pl, _, Bk, free, true, rfl, hp.isn i06, bok, .inl ⟨_, dok, i06.im iv, rfl⟩, fun H' s => r_exbl (kk _ s)⟩
          have i07 := i06.trans s7.isn
          have s57 := s6.trans s7
          repeat walk_at "st"
          refine ⟨pl, rv, sv, _, Bk, free, _, _, rl, st, _, rfl, hp.isn i07, bok, st0, st1, rok, i07.im hrl, wok, mok, s57.im i5, dok, i07.im iv, t6.ext s7, fun p8 H8 x8 t8 i8 => ?_⟩
          obtain ⟨pa, pxs, pe, h8, ix8⟩ := im_tup i8
          cases pe
          cases ix8 with
          | cons ia r1 =>
          cases r1 with
          | cons ib r2 =>
          cases r2
          repeat walk_at "st"
          refine r_gTup (.of h8) rfl ?_
          repeat walk_at "st"
          have e8 : H8 l = some (.lst acc) := x8 _ _ (s57 _ _ e5) fun ps z => by cases z
          have al := ia5.length
          rw [List.length_map, tl] at al
          refine ⟨ty_l e8, ?_⟩
          repeat walk_at "st"
          refine r_append e8 (by have : (100 : Nat) < sizeLine := by decide
                                 omega) fun H9 m9 e9 => ?_
          repeat walk_at "st"
          refine ⟨_, _, _, _, _, lt, ((x5.trans s57.xr).trans x8.xr).trans (fun b o n h _ => m9.rest b o n h), K5.TabsN.mv t8 m9, ?_, e9, ?_, rfl⟩
          · rw [nx, toldF_snoc]
            exact m9.im ia
          · rw [nx, toldF_snoc]
            exact imAll_snoc (m9.ims (x8.isn.ims (s57.ims ia5))) (m9.im ib)
        · have hie : i = ds.length := by omega
          subst hie
          obtain ⟨v', ev', dv, ke⟩ := hbad hi
          rw [ev'] at eb
          cases eb
          have d6 : DeedAt Bk free H6 v false := (dv.xr s04 nl e4 x5).same s6
          refine r_ifS ?_
          repeat walk_at "st"
          refine ⟨pl, v, Bk, free, false, rfl, hp.isn i06, bok, d6, fun H7 s7 => r_exbl ?_⟩
          repeat walk_at "st"
          refine r_raiseBad ?_
          repeat walk_at "st"
          refine ⟨_, rfl, fun d hd => ke H7 _ d (fun b o h z => s7 _ _ (s6 _ _ (x5 b o (ne_of_none h nl) (s04 _ _ h) z))) ((t6.ext s7)) hd rfl⟩
      · rintro σ' H5 ⟨sv, acc, o6, o7, o8, hid, x5, t5, i5, e5, ia5, rfl⟩
        repeat walk_at "st"
        have dx : ds.length = xs.length := by omega
        rw [← dx, List.take_length] at ia5
        exact q dx l acc H5 (fun b o h z => x5 b o (ne_of_none h nl) (s04 _ _ h) z) t5 e5 ia5
end
end K5
end

section
set_option maxHeartbeats 4000000
/-! LU: _law_index, which calls the lambda. -/
namespace K5
open PySem PySem.Spec L2 NdefX LamX
open PyProof.Rows hiding St
theorem scIdx : FnScope ["ask", "error"] ["ask"] (defScope (top 81)) := ⟨rfl, rfl, rfl, by decide +kernel, rfl, by decide +kernel, by decide +kernel⟩
/-- told: try: a() / except BadRun as error: return error.index; return 'none' -/
def TIdx (C : Addr) : (XK → Hp → VK → Prop) → Hp → VK → Prop := fun tl H Q =>
  tl (fun cls d H' => cls = .ref C ∧ ∃ (dd : Addr) (v : V), d = some dd ∧ H' dd = some (.xd [(("index" : Str), v)]) ∧ Q v H') H (fun _ H' => Q (.str "none") H')
section
variable {X : Cx} {C fI cc cda : Addr}
theorem pss_when {X : Cx} {ss : List Stmt} {t : TS} {p : L2.St → Prop} (h : PSs X ss t) (hp : ∀ {pins : List (Addr × Obj)} {σ : L2.St} {H : Hp} {s : Shared}, Inv X pins σ H s → p σ) : PSs X ss (fun D σ H => p σ → t D σ H) :=
  ⟨fun pins s σ H D I k => h.run pins s σ H D I (k (hp I))⟩
theorem idx_gives {g : Addr} {cdg : Value} {q : Str} (Tb : BadTxt X.prog X.K X.mg C fI cc cda) : GivesTo X ["ask", "error"] "_law_index" (defScope (top 81)) g cdg (defBody (top 81)) "ask" q (TIdx C) := by
  intro f c' s H Q tl act hc h
  have hgl : Gl (cxOf C8.CX0 X.prog X.w X.K X.mg X.base ["ask", "error"] "_law_index" (defScope (top 81)) g cdg X.A X.stack s H C8.E0).nox "BadRun" := by rfl
  refine ⟨_, pss_cons (ps_try_as (X := (cxOf C8.CX0 X.prog X.w X.K X.mg X.base ["ask", "error"] "_law_index" (defScope (top 81)) g cdg X.A X.stack s H C8.E0).nox) (i := 1) (c := .ref C)
      (tb := fun W D σ H => ∃ Ech : XK, (∀ cls d σ' H', Ech cls d H' → W cls d σ' H') ∧ σ[0]? = some (some (.ref f)) ∧ H c' = some (CodeO c' q) ∧ tl Ech H (fun _ H' => D.nx σ H'))
      (ts := fun a cls d D σ H => σ.length = 2 → tRet (tXf a cls d C "index" (tVar 1)) D σ H) (Wout := fun _ _ _ _ => False)
      rfl rfl scIdx.nd rfl rfl ⟨hgl, by decide, .inl Tb.gC⟩ L2.takes0 (fun W pn xe tk _ => ?_) (fun a oe cls d pn hz hf => ?_)) (pss_one (ps_ret pe_str)), ?_⟩
  · refine ⟨fun pins s' σ H' D I h' => ?_⟩
    obtain ⟨Ech, hW, h1, h2, h3⟩ := h'
    exact (pss_one (ps_expr (act W pn xe Ech _ _ tk hW))).run pins s' σ H' D I ⟨h1, h2, h3⟩
  · exact pss_when (pss_one (ps_ret (pe_xf Tb.xf Tb.noN hz hf (pv 1)))) fun I => I.len
  · refine ⟨fun cls d H' => cls = .ref C ∧ ∃ (dd : Addr) (v : V), d = some dd ∧ H' dd = some (.xd [(("index" : Str), v)]) ∧ Q v H', fun cls d σ' H' ⟨e1, dd, v, e2, e3, e4⟩ => ?_, rfl, hc, h⟩
    subst e1
    refine ⟨true, Tb.te, fun _ a _ hl => ?_, fun z => absurd z (by decide)⟩
    rw [List.length_set] at hl
    refine ⟨.ref a, ?_, rfl, rfl, dd, _, v, e2, e3, by simp [List.lookup], e4⟩
    rw [List.getElem?_set_self (by omega)]
/-- a call of a def that may raise -/
theorem pe_calX {x : Str} {j k : Nat} {ps : List Str} {sp : Sp} {p pos : Pos} {e : Expr} {es : List Expr} {t : TA} {E : XK} (c : CalX X.prog X.w X.K X.mg X.base x k ps sp) (hr : Room j X.A) (hk : k ≤ j) (hx : Passes (L2.CX X.prog X.w) X E) (ha : PA X (e :: es) t) (hg : Gl X x := by rfl) (hdb : (x == ("__debug__" : Str)) = false := by decide)
    (he : starEach (e :: es) X.env = (false, eval e X.env) :: starEach es X.env := by rfl) (hpl : (backTo pos (starEach es X.env)).any (·.1) = false := by rfl) : PE X (.Call (.Name x p) (e :: es) [] pos) (tCall sp [] E t) := by
  obtain ⟨f, fd, h1, h2, h3, F⟩ := c
  exact pe_call F (hr.mono hk) hg h1 h2 h3 .nil hx ha hdb he hpl
/-- within a lambda's body -/
theorem pass_lam {A : Around} {outer : List Env} {s : Shared} {H : Hp} {E : XK} {scope : Scope} {f c' : Addr} : Passes (L2.CX X.prog X.w) (lamCx X A outer s H E scope f c') E :=
  passes_call (W := fun cls d _ H => E cls d H) (takes_of rfl rfl rfl rfl) fun _ _ _ _ z => z
/-- one table for both -/
theorem tabs_of {T : List (Addr × Str)} {H : Hp} (t : Tabs T H) : TabsN (T.map fun p => (p.1, fun _ _ => p.2)) H := fun p hp => by
  obtain ⟨q, hq, rfl⟩ := List.mem_map.mp hp
  obtain ⟨ps, h1, h2, h3⟩ := t q hq
  exact ⟨ps, h1, h2, fun pos cv e => h3 pos cv e⟩
theorem tabs_to {T : List (Addr × Str)} {H : Hp} (t : TabsN (T.map fun p => (p.1, fun _ _ => p.2)) H) : Tabs T H := fun q hq => by
  obtain ⟨ps, h1, h2, h3⟩ := t _ (List.mem_map.mpr ⟨q, hq, rfl⟩)
  exact ⟨ps, h1, h2, fun pos cv e => h3 pos cv e⟩
end
end K5
end

section
set_option maxHeartbeats 4000000
/-! LV: _law_index(lambda: ..). -/
namespace K5
open PySem PySem.Spec L2 NdefX LamX
open PyProof.Rows hiding St
section
variable {X : Cx} {C fI cc cda : Addr}
theorem pe_lidx {T : List (Addr × Str)} {g c Pl : Addr} {fd : FuncData} {k : Nat} {params : Arguments} {body : Expr} {scope : Scope} {t : XK → TE} {p lpos pos : Pos} (Tb : BadTxt X.prog X.K X.mg C fI cc cda)
    (gI : X.mg "_law_index" = some (.ref g)) (D : FunD X.K "_law_index" "_law_index" (defArgs (top 81)) (defBody (top 81)) (defScope (top 81)) [] [] g fd)
    (TB : TabB X.base X.mg c Pl) (hcode : X.env.code = .ref c) (hmT : (Pl, X.env.qual ++ "<lambda>") ∈ T) (hu : ∀ p ∈ T, p.1 = Pl → p.2 = X.env.qual ++ "<lambda>") (hr : Room (k + 2) X.A) (L : LamS X.env.scope scope) (hdef : defaultsOf params X.env = ([], []))
    (hbind : ∀ (q : Str) (cl : List (Str × Addr)) (pm cv ctv : Value), bindArgs (PySem.W.kla_fn "<lambda>" q params body scope cl pm cv ctv) ⟨[], []⟩ = pure [])
    (hbody : ∀ (A : Around) (outer : List Env) (s : Shared) (H : Hp) (E : XK) (f c' : Addr), Room k (A.deeper (lamEnv X scope s.heap.objs.size f c')) → PE (lamCx X A outer s H E scope f c') body (t E)) (hg : Gl X "_law_index" := by rfl) :
    PE X (.Call (.Name "_law_index" p) [.Lambda params body scope lpos] [] pos) (tLam T (TIdx C) t) := by
  have kp := D.kp
  have hb := D.bindsN (ps := ["ask"]) (fun _ _ _ _ _ _ us hl => match us, hl with | [_], _ => rfl)
  obtain ⟨oc, od, dV, kV, doc, pm, an, cdv, ct, osl, rfl, lk, hcd, e1, e2⟩ := D.ex
  exact pe_lamcall hg gI kp lk hcd hb scIdx rfl (.inl (by decide +kernel)) (idx_gives Tb) TB hcode hmT hu hr L hdef hbind hbody
end
end K5
end

section
set_option maxHeartbeats 4000000
/-! LW: law: its scope, its lambda, heaps. -/
namespace K5
open PySem PySem.Spec L2 NdefX LamX
open PyProof.Rows hiding St
local macro_rules | `(tactic| walk_at "lf") => `(tactic| first
  | assumption
  | (refine Same.im (by assumption) ?_; walk_at "lf")
  | (refine Same.ims (by assumption) ?_; walk_at "lf")
  | (refine Same.at (by assumption) ?_; walk_at "lf")
  | (refine Same.sqT (by assumption) ?_; walk_at "lf")
  | (refine Same.seq (by assumption) ?_; walk_at "lf")
  | exact SqL.of (by walk_at "lf")
  | exact SqT.of (by walk_at "lf"))
local macro_rules | `(tactic| walk_at "st") => `(tactic| first
  | ((with_reducible refine r_var (v := ?vv) ?rv ?_); (case rv => exact rfl))
  | with_reducible first
    | refine r_seq ?_
    | refine r_asg ?_
    | refine r_gName ?_
    | refine r_c ?_
    | refine r_op ?_
    | refine r_I0 ?_
    | refine r_exbl ?_
    | refine r_cb ?_
    | refine r_nil ?_
    | refine r_cons ?_
    | refine r_test ?_
    | refine r_tB ?_
    | refine r_and ?_
    | refine r_or ?_
    | refine r_not ?_
    | refine r_if ?_
    | refine r_ret ?_
    | refine r_next ?_
    | refine r_tup ?_
    | refine r_lst ?_
    | refine r_int ?_
    | refine r_exint ?_
    | refine r_sl ?_
    | refine r_part ?_
    | refine r_nopart ?_
    | refine r_par ?_
    | refine r_ex2 ?_
    | refine r_call ?_
    | refine r_un ?_
    | refine r_U ?_
    | refine r_andV ?_
    | refine r_orV ?_
    | refine r_notV ?_
    | refine r_chain ?_
    | refine r_isN ?_
    | refine r_notN ?_
    | refine r_drop ?_
    | refine r_I (by decide) ?_
    | refine r_EqI ?_
    | refine r_NeI ?_
    | refine r_EqS ?_
    | refine r_NeS ?_
    | refine r_gSub ?_
    | refine r_gCons ?_
    | refine r_gNil ?_
    | refine r_dget ?_
    | refine r_pcons ?_
    | refine r_pnil ?_
    | refine iteT ?_
    | refine iteF ?_
    | refine iteNF ?_
    | refine iteNT ?_
    | refine r_prop ?_
    | refine r_dget2 ?_
    | refine r_din ?_
    | refine r_dput ?_
    | refine r_mk ?_
    | refine r_propG ?_
    | refine r_mtd ?_
    | refine r_bm ?_
    | refine r_si ?_
    | refine r_for ?_
    | refine r_lc ?_
    | refine r_iT ?_
    | refine r_iL ?_
    | refine r_enT ?_
    | refine r_zip ?_
    | refine r_zs ?_
    | refine r_iR1 ?_
    | refine r_yes ?_
    | refine r_fld ?_
    | refine r_star1 ?_
    | refine r_ctE ?_
    | refine r_div (by decide) (by decide) ?_
    | refine r_mulL (by decide) (by decide) ?_
    | refine r_mulR (by decide) (by decide) ?_)
local macro_rules | `(tactic| walk_at "tq") => `(tactic| ((repeat walk_at "st"); first
  | assumption
  | (refine q_decT (by omega) (by assumption))
  | (refine q_decF (by omega) (by assumption))
  | (refine q_nT (by omega) (by assumption))
  | (refine q_nF (by omega) (by assumption))
  | (refine ite_dec (fun _ => ?_) (fun _ => ?_) <;> first | (exfalso; omega) | walk_at "tq")
  | (refine ite_ndec (fun _ => ?_) (fun _ => ?_) <;> first | (exfalso; omega) | walk_at "tq")))
theorem scLaw : FnScope ["script", "sizes", "turn", "parts", "plan", "setting", "rule", "every", "first", "scene", "deed", "late", "run", "due", "step", "number", "is_old", "at", "odd", "bad"] ["script"] (defScope (top 82)) := ⟨rfl, rfl, rfl, by decide +kernel, rfl, by decide +kernel, by decide +kernel⟩
/-- the tables: called's, law's -/
def qAsk : Str := ("called" : Str) ++ ".<locals>." ++ "ask"
def qLam : Str := ("law" : Str) ++ ".<locals>." ++ "<lambda>"
def lawFb : List Stmt := match defBody (top 82) with
  | _ :: .For _ _ b _ _ :: _ => b
  | _ => []
def lawIf : Stmt := lawFb.getLastD (.Pass ⟨0, 0, 0, 0⟩)
def eIdx : Expr := match lawIf with
  | .If (.Compare l _ _ _) _ _ _ => l
  | _ => .Constant .none 0 ⟨0, 0, 0, 0⟩
def lamP : Arguments := match eIdx with
  | .Call _ [.Lambda p _ _ _] _ _ => p
  | _ => defArgs (top 82)
def lamB : Expr := match eIdx with
  | .Call _ [.Lambda _ b _ _] _ _ => b
  | _ => eIdx
def lamSc : Scope := match eIdx with
  | .Call _ [.Lambda _ _ s _] _ _ => s
  | _ => defScope (top 82)
def spLaw (TL : List (Addr × Str)) (K : PySem.W.Frag) : Sp := fun vs H Q _ => ∃ (a : Addr) (sc : List Int), vs = [.ref a] ∧ SqL K H a (sc.map V.int) ∧ sc.length ≤ 63 ∧ Tabs TL H ∧ ∀ H', Q (.bl true) H'
/-! ### heaps: all but the tables stays -/
theorem _root_.LamX.ExtN.seq {K : PySem.W.Frag} {H H' : Hp} {a : Addr} {xs : List V} (e : ExtN H H') (h : SqL K H a xs) : SqL K H' a xs := by
  rcases h with (h | ⟨o, h⟩) | h
  · exact .inl (.inl (e _ _ h fun _ z => by cases z))
  · exact .inl (.inr ⟨o, e _ _ h fun _ z => by cases z⟩)
  · exact .inr h
theorem _root_.LamX.ExtN.lst {H H' : Hp} {a : Addr} {xs : List V} (e : ExtN H H') (h : H a = some (.lst xs)) : H' a = some (.lst xs) := e _ _ h fun _ z => by cases z
theorem _root_.L2.Same.extN {H H' : Hp} (s : Same H H') : ExtN H H' := fun b o h _ => s b o h
theorem _root_.LamX.ExtN.mv {l : Addr} {H H1 H2 : Hp} (e : ExtN H H1) (m : Mv l H1 H2) (n : H l = none) : ExtN H H2 := fun b o h z => m.rest b o (ne_of_none h n) (e b o h z)
theorem _root_.LamX.ExtN.im {H H' : Hp} {v : V} {d : PyData} (e : ExtN H H') (h : Im H v d) : Im H' v d := e.isn.im h
theorem _root_.LamX.ExtN.ims {H H' : Hp} {v : List V} {d : List PyData} (e : ExtN H H') (h : ImAll H v d) : ImAll H' v d := e.isn.ims h
theorem r_par3 {σ : L2.St} {H : Hp} {D : Ends} {i j l : Nat} {ta : TA} (q : ta σ H fun vs H1 => ∃ u v w, vs = [u, v, w] ∧ D.nx (((σ.set i (some u)).set j (some v)).set l (some w)) H1) : tPar3 i j l ta D σ H := q
theorem r_ex3 {u v w : V} {Q : V → V → V → Prop} (q : Q u v w) : ∃ u' v' w', [u, v, w] = [u', v', w'] ∧ Q u' v' w' := ⟨u, v, w, rfl, q⟩
theorem r_neSelf {K : PySem.W.Frag} {H : Hp} {Q : VK} {x y : V} {e : PyData} (hx : Dp K H x e) (hy : Dp K H y e) (h : SeqAt.shaped e = true) (q : Q (.bl false) H) : rNeD K x y H Q := r_neD hx hy h h (by rw [ne_self h]; exact q)
theorem toldF_len {B : Book} {st : Int} {rl : List (Nat × Nat)} {s0 : List Nat × Mem} : ∀ (n : Nat) (ds : List Dd), ds.length = n → (toldF B st rl s0 ds).2.length = n := by
  intro n
  induction n with
  | zero =>
    intro ds e
    rw [List.length_eq_zero_iff.mp e]
    rfl
  | succ n ih =>
    intro ds e
    have ne : ds ≠ [] := fun z => by rw [z] at e; cases e
    rw [← List.dropLast_concat_getLast ne, toldF_snoc, List.length_append, ih ds.dropLast (by rw [List.length_dropLast]; omega)]
    rfl
theorem toldF_take {B : Book} {st : Int} {rl : List (Nat × Nat)} {s0 : List Nat × Mem} (k : Nat) : ∀ (n : Nat) (ds : List Dd), ds.length = n → (toldF B st rl s0 (ds.take k)).2 = (toldF B st rl s0 ds).2.take k := by
  intro n
  induction n with
  | zero =>
    intro ds e
    rw [List.length_eq_zero_iff.mp e, List.take_nil]
    exact List.take_nil.symm
  | succ n ih =>
    intro ds e
    by_cases hk : n + 1 ≤ k
    · rw [List.take_of_length_le (by omega), List.take_of_length_le (by rw [toldF_len (n + 1) ds e]; exact hk)]
    · have ne : ds ≠ [] := fun z => by rw [z] at e; cases e
      have dl : ds.dropLast.length = n := by rw [List.length_dropLast]; omega
      rw [← List.dropLast_concat_getLast ne, toldF_snoc, List.take_append_of_le_length (by omega), List.take_append_of_le_length (by rw [toldF_len n _ dl]; omega)]
      exact ih _ dl
/-- the sizes, as the law has them -/
def szsY : List Sz := [⟨2, 2, 2⟩, ⟨2, 1, 2⟩, ⟨2, 2, 1⟩, ⟨3, 1, 1⟩, ⟨2, 2, 3⟩, ⟨3, 3, 2⟩]
theorem szsY_ok : ∀ z ∈ szsY, SzOk z := by
  intro z hz
  simp only [szsY, List.mem_cons, List.not_mem_nil, or_false] at hz
  rcases hz with rfl | rfl | rfl | rfl | rfl | rfl <;> exact ⟨by decide, by decide, by decide, by decide, by decide, by decide⟩
section
variable {P : Program} {w : World} {K : PySem.W.Frag} {mg : Str → Option Value} {base : Heap} {CP CB CF C fI cc cda Pc Pl cl g : Addr} {fdI : FuncData}
theorem passL {X : Cx} : Passes (L2.CX X.prog X.w) X E0 := passes_call L2.takes0 fun _ _ _ _ z => z.elim
theorem lam_sc : LamS (defScope (top 82)) lamSc := lamS_by (by decide +kernel)
theorem lam_body {X : Cx} {A : Around} {outer : List Env} {s : Shared} {H : Hp} {E : XK} {f c' : Addr} {T : List NTab} (cT : CalX X.prog X.w X.K X.mg X.base "told_along" 28 ["plan", "setting", "rule", "run"] (spTold T CP CB CF C)) (hN : X.N = (["script", "sizes", "turn", "parts", "plan", "setting", "rule", "every", "first", "scene", "deed", "late", "run", "due", "step", "number", "is_old", "at", "odd", "bad"] : List Str)) (hr2 : Room 28 (A.deeper (lamEnv X lamSc s.heap.objs.size f c'))) : 
    PE (lamCx X A outer s H E lamSc f c') lamB (tCall (spTold T CP CB CF C) [] E (tCons (tVar 4) (tCons (tVar 5) (tCons (tVar 6) (tCons (tVar 19) tNil))))) := by
  have n4 : (lamCx X A outer s H E lamSc f c').N[4]? = some ("plan" : Str) := by show X.N[4]? = _; rw [hN]; rfl
  have n5 : (lamCx X A outer s H E lamSc f c').N[5]? = some ("setting" : Str) := by show X.N[5]? = _; rw [hN]; rfl
  have n6 : (lamCx X A outer s H E lamSc f c').N[6]? = some ("rule" : Str) := by show X.N[6]? = _; rw [hN]; rfl
  have n19 : (lamCx X A outer s H E lamSc f c').N[19]? = some ("bad" : Str) := by show X.N[19]? = _; rw [hN]; rfl
  have v4 : Vis (lamCx X A outer s H E lamSc f c').env.scope "plan" := .inr (.inr (by show lamSc.names.lookup _ = _; decide +kernel))
  have v5 : Vis (lamCx X A outer s H E lamSc f c').env.scope "setting" := .inr (.inr (by show lamSc.names.lookup _ = _; decide +kernel))
  have v6 : Vis (lamCx X A outer s H E lamSc f c').env.scope "rule" := .inr (.inr (by show lamSc.names.lookup _ = _; decide +kernel))
  have v19 : Vis (lamCx X A outer s H E lamSc f c').env.scope "bad" := .inr (.inr (by show lamSc.names.lookup _ = _; decide +kernel))
  have gl : Gl (lamCx X A outer s H E lamSc f c') "told_along" := by show lamSc.names.lookup _ = _; decide +kernel
  have e : ∃ p p1 p2 p3 p4 pos, lamB = .Call (.Name "told_along" p) [.Name "plan" p1, .Name "setting" p2, .Name "rule" p3, .Name "bad" p4] [] pos := ⟨_, _, _, _, _, _, rfl⟩
  obtain ⟨p, p1, p2, p3, p4, pos, e⟩ := e
  rw [e]
  have a : PA (lamCx X A outer s H E lamSc f c') [.Name "plan" p1, .Name "setting" p2, .Name "rule" p3, .Name "bad" p4] (tCons (tVar 4) (tCons (tVar 5) (tCons (tVar 6) (tCons (tVar 19) tNil)))) := pa_cons (pv 4 n4 v4) (pa_cons (pv 5 n5 v5) (pa_cons (pv 6 n6 v6) (pa_cons (pv 19 n19 v19) pa_nil)))
  generalize hX : lamCx X A outer s H E lamSc f c' = Y at *
  have cT' : CalX Y.prog Y.w Y.K Y.mg Y.base "told_along" 28 ["plan", "setting", "rule", "run"] (spTold T CP CB CF C) := by rw [← hX]; exact cT
  have hr' : Room 28 Y.A := by rw [← hX]; exact hr2
  have ps : Passes (L2.CX Y.prog Y.w) Y E := by rw [← hX]; exact pass_lam (X := X)
  exact pe_calX (X := Y) cT' hr' (Nat.le_refl _) ps a gl
theorem pe_lawIdx {X : Cx} {T : List (Addr × Str)} (Tb : BadTxt X.prog X.K X.mg C fI cc cda) (gI : X.mg "_law_index" = some (.ref g)) (D : FunD X.K "_law_index" "_law_index" (defArgs (top 81)) (defBody (top 81)) (defScope (top 81)) [] [] g fdI)
    (TB : TabB X.base X.mg cl Pl) (hcode : X.env.code = .ref cl) (hmT : (Pl, X.env.qual ++ "<lambda>") ∈ T) (hu : ∀ p ∈ T, p.1 = Pl → p.2 = X.env.qual ++ "<lambda>") (hr : Room 30 X.A) (hsc : X.env.scope = defScope (top 82)) (hN : X.N = (["script", "sizes", "turn", "parts", "plan", "setting", "rule", "every", "first", "scene", "deed", "late", "run", "due", "step", "number", "is_old", "at", "odd", "bad"] : List Str))
    (cT : CalX X.prog X.w X.K X.mg X.base "told_along" 28 ["plan", "setting", "rule", "run"] (spTold (T.map fun p => (p.1, fun _ _ => p.2)) CP CB CF C)) (hg : Gl X "_law_index") :
    PE X eIdx (tLam T (TIdx C) fun E => tCall (spTold (T.map fun p => (p.1, fun _ _ => p.2)) CP CB CF C) [] E (tCons (tVar 4) (tCons (tVar 5) (tCons (tVar 6) (tCons (tVar 19) tNil))))) := by
  have e : ∃ p q r, eIdx = .Call (.Name "_law_index" p) [.Lambda lamP lamB lamSc q] [] r := ⟨_, _, _, rfl⟩
  obtain ⟨p, q, r, e⟩ := e
  rw [e]
  exact pe_lidx (X := X) (T := T) (k := 28) Tb gI D TB hcode hmT hu hr (by rw [hsc]; exact lam_sc) (by rfl) (fun _ _ _ _ _ => by rfl) (fun A outer s H E f c2 hr2 => lam_body cT hN hr2) hg
end
end K5
end

section
set_option maxHeartbeats 4000000
/-! LY: law. -/
namespace K5
open PySem PySem.Spec L2 NdefX LamX
open PyProof.Rows hiding St
local macro_rules | `(tactic| walk_at "lf") => `(tactic| first
  | assumption
  | (refine Same.im (by assumption) ?_; walk_at "lf")
  | (refine Same.ims (by assumption) ?_; walk_at "lf")
  | (refine Same.at (by assumption) ?_; walk_at "lf")
  | (refine Same.sqT (by assumption) ?_; walk_at "lf")
  | (refine Same.seq (by assumption) ?_; walk_at "lf")
  | exact SqL.of (by walk_at "lf")
  | exact SqT.of (by walk_at "lf"))
local macro_rules | `(tactic| walk_at "st") => `(tactic| first
  | ((with_reducible refine r_var (v := ?vv) ?rv ?_); (case rv => exact rfl))
  | with_reducible first
    | refine r_seq ?_
    | refine r_asg ?_
    | refine r_gName ?_
    | refine r_c ?_
    | refine r_op ?_
    | refine r_I0 ?_
    | refine r_exbl ?_
    | refine r_cb ?_
    | refine r_nil ?_
    | refine r_cons ?_
    | refine r_test ?_
    | refine r_tB ?_
    | refine r_and ?_
    | refine r_or ?_
    | refine r_not ?_
    | refine r_if ?_
    | refine r_ret ?_
    | refine r_next ?_
    | refine r_tup ?_
    | refine r_lst ?_
    | refine r_int ?_
    | refine r_exint ?_
    | refine r_sl ?_
    | refine r_part ?_
    | refine r_nopart ?_
    | refine r_par ?_
    | refine r_ex2 ?_
    | refine r_call ?_
    | refine r_un ?_
    | refine r_U ?_
    | refine r_andV ?_
    | refine r_orV ?_
    | refine r_notV ?_
    | refine r_chain ?_
    | refine r_isN ?_
    | refine r_notN ?_
    | refine r_drop ?_
    | refine r_I (by decide) ?_
    | refine r_EqI ?_
    | refine r_NeI ?_
    | refine r_EqS ?_
    | refine r_NeS ?_
    | refine r_gSub ?_
    | refine r_gCons ?_
    | refine r_gNil ?_
    | refine r_dget ?_
    | refine r_pcons ?_
    | refine r_pnil ?_
    | refine iteT ?_
    | refine iteF ?_
    | refine iteNF ?_
    | refine iteNT ?_
    | refine r_prop ?_
    | refine r_dget2 ?_
    | refine r_din ?_
    | refine r_dput ?_
    | refine r_mk ?_
    | refine r_propG ?_
    | refine r_mtd ?_
    | refine r_bm ?_
    | refine r_si ?_
    | refine r_for ?_
    | refine r_lc ?_
    | refine r_iT ?_
    | refine r_iL ?_
    | refine r_enT ?_
    | refine r_zip ?_
    | refine r_zs ?_
    | refine r_iR1 ?_
    | refine r_yes ?_
    | refine r_fld ?_
    | refine r_star1 ?_
    | refine r_ctE ?_
    | refine r_div (by decide) (by decide) ?_
    | refine r_mulL (by decide) (by decide) ?_
    | refine r_mulR (by decide) (by decide) ?_)
local macro_rules | `(tactic| walk_at "tq") => `(tactic| ((repeat walk_at "st"); first
  | assumption
  | (refine q_decT (by omega) (by assumption))
  | (refine q_decF (by omega) (by assumption))
  | (refine q_nT (by omega) (by assumption))
  | (refine q_nF (by omega) (by assumption))
  | (refine ite_dec (fun _ => ?_) (fun _ => ?_) <;> first | (exfalso; omega) | walk_at "tq")
  | (refine ite_ndec (fun _ => ?_) (fun _ => ?_) <;> first | (exfalso; omega) | walk_at "tq")))
section
variable {P : Program} {w : World} {K : PySem.W.Frag} {mg : Str → Option Value} {base : Heap} {CP CB CF C fI cc cda Pc Pl cl g : Addr} {fdI : FuncData}
theorem ok_law {f : Addr} {fd : FuncData} (Dl : FunD K "law" "law" (defArgs (top 82)) (defBody (top 82)) (defScope (top 82)) [] [] f fd) (hfc : fd.code = .ref cl) (TBl : TabB base mg cl Pl) (B : Bf mg) (Tb : BadTxt P K mg C fI cc cda) (TL : List (Addr × Str)) (eTL : TL = [(Pc, qAsk), (Pl, qLam)]) (hPP : Pc ≠ Pl)
    (gI : mg "_law_index" = some (.ref g)) (DI : FunD K "_law_index" "_law_index" (defArgs (top 81)) (defBody (top 81)) (defScope (top 81)) [] [] g fdI)
    (cNum : Cal P w K mg base "_law_number" 1 ["script", "index"] (spNum K)) (cPlan : Cal P w K mg base "_law_plan" 10 ["script", "at", "sizes"] (spPlanL K)) (cMade : Cal P w K mg base "_law_made" 22 ["parts"] (spMade CP CB CF))
    (cLRu : Cal P w K mg base "_law_rule" 2 ["script", "at", "parts"] (spLRu K)) (cLD : Cal P w K mg base "_law_scene_deeds" 1 ["parts"] spLD) (cLE : Cal P w K mg base "_law_empty" 1 ["parts"] spLE) (cLS : Cal P w K mg base "_law_scene" 2 ["script", "at", "parts"] (spLS K)) (cLN : Cal P w K mg base "_law_next" 25 ["parts", "setting", "rule", "scene", "deed"] spLN)
    (cFsc : Cal P w K mg base "first_scene" 6 ["plan"] (spFirst CP CB CF)) (cSafter : Cal P w K mg base "scene_after" 28 ["plan", "setting", "rule", "scene", "deed"] (spAfter (TL.map fun p => (p.1, fun _ _ => p.2)) CP CB CF)) (cTold : CalX P w K mg base "told_along" 28 ["plan", "setting", "rule", "run"] (spTold (TL.map fun p => (p.1, fun _ _ => p.2)) CP CB CF C)) :
    FnOk P w K mg base CX0 31 f fd ["script"] (spLaw TL K) := by
  have hmL : (Pl, qLam) ∈ TL := by
    rw [eTL]
    exact List.mem_cons_of_mem _ List.mem_cons_self
  have huL : ∀ p ∈ TL, p.1 = Pl → p.2 = qLam := by
    rw [eTL]
    intro p hp e
    simp only [List.mem_cons, List.not_mem_nil, or_false] at hp
    rcases hp with rfl | rfl
    · exact absurd e hPP
    · rfl
  obtain ⟨oc, od, dV, kV, doc, pm, an, cdv, ct, osl, rfl, lk, hcd, dfl, kwd⟩ := Dl.ex
  obtain rfl : cdv = .ref cl := hfc
  refine fn_of lk hcd scLaw (fun vs H Q E h => ?_) fun A outer s H vs Q E hr h => ?_
  · obtain ⟨_, _, rfl, _⟩ := h
    rfl
  · obtain ⟨a, sc, rfl, hS, hl, tabs, q⟩ := h
    suffices z : ∃ t, PSs (cxOf CX0 P w K mg base ["script", "sizes", "turn", "parts", "plan", "setting", "rule", "every", "first", "scene", "deed", "late", "run", "due", "step", "number", "is_old", "at", "odd", "bad"] "law" (defScope (top 82)) f (.ref cl) A outer s H E).nox (defBody (top 82)) t ∧ t { nx := fun _ H' => Q .non H', rt := Q } (L2.start ["script", "sizes", "turn", "parts", "plan", "setting", "rule", "every", "first", "scene", "deed", "late", "run", "due", "step", "number", "is_old", "at", "odd", "bad"] [.ref a]) H by
      obtain ⟨t, ht, hq⟩ := z
      exact ⟨t, ht.nox, hq⟩
    have hcl : (cxOf CX0 P w K mg base ["script", "sizes", "turn", "parts", "plan", "setting", "rule", "every", "first", "scene", "deed", "late", "run", "due", "step", "number", "is_old", "at", "odd", "bad"] "law" (defScope (top 82)) f (.ref cl) A outer s H E).nox.env.code = .ref cl := rfl
    refine ⟨_, (pss_cons (ps_set (i := 1) scLaw.nd rfl (by first | exact Or.inl rfl | exact Or.inr rfl) (pe_lst (pa_cons (pe_tup (pa_cons pe_int (pa_cons pe_int (pa_cons pe_int (pa_cons pe_int (pa_cons pe_int pa_nil)))))) (pa_cons (pe_tup (pa_cons pe_int (pa_cons pe_int (pa_cons pe_int (pa_cons pe_int (pa_cons pe_int pa_nil)))))) (pa_cons (pe_tup (pa_cons pe_int (pa_cons pe_int (pa_cons pe_int (pa_cons pe_int (pa_cons pe_int pa_nil)))))) (pa_cons (pe_tup (pa_cons pe_int (pa_cons pe_int (pa_cons pe_int (pa_cons pe_int (pa_cons pe_int pa_nil)))))) (pa_cons (pe_tup (pa_cons pe_int (pa_cons pe_int (pa_cons pe_int (pa_cons pe_int (pa_cons pe_int pa_nil)))))) (pa_cons (pe_tup (pa_cons pe_int (pa_cons pe_int (pa_cons pe_int (pa_cons pe_int (pa_cons pe_int pa_nil)))))) pa_nil))))))))
      (pss_cons (ps_for PassesOwn.never rfl (pi_range1 (by rfl) (B _ (by decide)) (pa_cons pe_int pa_nil)) (pg_name (i := 2) scLaw.nd rfl (by first | exact Or.inl rfl | exact Or.inr rfl))
        (pss_cons (ps_set (i := 3) scLaw.nd rfl (by first | exact Or.inl rfl | exact Or.inr rfl) (pe_cal cPlan hr (by omega) (pa_cons (pv 0) (pa_cons (pe_op op_mul pe_int (pv 2)) (pa_cons (pv 1) pa_nil)))))
        (pss_cons (ps_asg (pe_tup (pa_cons (pe_cal cMade hr (by omega) (pa_cons (pv 3) pa_nil)) (pa_cons (pe_op op_mod (pe_callTy c_int (by rfl) (B _ (by decide)) b_int (pa_cons (pe_cal cNum hr (by omega) (pa_cons (pv 0) (pa_cons (pe_op op_add pe_int (pv 2)) pa_nil))) pa_nil)) (pe_dget (hu_of hr) (pv 3) pe_str (fun _ _ => rfl))) pa_nil))) (pg_tup rfl (pgs_cons (pg_name (i := 4) scLaw.nd rfl (by first | exact Or.inl rfl | exact Or.inr rfl)) (pgs_cons (pg_name (i := 5) scLaw.nd rfl (by first | exact Or.inl rfl | exact Or.inr rfl)) pgs_nil))))
        (pss_cons (ps_asg (pe_tup (pa_cons (pe_cal cLRu hr (by omega) (pa_cons (pv 0) (pa_cons (pe_op op_add pe_int (pv 2)) (pa_cons (pv 3) pa_nil)))) (pa_cons (pe_cal cLD hr (by omega) (pa_cons (pv 3) pa_nil)) pa_nil))) (pg_tup rfl (pgs_cons (pg_name (i := 6) scLaw.nd rfl (by first | exact Or.inl rfl | exact Or.inr rfl)) (pgs_cons (pg_name (i := 7) scLaw.nd rfl (by first | exact Or.inl rfl | exact Or.inr rfl)) pgs_nil))))
        (pss_cons (ps_set (i := 8) scLaw.nd rfl (by first | exact Or.inl rfl | exact Or.inr rfl) (pe_tup (pa_cons (pe_op op_repA (pe_tup (pa_cons pe_int pa_nil)) (pe_callB c_len (by rfl) (B _ (by decide)) b_len (pa_cons (pe_dget (hu_of hr) (pv 3) pe_str (fun _ _ => rfl)) pa_nil))) (pa_cons (pe_cal cLE hr (by omega) (pa_cons (pv 3) pa_nil)) pa_nil))))
        (pss_cons (ps_if (pt_cmpR (op_neD hr.units) (pe_cal cFsc hr (by omega) (pa_cons (pv 4) pa_nil)) (pv 8) (nomark _))
          (pss_one (ps_ret pe_bl))
          pss_nil)
        (pss_cons (ps_for PassesOwn.never rfl (pi_tup (pe_tup (pa_cons (pv 8) (pa_cons (pe_cal cLS hr (by omega) (pa_cons (pv 0) (pa_cons (pe_op op_add pe_int (pe_op op_mul pe_int (pv 2))) (pa_cons (pv 3) pa_nil)))) pa_nil)))) (pg_name (i := 9) scLaw.nd rfl (by first | exact Or.inl rfl | exact Or.inr rfl))
          (pss_one (ps_for PassesOwn.never rfl (pi_list (pv 7)) (pg_name (i := 10) scLaw.nd rfl (by first | exact Or.inl rfl | exact Or.inr rfl))
            (pss_cons (ps_set (i := 11) scLaw.nd rfl (by first | exact Or.inl rfl | exact Or.inr rfl) (pe_cal cLN hr (by omega) (pa_cons (pv 3) (pa_cons (pv 5) (pa_cons (pv 6) (pa_cons (pv 9) (pa_cons (pv 10) pa_nil)))))))
            (pss_one (ps_if (pt_cmpR (op_neD hr.units) (pe_cal cSafter hr (by omega) (pa_cons (pv 4) (pa_cons (pv 5) (pa_cons (pv 6) (pa_cons (pv 9) (pa_cons (pv 10) pa_nil)))))) (pe_slice sl_tupA (pv 11) po_none (po_some pe_int)) (nomark _))
              (pss_one (ps_ret pe_bl))
              pss_nil))))))
        (pss_cons (ps_par3 (i := 12) (j := 9) (l := 13) rfl scLaw.nd rfl rfl rfl (by decide) (by decide) (by decide) rfl rfl rfl (pa_cons (pe_lst pa_nil) (pa_cons (pv 8) (pa_cons (pe_lst pa_nil) pa_nil))) rfl)
        (pss_cons (ps_for PassesOwn.never rfl (pi_range1 (by rfl) (B _ (by decide)) (pa_cons pe_int pa_nil)) (pg_name (i := 14) scLaw.nd rfl (by first | exact Or.inl rfl | exact Or.inr rfl))
          (pss_cons (ps_set (i := 10) scLaw.nd rfl (by first | exact Or.inl rfl | exact Or.inr rfl) (pe_ix ix_list (pv 7) (pe_op op_mod (pe_callTy c_int (by rfl) (B _ (by decide)) b_int (pa_cons (pe_cal cNum hr (by omega) (pa_cons (pv 0) (pa_cons (pe_op op_add (pe_op op_add pe_int (pe_op op_mul pe_int (pv 2))) (pv 14)) pa_nil))) pa_nil)) (pe_callB c_len (by rfl) (B _ (by decide)) b_len (pa_cons (pv 7) pa_nil))) (fun _ _ => rfl)))
          (pss_cons (ps_asg (pe_cal cLN hr (by omega) (pa_cons (pv 3) (pa_cons (pv 5) (pa_cons (pv 6) (pa_cons (pv 9) (pa_cons (pv 10) pa_nil)))))) (pg_tup rfl (pgs_cons (pg_name (i := 9) scLaw.nd rfl (by first | exact Or.inl rfl | exact Or.inr rfl)) (pgs_cons (pg_name (i := 15) scLaw.nd rfl (by first | exact Or.inl rfl | exact Or.inr rfl)) (pgs_cons (pg_name (i := 16) scLaw.nd rfl (by first | exact Or.inl rfl | exact Or.inr rfl)) pgs_nil)))))
          (pss_cons (ps_expr (pe_bm PySem.F.plainAttrs_list PySem.F.slot_list_append PySem.F.type_list_append mt_append (pv 12) (pa_cons (pv 10) pa_nil)))
          (pss_one (ps_expr (pe_bm PySem.F.plainAttrs_list PySem.F.slot_list_append PySem.F.type_list_append mt_append (pv 13) (pa_cons (pv 15) pa_nil))))))))
        (pss_cons (ps_if (pw_or (pt_cmpR (op_neD hr.units) (pe_calX cTold hr (by omega) passL (pa_cons (pv 4) (pa_cons (pv 5) (pa_cons (pv 6) (pa_cons (pe_callTy c_tup (by rfl) (B _ (by decide)) b_tuple (pa_cons (pv 12) pa_nil)) pa_nil))))) (pv 13) (nomark _)) (pw_or1 (pt_cmpR (op_neD hr.units) (pe_calX cTold hr (by omega) passL (pa_cons (pv 4) (pa_cons (pv 5) (pa_cons (pv 6) (pa_cons (pe_slice sl_list (pv 12) po_none (po_some pe_int)) pa_nil))))) (pe_slice sl_list (pv 13) po_none (po_some pe_int)) (nomark _)))).pt
          (pss_one (ps_ret pe_bl))
          pss_nil)
        (pss_cons (ps_set (i := 17) scLaw.nd rfl (by first | exact Or.inl rfl | exact Or.inr rfl) (pe_op op_mod (pe_callTy c_int (by rfl) (B _ (by decide)) b_int (pa_cons (pe_cal cNum hr (by omega) (pa_cons (pv 0) (pa_cons (pe_op op_add pe_int (pv 2)) pa_nil))) pa_nil)) pe_int))
        (pss_cons (ps_set (i := 18) scLaw.nd rfl (by first | exact Or.inl rfl | exact Or.inr rfl) (pe_lst (pa_cons (pe_tup (pa_cons pe_str (pa_cons pe_int (pa_cons pe_int pa_nil)))) (pa_cons (pe_tup (pa_cons pe_str (pa_cons pe_int (pa_cons pe_int pa_nil)))) (pa_cons (pe_tup (pa_cons pe_str (pa_cons pe_int (pa_cons pe_bl pa_nil)))) (pa_cons (pe_lst (pa_cons pe_str (pa_cons pe_int (pa_cons pe_int pa_nil)))) (pa_cons pe_non (pa_cons (pe_tup (pa_cons pe_str (pa_cons pe_int (pa_cons pe_int pa_nil)))) (pa_cons (pe_tup (pa_cons pe_str (pa_cons pe_int pa_nil))) pa_nil)))))))))
        (pss_cons (ps_set (i := 19) scLaw.nd rfl (by first | exact Or.inl rfl | exact Or.inr rfl) (pe_op op_cat (pe_slice sl_list (pv 12) po_none (po_some (pv 17))) (pe_lst (pa_cons (pe_ix ix_list (pv 18) (pe_op op_mod (pe_callTy c_int (by rfl) (B _ (by decide)) b_int (pa_cons (pe_cal cNum hr (by omega) (pa_cons (pv 0) (pa_cons (pe_op op_add pe_int (pv 2)) pa_nil))) pa_nil)) pe_int) (fun _ _ => rfl)) (pa_cons pe_int pa_nil)))))
        (pss_one (ps_if (pt_cmpR op_ne (pe_lawIdx Tb gI DI TBl hcl hmL huL hr rfl rfl cTold (by rfl)) (pv 17) (nomark _))
          (pss_one (ps_ret pe_bl))
          pss_nil)))))))))))))))
      (pss_one (ps_ret pe_bl)))), ?_⟩
    have tN := tabs_of tabs
    have szl : (100000 : Nat) ≤ sizeLine := by decide
    repeat walk_at "st"
    refine r_newI (ds := [nD 2, nD 2, nD 1, nD 2, nD 1]) (by show 5 ≤ sizeLine; omega) (.cons (.int _) (.cons (.int _) (.cons (.int _) (.cons (.int _) (.cons (.int _) .nil))))) fun p1 H1 np1 s1 i1 => ?_
    repeat walk_at "st"
    refine r_newI (ds := [nD 2, nD 1, nD 1, nD 2, nD 1]) (by show 5 ≤ sizeLine; omega) (.cons (.int _) (.cons (.int _) (.cons (.int _) (.cons (.int _) (.cons (.int _) .nil))))) fun p2 H2 np2 s2 i2 => ?_
    repeat walk_at "st"
    refine r_newI (ds := [nD 2, nD 2, nD 1, nD 1, nD 1]) (by show 5 ≤ sizeLine; omega) (.cons (.int _) (.cons (.int _) (.cons (.int _) (.cons (.int _) (.cons (.int _) .nil))))) fun p3 H3 np3 s3 i3 => ?_
    repeat walk_at "st"
    refine r_newI (ds := [nD 3, nD 1, nD 1, nD 1, nD 1]) (by show 5 ≤ sizeLine; omega) (.cons (.int _) (.cons (.int _) (.cons (.int _) (.cons (.int _) (.cons (.int _) .nil))))) fun p4 H4 np4 s4 i4 => ?_
    repeat walk_at "st"
    refine r_newI (ds := [nD 2, nD 2, nD 1, nD 3, nD 1]) (by show 5 ≤ sizeLine; omega) (.cons (.int _) (.cons (.int _) (.cons (.int _) (.cons (.int _) (.cons (.int _) .nil))))) fun p5 H5 np5 s5 i5 => ?_
    repeat walk_at "st"
    refine r_newI (ds := [nD 3, nD 3, nD 1, nD 2, nD 1]) (by show 5 ≤ sizeLine; omega) (.cons (.int _) (.cons (.int _) (.cons (.int _) (.cons (.int _) (.cons (.int _) .nil))))) fun p6 H6 np6 s6 i6 => ?_
    repeat walk_at "st"
    refine r_newL (by show 6 ≤ sizeLine; omega) fun sz H7 np7 s7 e7 => ?_
    have isz : ImAll H7 [.ref p1, .ref p2, .ref p3, .ref p4, .ref p5, .ref p6] (szsY.map encSz) :=
      .cons (s7.im (s6.im (s5.im (s4.im (s3.im (s2.im i1)))))) (.cons (s7.im (s6.im (s5.im (s4.im (s3.im i2))))) (.cons (s7.im (s6.im (s5.im (s4.im i3)))) (.cons (s7.im (s6.im (s5.im i4))) (.cons (s7.im (s6.im i5)) (.cons (s7.im i6) .nil)))))
    have s07 := (((((s1.trans s2).trans s3).trans s4).trans s5).trans s6).trans s7
    have t7 := tN.ext s07
    have hS7 := s07.seq hS
    generalize ([.ref p1, .ref p2, .ref p3, .ref p4, .ref p5, .ref p6] : List V) = szx at *
    repeat walk_at "st"
    refine ⟨(4 : Int), rfl, by omega, by omega, ?_⟩
    refine for_w (walk_range (n := 4)) (fun t σ' H' => ∃ (o2 o3 o4 o5 o6 o7 o8 o9 o10 o11 o12 o13 o14 o15 o16 o17 o18 o19 : Option V), SqL K H' a (sc.map V.int) ∧ H' sz = some (.lst szx) ∧ ImAll H' szx (szsY.map encSz) ∧ TabsN (TL.map fun p => (p.1, fun _ _ => p.2)) H' ∧ σ' = [some (.ref a), some (.ref sz), o2, o3, o4, o5, o6, o7, o8, o9, o10, o11, o12, o13, o14, o15, o16, o17, o18, o19])
      ⟨none, none, none, none, none, none, none, none, none, none, none, none, none, none, none, none, none, none, hS7, e7, isz, t7, rfl⟩ (fun _ _ _ _ _ => trivial) ?_ ?_
    · rintro t x σ' HX H8 ht ⟨o2, o3, o4, o5, o6, o7, o8, o9, o10, o11, o12, o13, o14, o15, o16, o17, o18, o19, hS8, esz8, isz8, t8, rfl⟩ ⟨rfl, rfl⟩
      clear isz t7 hS7 e7 s07 s7 s6 s5 s4 s3 s2 s1 i1 i2 i3 i4 i5 i6
      repeat walk_at "st"
      refine ⟨a, sz, sc, _, szx, szsY, rfl, hS8, hl, esz8, isz8, by decide, by decide, szsY_ok, fun v d H9 s9 dok hp => ?_⟩
      have fok : FnsOk d.fns d.base := dok.book.fns
      have n3 := fok.len3
      have b2 := fok.base2
      have b3 := fok.base3
      have sB : d.settings ≤ d.base := dok.book.setB
      have s1 : 1 ≤ d.settings := dok.book.set1
      obtain ⟨pa, kvs, fv, tv, fr, wr, av, rfl, hpa, kb, ks, kf, k4, k5, k6, k7, k8, im1, im2, im3, im4, im5⟩ := hp.ex
      repeat walk_at "st"
      refine ⟨_, d, rfl, hp, dok, fun plv H10 s10 hpl => ?_⟩
      repeat walk_at "st"
      have s8_10 := s9.trans s10
      refine r_num (s8_10.seq hS8) hl fun H11 s11 => ?_
      repeat walk_at "st"
      refine r_pget (.inr "settings") rfl ((s10.trans s11).at hpa) ks ?_
      refine r_I (by omega) ?_
      have st0 : 0 ≤ lnum sc (600 + (0 + (t : Int))) % (d.settings : Int) := Int.emod_nonneg _ (by omega)
      have st1 : lnum sc (600 + (0 + (t : Int))) % (d.settings : Int) < d.settings := Int.emod_lt_of_pos _ (by omega)
      generalize lnum sc (600 + (0 + (t : Int))) % (d.settings : Int) = st at *
      repeat walk_at "st"
      refine r_newT (by show 2 ≤ sizeLine; omega) fun p12 H12 np12 s12 e12 => ?_
      refine r_gTup (.of e12) rfl ?_
      repeat walk_at "st"
      have s8_12 := (s8_10.trans s11).trans s12
      have s9_12 := (s10.trans s11).trans s12
      refine ⟨a, sc, _, .ref pa, d, rfl, s8_12.seq hS8, hl, hp.isn s9_12.isn, dok, fun rp rl H13 s13 rok irl => ?_⟩
      repeat walk_at "st"
      refine ⟨.ref pa, d, rfl, hp.isn (s9_12.trans s13).isn, dok, fun ev ds evx H14 s14 eev iev dne dlen dds => ?_⟩
      repeat walk_at "st"
      refine r_newT (by show 2 ≤ sizeLine; omega) fun p15 H15 np15 s15 e15 => ?_
      refine r_gTup (.of e15) rfl ?_
      repeat walk_at "st"
      refine r_newT (by show 1 ≤ sizeLine; omega) fun p16 H16 np16 s16 e16 => ?_
      repeat walk_at "st"
      have s9_16 := (((s9_12.trans s13).trans s14).trans s15).trans s16
      obtain ⟨fa, fxs, rfl, hfa, hfx⟩ := im_tup im1
      have fxl : fxs.length = d.fns.length := by rw [hfx.length, List.length_map]
      have n1 := fok.len1
      refine r_pget (.inr "functions") rfl (s9_16.at hpa) kf ?_
      repeat walk_at "st"
      refine r_lenT (.of (s9_16.at hfa)) fxl ?_
      refine r_rep1 d.fns.length e16 (by omega) (by omega) rfl fun p17 H17 s17 e17 => ?_
      repeat walk_at "st"
      refine ⟨.ref pa, d, rfl, hp.isn (s9_16.trans s17).isn, dok, fun mp H18 s18 imp => ?_⟩
      repeat walk_at "st"
      refine r_newT (by show 2 ≤ sizeLine; omega) fun fp H19 nfp s19 e19 => ?_
      have ifp : Im H19 (.ref fp) (encS (wdE d.fns.length) (memE d.fns.length d.base)) := by
        refine .tup e19 (.cons ?_ (.cons (s19.im imp) .nil))
        rw [encW_rep]
        exact .tup (s19.at (s18.at e17)) (imAll_rep (.int 0) _)
      repeat walk_at "st"
      have s9_19 := ((s9_16.trans s17).trans s18).trans s19
      have s14_19 := (((s15.trans s16).trans s17).trans s18).trans s19
      have s13_19 := s14.trans s14_19
      have s10_19 := ((((s11.trans s12).trans s13)).trans s13_19)
      have s8_19 := s9.trans s9_19
      refine t_ifNS (fun Q' kk => ?_) fun H20 s20 => ?_
      · repeat walk_at "st"
        refine ⟨plv, d.book, d.free, rfl, hpl.isn s10_19.isn, dok.book, fun p20 H20 s20 i20 => ?_⟩
        repeat walk_at "st"
        refine r_neSelf i20.dp (s20.im ifp).dp (shaped_S _ _) ?_
        exact r_exbl (kk _ s20)
      repeat walk_at "st"
      have s9_20 := s9_19.trans s20
      have s8_20 := s8_19.trans s20
      refine ⟨a, sc, _, .ref pa, d, rfl, s8_20.seq hS8, hl, hp.isn s9_20.isn, dok, fun scp wd2 M2 H21 s21 wok2 mok2 is2 => ?_⟩
      repeat walk_at "st"
      refine r_newT (by show 2 ≤ sizeLine; omega) fun tp H22 ntp s22 e22 => ?_
      refine ⟨tp, rfl, ⟨_, .of e22⟩, ?_⟩
      have s20_22 := s21.trans s22
      have s9_22 := s9_20.trans s20_22
      have s8_22 := s8_20.trans s20_22
      have s19_22 := s20.trans s20_22
      have s10_22 := s10_19.trans s19_22
      have hS22 : SqL K H22 a (sc.map V.int) := s8_22.seq hS8
      have esz22 : H22 sz = some (.lst szx) := s8_22.at esz8
      have isz22 := s8_22.ims isz8
      have t22 := t8.ext s8_22
      have hp22 : PartsAt H22 (.ref pa) d := hp.isn s9_22.isn
      have hpl22 : PlanAt CP CB CF H22 plv d.book d.free := hpl.isn s10_22.isn
      have irl22 : Im H22 (.ref rp) (encR rl) := (s13_19.trans s19_22).im irl
      have eev22 : H22 ev = some (.lst evx) := (s14_19.trans s19_22).at eev
      have iev22 : ImAll H22 evx (ds.map encD) := (s14_19.trans s19_22).ims iev
      have ifp22 : Im H22 (.ref fp) (encS (wdE d.fns.length) (memE d.fns.length d.base)) := s19_22.im ifp
      have isc22 : Im H22 (.ref scp) (encS wd2 M2) := s22.im is2
      have evl : evx.length = ds.length := by rw [iev22.length, List.length_map]
      have wok0 : WdOk d.fns (wdE d.fns.length) := wdE_ok fok
      have mok0 : MemOk d.fns.length d.base (memE d.fns.length d.base) := memE_ok _ _
      clear hS8 esz8 isz8 t8 hp hpl irl eev iev ifp is2 hpa hfa hfx imp e12 e15 e16 e17 im2 im3 im4 im5
      have scs : ∀ (i : Nat) x, ([.ref fp, .ref scp] : List V)[i]? = some x → ∃ wd M, WdOk d.fns wd ∧ MemOk d.fns.length d.base M ∧ Im H22 x (encS wd M) := by
        intro i x hx
        match i, hx with
        | 0, hx =>
          cases hx
          exact ⟨_, _, wok0, mok0, ifp22⟩
        | 1, hx =>
          cases hx
          exact ⟨_, _, wok2, mok2, isc22⟩
      generalize hT2 : (TL.map fun p => ((p.1, fun _ _ => p.2) : NTab)) = T2 at *
      refine for_w (walk_tup (xs := [.ref fp, .ref scp])) (fun i σ' H' => ∃ (o9 o10 o11 : Option V), ExtN H22 H' ∧ TabsN T2 H' ∧ σ' = [some (.ref a), some (.ref sz), some (.int (0 + (t : Int))), some (.ref pa), some plv, some (.int st), some (.ref rp), some (.ref ev), some (.ref fp), o9, o10, o11, o12, o13, o14, o15, o16, o17, o18, o19])
        ⟨_, _, _, ExtN.refl _, t22, rfl⟩ (fun i σ' H' _ ⟨_, _, _, x, _⟩ => .of (x _ _ e22 fun _ z => by cases z)) ?_ ?_
      · rintro i x σ' HX H23 hi ⟨o9, o10, o11, x23, t23, rfl⟩ ⟨rfl, ex⟩
        obtain ⟨wd, M, wok, mok, ix⟩ := scs i x ex
        repeat walk_at "st"
        refine ⟨ev, rfl, ⟨_, .of (x23.lst eev22)⟩, ?_⟩
        refine for_w (walk_list (xs := evx)) (fun j σ' H' => ∃ (o10 o11 : Option V), ExtN H22 H' ∧ TabsN T2 H' ∧ σ' = [some (.ref a), some (.ref sz), some (.int (0 + (t : Int))), some (.ref pa), some plv, some (.int st), some (.ref rp), some (.ref ev), some (.ref fp), some x, o10, o11, o12, o13, o14, o15, o16, o17, o18, o19])
          ⟨_, _, x23, t23, rfl⟩ (fun i σ' H' _ ⟨_, _, x, _⟩ => .of (x.lst eev22)) ?_ ?_
        · rintro j y σ' HX H24 hj ⟨o10, o11, x24, t24, rfl⟩ ⟨rfl, ey⟩
          obtain ⟨ed, hed, iy⟩ := iev22.get' ey
          rw [List.getElem?_map] at hed
          obtain ⟨dd, hdd, rfl⟩ := Option.map_eq_some_iff.mp hed
          have ddok := dds dd (List.mem_of_getElem? hdd)
          repeat walk_at "st"
          refine ⟨.ref pa, .ref rp, x, y, d, wd, M, rl, st, dd, rfl, hp22.isn x24.isn, dok, st0, st1, rok, x24.im irl22, wok, mok, x24.im ix, ddok, x24.im iy, fun lp b H25 s25 il => ?_⟩
          have x25 := x24.trans s25.extN
          have t25 := t24.ext s25
          repeat walk_at "st"
          dsimp only
          refine t_if false (fun H' => ExtN H22 H' ∧ TabsN T2 H') (fun Q' kk => ?_) fun H26 hh => iteF ?_
          · repeat walk_at "st"
            refine ⟨plv, .ref rp, x, y, d.book, d.free, wd, M, rl, st, dd, rfl, hpl22.isn x25.isn, dok.book, st0, st1, rok, x25.im irl22, wok, mok, x25.im ix, ddok, x25.im iy, t25, fun p26 H26 x26 t26 i26 => ?_⟩
            repeat walk_at "st"
            obtain ⟨la, lxs, hlp, elp, ilx⟩ := im_tup (x26.im il)
            cases hlp
            refine r_slT elp fun p27 H27 s27 e27 => ?_
            rw [cut_take lxs 2 2 rfl] at e27
            have i27 : Im H27 (.ref p27) (.tuple [encS (aft d.book st rl wd M dd).1.1 (aft d.book st rl wd M dd).1.2, encO (aft d.book st rl wd M dd).2]) := .tup e27 ((s27.ims ilx).take 2)
            refine r_neSelf (s27.im i26).dp i27.dp (shaped_SO _ _ _) ?_
            exact r_exbl (kk _ ⟨(x25.trans x26).trans s27.extN, t26.ext s27⟩)
          · repeat walk_at "st"
            exact ⟨_, _, hh.1, hh.2, rfl⟩
        · rintro σ' H24 ⟨o10, o11, x24, t24, rfl⟩
          exact ⟨_, _, _, x24, t24, rfl⟩
      · rintro σ' H23 ⟨o9, o10, o11, x23, t23, rfl⟩
        repeat walk_at "st"
        refine r_par3 ?_
        repeat walk_at "st"
        refine r_newL (by show 0 ≤ sizeLine; omega) fun rn H24 nrn s24 ern => ?_
        repeat walk_at "st"
        refine r_newL (by show 0 ≤ sizeLine; omega) fun du H25 ndu s25 edu => ?_
        repeat walk_at "st"
        refine r_ex3 ?_
        have hrd : rn ≠ du := fun z => by
          rw [← z, ern] at ndu
          cases ndu
        have ndu23 : H23 du = none := by
          cases z : H23 du with
          | none => rfl
          | some o =>
            rw [s24 _ _ z] at ndu
            cases ndu
        have hS23 := x23.seq hS22
        have esz23 := x23.lst esz22
        have isz23 := x23.ims isz22
        have hp23 := hp22.isn x23.isn
        have hpl23 := hpl22.isn x23.isn
        have irl23 := x23.im irl22
        have eev23 := x23.lst eev22
        have iev23 := x23.ims iev22
        have ifp23 := x23.im ifp22
        have dpos : 0 < ds.length := List.length_pos_iff.mpr dne
        repeat walk_at "st"
        refine ⟨(12 : Int), rfl, by omega, by omega, ?_⟩
        refine for_w (walk_range (n := 12)) (fun k σ' H' => ∃ (sv : V) (racc dacc : List V) (rds : List Dd) (o10 o11 o14 o15 o16 : Option V), ExtN H23 H' ∧ TabsN T2 H' ∧ rds.length = k ∧ (∀ d' ∈ rds, DdOk d.book d.free d') ∧ H' rn = some (.lst racc) ∧ ImAll H' racc (rds.map encD) ∧ H' du = some (.lst dacc) ∧
            ImAll H' dacc ((toldF d.book st rl (wdE d.book.fns.length, memE d.book.fns.length d.book.base) rds).2.map encO) ∧
            Im H' sv (encS (toldF d.book st rl (wdE d.book.fns.length, memE d.book.fns.length d.book.base) rds).1.1 (toldF d.book st rl (wdE d.book.fns.length, memE d.book.fns.length d.book.base) rds).1.2) ∧ σ' = [some (.ref a), some (.ref sz), some (.int (0 + (t : Int))), some (.ref pa), some plv, some (.int st), some (.ref rp), some (.ref ev), some (.ref fp), some sv, o10, o11, some (.ref rn), some (.ref du), o14, o15, o16, o17, o18, o19])
          ⟨_, [], [], [], _, _, _, _, _, (s24.trans s25).extN, (t23.ext s24).ext s25, rfl, by simp, s25.at ern, .nil, edu, .nil, (s24.trans s25).im ifp23, rfl⟩ (fun _ _ _ _ _ => trivial) ?_ ?_
        · rintro k x σ' HX H26 hk ⟨sv, racc, dacc, rds, o10, o11, o14, o15, o16, x26, t26, rlen, rdok, ern6, irn, edu6, idu, isv, rfl⟩ ⟨rfl, rfl⟩
          have racl : racc.length = k := by rw [irn.length, List.length_map, rlen]
          have dacl : dacc.length = k := by rw [idu.length, List.length_map, toldF_len k rds rlen]
          repeat walk_at "st"
          refine r_num (x26.seq hS23) hl fun H27 s27 => ?_
          have x27 := x26.trans s27.extN
          repeat walk_at "st"
          refine r_lenL (.of (x27.lst eev23)) evl ?_
          repeat walk_at "st"
          refine r_I (by omega) ?_
          have v0 : 0 ≤ lnum sc (700 + 12 * (0 + (t : Int)) + (0 + (k : Int))) % (ds.length : Int) := Int.emod_nonneg _ (by omega)
          have v1 : lnum sc (700 + 12 * (0 + (t : Int)) + (0 + (k : Int))) % (ds.length : Int) < ds.length := Int.emod_lt_of_pos _ (by omega)
          generalize lnum sc (700 + 12 * (0 + (t : Int)) + (0 + (k : Int))) % (ds.length : Int) = m at *
          have hy := List.getElem?_eq_getElem (l := evx) (i := m.toNat) (by omega)
          generalize evx[m.toNat] = y at hy
          have hat : atI evx m = some y := by
            have z := atI_nat hy
            rwa [Int.toNat_of_nonneg v0] at z
          obtain ⟨ed, hed, iy⟩ := iev23.get' hy
          rw [List.getElem?_map] at hed
          obtain ⟨dd, hdd, rfl⟩ := Option.map_eq_some_iff.mp hed
          have ddok := dds dd (List.mem_of_getElem? hdd)
          refine r_ixL (.of (x27.lst eev23)) hat ?_
          repeat walk_at "st"
          obtain ⟨wokk, mokk, _⟩ := toldF_ok (free := d.free) (rl := rl) (s0 := (wdE d.book.fns.length, memE d.book.fns.length d.book.base)) dok.book st0 st1 n3 wok0 mok0 k rds rlen rdok
          refine ⟨.ref pa, .ref rp, sv, y, d, _, _, rl, st, dd, rfl, hp23.isn x27.isn, dok, st0, st1, rok, x27.im irl23, wokk, mokk, s27.im isv, ddok, x27.im iy, fun lp b H28 s28 il => ?_⟩
          repeat walk_at "st"
          obtain ⟨la, lxs, hlp, elp, ilx⟩ := im_tup il
          cases hlp
          cases ilx with
          | cons j1 r1 =>
          cases r1 with
          | cons j2 r2 =>
          cases r2 with
          | cons j3 r3 =>
          cases r3
          refine r_gTup (.of elp) rfl ?_
          repeat walk_at "st"
          have x28 := x27.trans s28.extN
          have ern8 := s28.at (s27.at ern6)
          refine ⟨ty_l ern8, ?_⟩
          repeat walk_at "st"
          refine r_append ern8 (by omega) fun H29 m29 e29 => ?_
          repeat walk_at "st"
          have edu9 := m29.rest du _ (Ne.symm hrd) (s28.at (s27.at edu6))
          refine ⟨ty_l edu9, ?_⟩
          repeat walk_at "st"
          refine r_append edu9 (by omega) fun H30 m30 e30 => ?_
          repeat walk_at "st"
          have x30 := (x28.mv m29 nrn).mv m30 ndu23
          refine ⟨_, _, _, rds ++ [dd], _, _, _, _, _, x30, K5.TabsN.mv (K5.TabsN.mv ((t26.ext s27).ext s28) m29) m30, ?_, ?_, m30.rest rn _ hrd e29, imAll_snoc (m30.ims (m29.ims (s28.ims (s27.ims irn)))) (x30.im iy), e30, ?_, ?_, rfl⟩
          · rw [List.length_append, rlen]
            rfl
          · intro d' hd'
            rcases List.mem_append.mp hd' with z | z
            · exact rdok d' z
            · rw [List.mem_singleton.mp z]
              exact ddok
          · rw [toldF_snoc]
            exact imAll_snoc (m30.ims (m29.ims (s28.ims (s27.ims idu)))) (m30.im (m29.im j2))
          · rw [toldF_snoc]
            exact m30.im (m29.im j1)
        · rintro σ' H26 ⟨sv, racc, dacc, rds, o10, o11, o14, o15, o16, x26, t26, rlen, rdok, ern6, irn, edu6, idu, isv, rfl⟩
          clear hS22 esz22 isz22 hp22 hpl22 irl22 eev22 iev22 ifp22 isc22 scs
          have racl : racc.length = 12 := by rw [irn.length, List.length_map, rlen]
          have dacl : dacc.length = 12 := by rw [idu.length, List.length_map, toldF_len 12 rds rlen]
          repeat walk_at "st"
          have hT26 : ∀ {H' : Hp}, ExtN H26 H' → ExtN H23 H' := fun x => x26.trans x
          dsimp only
          refine t_if false (fun H' => ExtN H26 H' ∧ TabsN T2 H') (fun Q' kk => ?_) fun H27 hh => iteF ?_
          · repeat walk_at "st"
            refine r_tupL (.of ern6) fun rt H27 nrt s27 ert => ?_
            repeat walk_at "st"
            have x27 := hT26 s27.extN
            refine ⟨plv, .ref rp, rt, racc, false, d.book, d.free, rl, st, rds, rfl, hpl23.isn x27.isn, dok.book, st0, st1, rok, x27.im irl23, t26.ext s27, ert, by omega, by omega, fun i dd hi => ⟨rdok dd (List.mem_of_getElem? hi), ?_⟩, fun z => absurd z (by omega), fun _ p acc H28 x28 t28 e28 ia28 => ?_⟩
            · exact (s27.ims irn).get (i := i) (d := encD dd) (by rw [List.getElem?_map, hi]; rfl)
            repeat walk_at "st"
            have x6_28 := s27.extN.trans x28
            refine r_neSelf (.lst (.of e28) (ImAll.dp _ _ ia28)) (.lst (.of (x6_28.lst edu6)) (ImAll.dp _ _ (x6_28.ims idu))) (shaped_LO _) ?_
            repeat walk_at "st"
            refine r_slL (.of (x6_28.lst ern6)) fun r5 H29 n29 s29 e29 => ?_
            rw [cut_take racc 5 5 rfl] at e29
            have x6_29 := x6_28.trans s29.extN
            repeat walk_at "st"
            refine ⟨plv, .ref rp, r5, racc.take 5, true, d.book, d.free, rl, st, rds.take 5, rfl, hpl23.isn (hT26 x6_29).isn, dok.book, st0, st1, rok, (hT26 x6_29).im irl23, t28.ext s29, e29, by rw [List.length_take]; omega, by rw [List.length_take, List.length_take]; omega, fun i dd hi => ⟨rdok dd (List.mem_of_mem_take (List.mem_of_getElem? hi)), ?_⟩, fun z => absurd z (by rw [List.length_take, List.length_take]; omega), fun _ p acc H30 x30 t30 e30 ia30 => ?_⟩
            · refine ((x6_29.ims irn).take 5).get (i := i) (d := encD dd) ?_
              rw [← List.map_take, List.getElem?_map, hi]
              rfl
            repeat walk_at "st"
            have x6_30 := x6_29.trans x30
            refine r_slL (.of (x6_30.lst edu6)) fun d5 H31 n31 s31 e31 => ?_
            rw [cut_take dacc 5 5 rfl] at e31
            rw [toldF_take 5 12 rds rlen] at ia30
            have id5 := (s31.ims (x6_30.ims idu)).take 5
            rw [← List.map_take] at id5
            refine r_neSelf (.lst (.of (s31.at e30)) (ImAll.dp _ _ (s31.ims ia30))) (.lst (.of e31) (ImAll.dp _ _ id5)) (shaped_LO _) ?_
            exact r_exbl (kk _ ⟨x6_30.trans s31.extN, t30.ext s31⟩)
          obtain ⟨x6_27, t27⟩ := hh
          have x27 := hT26 x6_27
          have ern27 := x6_27.lst ern6
          have irn27 := x6_27.ims irn
          have hS27 := x27.seq hS23
          have esz27 := x27.lst esz23
          have isz27 := x27.ims isz23
          have hpl27 := hpl23.isn x27.isn
          have irl27 := x27.im irl23
          clear hS23 esz23 isz23 hp23 hpl23 irl23 eev23 iev23 ifp23 ern6 irn edu6 idu isv
          repeat walk_at "st"
          refine r_num hS27 hl fun H28 s28 => ?_
          repeat walk_at "st"
          have v0 : 0 ≤ lnum sc (760 + (0 + (t : Int))) % 12 := Int.emod_nonneg _ (by omega)
          have v1 : lnum sc (760 + (0 + (t : Int))) % 12 < 12 := Int.emod_lt_of_pos _ (by omega)
          generalize lnum sc (760 + (0 + (t : Int))) % 12 = m at *
          repeat walk_at "st"
          refine r_newI (ds := [.str "put", nD 0, nD 9]) (by show 3 ≤ sizeLine; omega) (.cons (.str _) (.cons (.int _) (.cons (.int _) .nil))) fun b1 H29 nb1 s29 i29 => ?_
          repeat walk_at "st"
          refine r_newI (ds := [.str "ask", nD 9, nD 0]) (by show 3 ≤ sizeLine; omega) (.cons (.str _) (.cons (.int _) (.cons (.int _) .nil))) fun b2 H30 nb2 s30 i30 => ?_
          repeat walk_at "st"
          refine r_newI (ds := [.str "ask", nD 0, .bool true]) (by show 3 ≤ sizeLine; omega) (.cons (.str _) (.cons (.int _) (.cons (.bl _) .nil))) fun b3 H31 nb3 s31 i31 => ?_
          repeat walk_at "st"
          refine r_newL (by show 3 ≤ sizeLine; omega) fun b4 H32 nb4 s32 e32 => ?_
          repeat walk_at "st"
          refine r_newI (ds := [.str "look", nD 0, nD 0]) (by show 3 ≤ sizeLine; omega) (.cons (.str _) (.cons (.int _) (.cons (.int _) .nil))) fun b5 H33 nb5 s33 i33 => ?_
          repeat walk_at "st"
          refine r_newI (ds := [.str "ask", nD 0]) (by show 2 ≤ sizeLine; omega) (.cons (.str _) (.cons (.int _) .nil)) fun b6 H34 nb6 s34 i34 => ?_
          repeat walk_at "st"
          refine r_newL (by show 7 ≤ sizeLine; omega) fun od H35 nod s35 e35 => ?_
          have odds : ∀ (i : Nat) z, ([.ref b1, .ref b2, .ref b3, .ref b4, .non, .ref b5, .ref b6] : List V)[i]? = some z → DeedAt d.book d.free H35 z false := by
            intro i z hz
            match i, hz with
            | 0, hz =>
              cases hz
              exact .inr (.inl ⟨_, List.mem_cons_self, ((((((s30.trans s31).trans s32).trans s33).trans s34).trans s35)).im i29, rfl⟩)
            | 1, hz =>
              cases hz
              exact .inr (.inl ⟨_, List.mem_cons_of_mem _ List.mem_cons_self, (((((s31.trans s32).trans s33).trans s34).trans s35)).im i30, rfl⟩)
            | 2, hz =>
              cases hz
              exact .inr (.inl ⟨_, List.mem_cons_of_mem _ (List.mem_cons_of_mem _ List.mem_cons_self), ((((s32.trans s33).trans s34).trans s35)).im i31, rfl⟩)
            | 3, hz =>
              cases hz
              exact .inr (.inr ⟨_, _, rfl, ((s33.trans s34).trans s35).at e32, rfl⟩)
            | 4, hz =>
              cases hz
              exact .inr (.inl ⟨_, List.mem_cons_of_mem _ (List.mem_cons_of_mem _ (List.mem_cons_of_mem _ List.mem_cons_self)), .non, rfl⟩)
            | 5, hz =>
              cases hz
              exact .inr (.inl ⟨_, List.mem_cons_of_mem _ (List.mem_cons_of_mem _ (List.mem_cons_of_mem _ (List.mem_cons_of_mem _ List.mem_cons_self))), (s34.trans s35).im i33, rfl⟩)
            | 6, hz =>
              cases hz
              exact .inr (.inl ⟨_, List.mem_cons_of_mem _ (List.mem_cons_of_mem _ (List.mem_cons_of_mem _ (List.mem_cons_of_mem _ (List.mem_cons_of_mem _ List.mem_cons_self)))), s35.im i34, rfl⟩)
          have odl : ([.ref b1, .ref b2, .ref b3, .ref b4, .non, .ref b5, .ref b6] : List V).length = 7 := rfl
          generalize ([.ref b1, .ref b2, .ref b3, .ref b4, .non, .ref b5, .ref b6] : List V) = odx at *
          have s27_35 := ((((((s28.trans s29).trans s30).trans s31).trans s32).trans s33).trans s34).trans s35
          clear s28 s29 s30 s31 s32 s33 s34 s35 i29 i30 i31 i33 i34 e32
          repeat walk_at "st"
          refine r_slL (.of (s27_35.at ern27)) fun rm H36 n36 s36 e36 => ?_
          rw [cut_take racc m m.toNat (by omega)] at e36
          repeat walk_at "st"
          have s27_36 := s27_35.trans s36
          refine r_num (s27_36.seq hS27) hl fun H37 s37 => ?_
          repeat walk_at "st"
          have w0 : 0 ≤ lnum sc (770 + (0 + (t : Int))) % 7 := Int.emod_nonneg _ (by omega)
          have w1 : lnum sc (770 + (0 + (t : Int))) % 7 < 7 := Int.emod_lt_of_pos _ (by omega)
          generalize lnum sc (770 + (0 + (t : Int))) % 7 = m2 at *
          have hz := List.getElem?_eq_getElem (l := odx) (i := m2.toNat) (by omega)
          generalize odx[m2.toNat] = oz at hz
          have hat : atI odx m2 = some oz := by
            have z := atI_nat hz
            rwa [Int.toNat_of_nonneg w0] at z
          have oz35 := odds _ _ hz
          refine r_ixL (.of (s37.at (s36.at e35))) hat ?_
          repeat walk_at "st"
          refine r_newL (by show 2 ≤ sizeLine; omega) fun b2l H38 n38 s38 e38 => ?_
          refine r_cat (s38.at (s37.at e36)) e38 (by rw [List.length_take]; show _ + 2 ≤ _; omega) fun bd H39 s39 e39 => ?_
          have s35_39 := ((s36.trans s37).trans s38).trans s39
          have s27_39 := s27_35.trans s35_39
          have oz39 := oz35.same s35_39
          clear oz35 s36 s37 s38 s39 e36 e38 odds
          have x39 := s27_39.extN
          have t39 := t27.ext s27_39
          repeat walk_at "st"
          dsimp only
          refine t_if false (fun H' => ExtN H39 H' ∧ TabsN T2 H') (fun Q' kk => ?_) fun H40 hh => iteF ?_
          · repeat walk_at "st"
            refine ⟨tabs_to (by rw [hT2]; exact t39), fun H40 x40 t40' => ?_⟩
            have t40 : TabsN T2 H40 := by
              rw [← hT2]
              exact tabs_of t40'
            have x39_40 := x39.trans x40
            have e40 := x40.lst e39
            have irn40 := x39_40.ims irn27
            have rtl : (rds.take m.toNat).length = m.toNat := by rw [List.length_take]; omega
            have ral : (racc.take m.toNat).length = m.toNat := by rw [List.length_take]; omega
            have tol : (List.take m.toNat racc ++ [oz, V.int 5]).length = m.toNat + 2 := by rw [List.length_append, ral]; rfl
            unfold TIdx
            dsimp only
            repeat walk_at "st"
            refine ⟨plv, .ref rp, bd, _, true, d.book, d.free, rl, st, rds.take m.toNat, rfl, hpl27.isn x39_40.isn, dok.book, st0, st1, rok, x39_40.im irl27, t40, e40, by omega, by omega, fun i dd hi => ⟨rdok dd (List.mem_of_mem_take (List.mem_of_getElem? hi)), ?_⟩, fun _ => ⟨oz, ?_, ?_, fun H41 H42 dx x41 t41 n41 e42 => ?_⟩, fun z => absurd z (by omega)⟩
            · obtain ⟨v, hv, iv⟩ := (irn40.take m.toNat).get (i := i) (d := encD dd) (by rw [← List.map_take, List.getElem?_map, hi]; rfl)
              refine ⟨v, ?_, iv⟩
              rw [List.getElem?_append_left (List.getElem?_eq_some_iff.mp hv).1]
              exact hv
            · rw [List.getElem?_append_right (by omega), rtl, ral, Nat.sub_self]
              rfl
            · rcases oz39 with ⟨_, _, _, z⟩ | ⟨dd, h1, h2, h3⟩ | ⟨la, lxs, h1, h2, h3⟩
              · cases z
              · exact .inr (.inl ⟨dd, h1, x40.im h2, h3⟩)
              · exact .inr (.inr ⟨la, lxs, h1, x40.lst h2, h3⟩)
            · have s42 : Same H41 H42 := by
                rw [e42]
                exact same_upd n41
              refine ⟨rfl, dx, .int m, rfl, ?_, ?_⟩
              · rw [e42, upd_same, rtl, Int.toNat_of_nonneg v0]
              · repeat walk_at "st"
                exact q_nF rfl (kk _ ⟨(x40.trans x41).trans s42.extN, t41.ext s42⟩)
          · obtain ⟨x39_40, t40⟩ := hh
            have x40 := x39.trans x39_40
            repeat walk_at "st"
            exact ⟨_, _, _, _, _, _, _, _, _, _, _, _, _, _, _, _, _, _, x40.seq hS27, x40.lst esz27, x40.ims isz27, t40, rfl⟩
    · rintro σ' H8 ⟨o2, o3, o4, o5, o6, o7, o8, o9, o10, o11, o12, o13, o14, o15, o16, o17, o18, o19, hS8, esz8, isz8, t8, rfl⟩
      repeat walk_at "st"
      exact q H8
end
end K5
end

section
set_option maxHeartbeats 4000000
/-! LX: from what is read of the written part to the law's promise. -/
namespace K5
open PySem PySem.Spec L2 NdefX LamX
open PyProof.Rows hiding St
/-- what is read of the written part -/
structure Fs (P : Program) (K : PySem.W.Frag) (mg : Str → Option Value) (w : World) (CP CB CF C fI cc cda dS dM dMd : Addr) : Prop where
  B : Bf mg
  d21 : Df K mg "is_between" (top 21)
  d22 : Df K mg "count_in" (top 22)
  d23 : Df K mg "trees_in" (top 23)
  d27 : Df K mg "comes_to" (top 27)
  d31 : Df K mg "has_numbers_of" (top 31)
  d32 : Df K mg "is_body" (top 32)
  d33 : Df K mg "are_functions" (top 33)
  d37 : Df K mg "check_function" (top 37)
  d39 : Df K mg "is_wording" (top 39)
  d41 : Df K mg "check_setting" (top 41)
  d45 : Df K mg "is_form_of" (top 45)
  d46 : Df K mg "are_things" (top 46)
  d47 : Df K mg "is_rising" (top 47)
  d49 : Df K mg "check_plan" (top 49)
  d53 : Df K mg "is_rule" (top 53)
  d54 : Df K mg "check_rule" (top 54)
  d55 : Df K mg "first_of_scenes" (top 55)
  d56 : Df K mg "is_memory" (top 56)
  d57 : Df K mg "is_scene" (top 57)
  d58 : Df K mg "is_scene_deed" (top 58)
  d59 : Df K mg "called" (top 59)
  d60 : Df K mg "after_deed" (top 60)
  d61 : Df K mg "first_scene" (top 61)
  d62 : Df K mg "scene_after" (top 62)
  d63 : Df K mg "told_along" (top 63)
  d65 : Df K mg "_law_number" (top 65)
  d66 : Df K mg "_law_tree" (top 66)
  d67 : Df K mg "_law_functions" (top 67)
  d68 : Df K mg "_law_some" (top 68)
  d69 : Df K mg "_law_plan" (top 69)
  d70 : Df K mg "_law_made" (top 70)
  d71 : Df K mg "_law_empty" (top 71)
  d72 : Df K mg "_law_calls" (top 72)
  d73 : Df K mg "_law_gone" (top 73)
  d74 : Df K mg "_law_kept" (top 74)
  d75 : Df K mg "_law_rows" (top 75)
  d76 : Df K mg "_law_plainly" (top 76)
  d77 : Df K mg "_law_scene_deeds" (top 77)
  d78 : Df K mg "_law_next" (top 78)
  d79 : Df K mg "_law_rule" (top 79)
  d80 : Df K mg "_law_scene" (top 80)
  d81 : Df K mg "_law_index" (top 81)
  d82 : Df K mg "law" (top 82)
  m_lenB : MDf K CB "__len__" "Book.__len__" (inClass (top 34) 4)
  m_getB : MDf K CB "__getitem__" "Book.__getitem__" (inClass (top 34) 5)
  m_initB : MDf K CB "__init__" "Book.__init__" (inClass (top 34) 0)
  m_init : MDf K CF "__init__" "Form.__init__" (inClass (top 26) 0)
  m_numsOf : MDf K CF "numbers_of" "Form.numbers_of" (inClass (top 26) 7)
  m_cont : MDf K CF "__contains__" "Form.__contains__" (inClass (top 26) 21)
  p_pBook : PDf K CP "book" "Plan.book" (inClass (top 48) 1)
  p_pFree : PDf K CP "free" "Plan.free" (inClass (top 48) 4)
  p_bBase : PDf K CB "base" "Book.base" (inClass (top 34) 1)
  p_bSet : PDf K CB "settings" "Book.settings" (inClass (top 34) 2)
  p_bFns : PDf K CB "functions" "Book.functions" (inClass (top 34) 3)
  p_fCalls : PDf K CF "calls" "Form.calls" (inClass (top 26) 8)
  p_fCols : PDf K CF "columns" "Form.columns" (inClass (top 26) 9)
  p_fReads : PDf K CF "reads" "Form.reads" (inClass (top 26) 10)
  i_MOST_FORMS : ∃ t, mg "MOST_FORMS" = some (.int 12 t)
  i_MOST_FUNCTIONS : ∃ t, mg "MOST_FUNCTIONS" = some (.int 3 t)
  i_MOST_BODIES : ∃ t, mg "MOST_BODIES" = some (.int 3 t)
  i_MOST_THINGS : ∃ t, mg "MOST_THINGS" = some (.int 3 t)
  i_MOST_RUN : ∃ t, mg "MOST_RUN" = some (.int 100 t)
  initP : ∃ f fd, Mk K CP f ∧ FunD K "__init__" "Plan.__init__" (defArgs (inClass (top 48) 0)) (defBody (inClass (top 48) 0)) (defScope (inClass (top 48) 0)) [] [("free", .non), ("writers", .non), ("askers", .non)] f fd
  clP : Cls K CP
  clB : Cls K CB
  clF : Cls K CF
  tree : NoAttr K CF "tree"
  Km : Kcm K mg CP CB CF
  mkF : PySem.W.makesIn K CF = true ∧ PySem.W.keepIn K (.ref CF) = true
  mkB : PySem.W.makesIn K CB = true ∧ PySem.W.keepIn K (.ref CB) = true
  gSg : mg "SIGNS" = some (.ref dS)
  sg : SgAt K w dS (signs.map fun q => (q.1, V.str q.2))
  dSg : KD K w dS
  gMo : mg "MOST" = some (.ref dM)
  mo : SgAt K w dM mosts
  gMd : mg "MODES" = some (.ref dMd)
  mdT : ∀ H, SqT K H dMd (modes.map V.str)
  Tb : BadTxt P K mg C fI cc cda
theorem kbPl_of {K : PySem.W.Frag} {f : Addr} {fd : FuncData} (F : FunD K "__init__" "Plan.__init__" (defArgs (inClass (top 48) 0)) (defBody (inClass (top 48) 0)) (defScope (inClass (top 48) 0)) [] [("free", .non), ("writers", .non), ("askers", .non)] f fd) : KBn K fd ["self", "book", "columns", "things", "free", "writers", "askers"] 4 ["free", "writers", "askers"] (fun vs zs => vs ++ zs) (fun vs zs => vs ++ zs) := by
  obtain ⟨mv, h⟩ := F.kbinds0 (ps := ["self", "book", "columns", "things", "free", "writers", "askers"]) 4 ["free", "writers", "askers"] [] (fun vs _ zs => vs ++ zs) (by simp) (by simp) (fun r _ z => r.append z) fun D doc pm an cdv ct us mv ws h1 h2 h3 => by
    match us, ws, h1, h3 with
    | [_, _, _, _], [_, _, _], _, _ => exact rfl
  exact h
section
variable {P : Program} {K : PySem.W.Frag} {mg : Str → Option Value} {w : World} {base : Heap} {CP CB CF C fI cc cda dS dM dMd : Addr}
theorem law_all (F : Fs P K mg w CP CB CF C fI cc cda dS dM dMd) {f fc : Addr} {fd fdc : FuncData} (Dl : FunD K "law" "law" (defArgs (top 82)) (defBody (top 82)) (defScope (top 82)) [] [] f fd)
    (gC : mg "called" = some (.ref fc)) (Dc : FunD K "called" "called" (defArgs (top 59)) (defBody (top 59)) (defScope (top 59)) [] [] fc fdc) {cl Pl c2 Pc : Addr} (hfc : fd.code = .ref cl) (TBl : TabB base mg cl Pl) (hcc : fdc.code = .ref c2) (TBc : TabB base mg c2 Pc) (hPP : Pc ≠ Pl) :
    FnOk P w K mg base CX0 31 f fd ["script"] (spLaw [(Pc, qAsk), (Pl, qLam)] K) := by
  have B := F.B
  have hm : (Pc, nmA) ∈ [(Pc, qAsk), (Pl, qLam)].map (fun p : Addr × Str => ((p.1, fun _ _ => p.2) : NTab)) := List.mem_cons_self
  have hu : ∀ p ∈ [(Pc, qAsk), (Pl, qLam)].map (fun p : Addr × Str => ((p.1, fun _ _ => p.2) : NTab)), p.1 = Pc → p.2 = nmA := by
    intro p hp e
    simp only [List.map_cons, List.map_nil, List.mem_cons, List.not_mem_nil, or_false] at hp
    rcases hp with rfl | rfl
    · rfl
    · exact absurd e.symm hPP
  have Kc : Kcl P w K mg base CP CB CF := ⟨F.clP, F.clB, F.clF, F.tree, ok_pBook F.p_pBook F.clP F.Km.partsP, ok_pFree F.p_pFree F.clP F.Km.partsP, ok_bBase F.p_bBase F.clB F.Km.partsB, ok_bSet F.p_bSet F.clB F.Km.partsB, ok_bFns F.p_bFns F.clB F.Km.partsB⟩
  have Km := F.Km
  have cBtw := ok_btw (P := P) (w := w) (base := base) F.d21 B
  have lenB := ok_lenB F.m_lenB B Kc
  have cChkF := ok_chkF F.d37 B Kc cBtw lenB
  have getB := ok_getB F.m_getB B Kc cChkF
  have cIsWd := ok_isWd F.d39 B cBtw lenB getB
  have cChkS := ok_chkS F.d41 B Kc cBtw
  have cChkP := ok_chkP (P := P) (w := w) (base := base) F.d49 B Km
  have cIsRule := ok_isRule F.d53 B Kc cBtw lenB
  have cChkR := ok_chkR F.d54 B Kc cChkP cChkS cIsRule
  have cFirst := ok_first F.d55 B Kc lenB
  have cIsMem := ok_isMem F.d56 B Kc cBtw lenB
  have cIsSc := ok_isSc F.d57 B Kc cIsWd cIsMem
  have cIsDeed := ok_isDeed F.d58 B Kc cBtw lenB getB
  obtain ⟨gct, fdct, gCt, Dct⟩ := F.d27
  have cCalled := ok_called B Kc F.gSg F.sg Dct gCt Dc gC hcc TBc hm hu
  have cAfter := ok_after F.d60 B Kc cCalled
  have cFsc := ok_fscene F.d61 cChkP cFirst
  have cSafter := ok_safter F.d62 cChkR cIsSc cIsDeed cAfter
  have cTold := ok_told F.d63 B F.Tb Kc F.i_MOST_RUN cChkR cFirst cIsDeed cAfter
  have cCount := ok_count (P := P) (base := base) F.d22 B F.gSg F.sg F.dSg F.gMo F.mo cBtw 13 (by decide)
  have cTrees := ok_trees (P := P) (w := w) (base := base) F.d23 B 13
  have mNums := ok_numsOf F.m_numsOf B Kc cTrees
  have mForm := ok_init (dS := dS) (dM := dM) F.m_init Kc F.i_MOST_FORMS cCount
  have mCont := ok_cont F.m_cont B Kc cTrees
  have cHasN := ok_hasN F.d31 B Kc cTrees
  have pCalls := ok_fCalls F.p_fCalls F.clF mNums
  have pCols := ok_fCols F.p_fCols F.clF mNums
  have pReads := ok_fReads F.p_fReads F.clF mNums
  have cIsBody := ok_isBody F.d32 B Kc Km cHasN pCalls pCols pReads
  have cAreF := ok_areF F.d33 B F.i_MOST_FUNCTIONS F.i_MOST_BODIES cIsBody
  have mBook := ok_initB F.m_initB Kc Km cBtw cAreF
  have cRising := ok_rising F.d47 B cBtw
  have cIsForm := ok_isForm F.d45 B Kc Km lenB mCont cHasN pCalls pCols pReads
  have cAreT := ok_areT F.d46 B F.i_MOST_THINGS F.gMd F.mdT cIsForm
  obtain ⟨fP, fdP, mkPl, DP⟩ := F.initP
  have okPl := ok_initP DP B Kc Km lenB cBtw cAreT cRising
  have cNum := ok_num (P := P) (w := w) (base := base) B F.d65
  have cTree := ok_tree B F.d66 cNum
  have cSome := ok_some F.d68 B cNum
  have cFns := ok_fns F.d67 B cNum cTree
  have cPlan := ok_planL F.d69 B cNum cTree cFns cSome
  have cMade := ok_made F.d70 B Km mForm F.mkF mBook F.mkB mkPl okPl (kbPl_of DP)
  have cLC := ok_lc (P := P) (w := w) (base := base) F.d72 F.d73 B
  have cLE := ok_lempty (P := P) (w := w) (base := base) F.d71 B
  have cLK := ok_lkept (P := P) (w := w) (base := base) F.d74 B
  have cLR := ok_lrows (P := P) (w := w) (base := base) F.d75 B
  have cLP := ok_lplain F.d76 B cLC
  have cLD := ok_ldeeds (P := P) (w := w) (base := base) F.d77 B
  have cLN := ok_lnext F.d78 B cLC cLP cLK cLR
  have cLRu := ok_lrule F.d79 B cNum
  have cLS := ok_lscene F.d80 B cNum
  obtain ⟨gi, fdi, gI, DI⟩ := F.d81
  exact ok_law Dl hfc TBl B F.Tb _ rfl hPP gI DI cNum cPlan cMade cLRu cLD cLE cLS cLN cFsc cSafter cTold
end
end K5
end

section
set_option maxHeartbeats 4000000
/-! HF: from what the hook says to the facts. -/
namespace K5
open PySem PySem.Spec L2 NdefX LamX
open PyProof.Rows hiding St
section
variable {K : PySem.W.Frag} {a : Addr} {fd : FuncData}
theorem fdAt_at (h : fdAt K a = some fd) : ∃ oc od osl, K.lookup a = some ⟨oc, od, .func fd, osl⟩ := by
  unfold fdAt at h
  split at h
  · rename_i oc od fd' osl e
    cases h
    exact ⟨_, _, _, e⟩
  · cases h
theorem fnPl_at {x : Str} (h : fnPl K x fd = true) : fd.defaults = .none ∧ fd.kwdefaults = .none ∧ PySem.W.codeIn K fd.code x = true := by
  unfold fnPl at h
  split at h
  · rename_i e1 e2
    exact ⟨e1, e2, h⟩
  · cases h
theorem fnD_of {m x : Str} {st : Stmt} (h : fdAt K a = some fd) (e : fnVal fd = (m, x, defArgs st, .stmts (defBody st), defScope st, mainGlobals, [], builtinsNs)) (pl : fnPl K x fd = true) (kp : PySem.W.keepIn K (.ref a) = true) : FunD K m x (defArgs st) (defBody st) (defScope st) [] [] a fd := by
  obtain ⟨oc, od, osl, lk⟩ := fdAt_at h
  obtain ⟨p1, p2, p3⟩ := fnPl_at pl
  obtain ⟨n1, n2, n3, n4, n5, n6, n7, n8, n9, n10, n11, n12, n13, n14, n15⟩ := fd
  unfold fnVal at e
  simp only [Prod.mk.injEq, List.map_eq_nil_iff] at e
  obtain ⟨h1, h2, h3, h4, h5, h6, h7, h8⟩ := e
  dsimp only at p1 p2 p3
  subst h1 h2 h3 h4 h5 h6 h7 h8 p1 p2
  exact ⟨⟨oc, od, .none, .none, n10, n11, n12, n13, n14, osl, rfl, lk, p3, .inl ⟨rfl, rfl⟩, .inl rfl⟩, kp⟩
theorem FunD_fnIn {m x : Str} {st : Stmt} {ks : List (Str × V)} (F : FunD K m x (defArgs st) (defBody st) (defScope st) [] ks a fd) : PySem.W.fnIn K a = true := by
  obtain ⟨oc, od, dV, kV, doc, pm, an, cdv, ct, osl, rfl, lk, _⟩ := F.ex
  unfold PySem.W.fnIn
  rw [lk]
theorem prB_ok {C m : Str} (h : prB K C m = true) : PropOf K (He.ga K C) m (prO K C m) (prG K C m) := by
  obtain ⟨h1, h⟩ := Bool.and_eq_true_iff.mp h
  obtain ⟨h2, h⟩ := Bool.and_eq_true_iff.mp h
  obtain ⟨h3, h4⟩ := Bool.and_eq_true_iff.mp h
  refine ⟨He.eqO_ok h1, He.eqO_ok h2, of_decide_eq_true h3, ?_⟩
  split at h4
  · rename_i g r e
    refine ⟨r, ?_⟩
    unfold prG
    rw [e]
  · cases h4
theorem insB_ok {C : Addr} (c : Cls K C) (h : insB K C = true) : C8.InsC K C := by
  obtain ⟨h1, h⟩ := Bool.and_eq_true_iff.mp h
  obtain ⟨h2, h3⟩ := Bool.and_eq_true_iff.mp h
  exact ⟨c, of_decide_eq_true h1, by kernel_rfl, by kernel_rfl, of_decide_eq_true h2, of_decide_eq_true h3⟩
theorem sgY_of {w : World} {d : Addr} {kvs : List (Str × He.Dv)} (D : ∃ es n, KDict K w d es n) (h : He.valsB K d kvs = true) : SgAt K w d (kvs.map fun q => (q.1, q.2.v K)) := by
  intro q hq
  obtain ⟨p, hp, rfl⟩ := List.mem_map.mp hq
  obtain ⟨es, n, D⟩ := D
  obtain ⟨u, e1, e2⟩ := He.valsB_ok h hp
  exact ⟨es, n, u, D.at_, D.lit, e1, e2⟩
theorem bdCls_ok {C : Addr} (h : bdCls K C = true) : ∃ nm q N bs bm sn sub ab col dd k0 k1 k2 k3 k5, K.lookup C = some (excClassObj nm q C N bs bm true sn sub ab col dd k0 k1 k2 k3 k5 "ValueError.__new__") ∧ PySem.HandSPX.refsVE bm = true := by
  unfold bdCls at h
  split at h
  · rename_i dd cd sl ho
    split at h
    · rename_i C' bm k0 k1 k2 k3 n k5 hm hs
      obtain ⟨z1, h⟩ := Bool.and_eq_true_iff.mp h
      obtain ⟨z2, h⟩ := Bool.and_eq_true_iff.mp h
      obtain ⟨z3, h⟩ := Bool.and_eq_true_iff.mp h
      obtain ⟨z4, z5⟩ := Bool.and_eq_true_iff.mp h
      have e1 := beq_iff_eq.mp z1
      have e2 := beq_iff_eq.mp z2
      obtain ⟨nm, bs, mro, ns, qn, hd, sn, sub, ab, col, del⟩ := cd
      obtain ⟨sl⟩ := sl
      dsimp only at hm hs z3 z4
      subst e1 e2 hm hs z3
      cases del with
      | true => cases z4
      | false => exact ⟨_, _, _, _, _, _, _, _, _, _, _, _, _, _, _, ho, z5⟩
    · cases h
  · cases h
end
section
variable {K : PySem.W.Frag} {h : Heap} {mg : Str → Option Value} {w : World} {file : Str} {P : Program}
theorem hfa (c : SaysY file w h K) (i : Nat) {f : He.Fa} (e : hFa[i]? = some f) : f.ok K = true := c.t.d.fact i e
theorem df_of (X : K.In h) (G : h.Ns mainGlobals mg) (c : SaysY file w h K) (i j : Nat) {x : Str} {n : Nat} (e : hFa[i]? = some (.glo x)) (e2 : hDf[j]? = some (dfD x n)) : Df K mg x (top n) := by
  obtain ⟨fd, F⟩ := c.t.d.def_ j e2
  exact ⟨_, fd, He.glo_ok X G (hfa c i e), F⟩
theorem mdf_of (c : SaysY file w h K) (i j : Nat) {C m x : Str} {st : Stmt} (e : hFa[i]? = some (.meth C m)) (e2 : hDf[j]? = some (dfM C m x st [])) : MDf K (He.ga K C) m x st := by
  obtain ⟨fd, F⟩ := c.t.d.def_ j e2
  exact ⟨_, fd, He.meth_ok (hfa c i e), F, FunD_fnIn F⟩
theorem hEx_1 (c : SaysY file w h K) : hPr.all (PrD.ok K) = true := (Bool.and_eq_true_iff.mp c.more).1
theorem pdf_of (c : SaysY file w h K) (i : Nat) {d : PrD} (e : hPr[i]? = some d) : PDf K (He.ga K d.C) d.m d.q d.st := by
  have h1 := List.all_eq_true.mp (hEx_1 c) d (List.mem_of_getElem? e)
  obtain ⟨b1, h1⟩ := Bool.and_eq_true_iff.mp h1
  obtain ⟨b2, b3⟩ := Bool.and_eq_true_iff.mp h1
  have e1 : hPr.map (PrD.obs K) = hPr.map PrD.val := (List.cons.inj c.fns).2
  have e3 : (hPr.map (PrD.obs K))[i]? = (hPr.map PrD.val)[i]? := by rw [e1]
  rw [List.getElem?_map, List.getElem?_map, e] at e3
  have e4 : d.obs K = d.val := Option.some.inj e3
  unfold PrD.obs at e4
  cases hf : fdAt K (prG K d.C d.m) with
  | none =>
    rw [hf] at e4
    cases e4
  | some fd =>
    rw [hf] at e4 b3
    have e5 : fnVal fd = _ := Option.some.inj e4
    exact ⟨_, _, fd, prB_ok b1, fnD_of hf e5 b3 b2⟩

theorem fs_of (X : K.In h) (G : h.Ns mainGlobals mg) (c : SaysY file w h K) (hf : ((P.main.file : Str) == file) = true) (hs : (P.main.scope.names.lookup ("super" : Str)).isSome = false) :
    ∃ cc cda, Fs P K mg w (He.ga K "Plan") (He.ga K "Book") (He.ga K "Form") (bdC K) (bdI K) cc cda (He.ga K "SIGNS") (He.ga K "MOST") (He.ga K "MODES") := by
  obtain ⟨_, m1⟩ := Bool.and_eq_true_iff.mp c.more
  obtain ⟨iP, m1⟩ := Bool.and_eq_true_iff.mp m1
  obtain ⟨iB, m1⟩ := Bool.and_eq_true_iff.mp m1
  obtain ⟨iF, m1⟩ := Bool.and_eq_true_iff.mp m1
  obtain ⟨vS, m1⟩ := Bool.and_eq_true_iff.mp m1
  obtain ⟨vM, m1⟩ := Bool.and_eq_true_iff.mp m1
  obtain ⟨tM, m1⟩ := Bool.and_eq_true_iff.mp m1
  obtain ⟨bd, _⟩ := Bool.and_eq_true_iff.mp m1
  have tS := c.t.tab 0 (t := (fun K => He.ga K "SIGNS", hSg1.map (·.1))) rfl
  have tO := c.t.tab 1 (t := (fun K => He.ga K "MOST", hMo1.map (·.1))) rfl
  have clF := He.cls_ok (hfa c 70 (f := .cls "Form") rfl)
  have clB := He.cls_ok (hfa c 71 (f := .cls "Book") rfl)
  have clP := He.cls_ok (hfa c 72 (f := .cls "Plan") rfl)
  have naF := He.noat_ok (hfa c 73 (f := .noat "Form" "tree") rfl)
  have naP := He.noat_ok (hfa c 74 (f := .noat "Plan" "parts") rfl)
  have naB := He.noat_ok (hfa c 75 (f := .noat "Book" "parts") rfl)
  have mkF := He.mkr_ok (hfa c 76 (f := .mkr "Form") rfl)
  have mkB := He.mkr_ok (hfa c 77 (f := .mkr "Book") rfl)
  have mkP := He.mkr_ok (hfa c 78 (f := .mkr "Plan") rfl)
  have B : Bf mg := by
    intro x hx
    simp only [bns, List.mem_cons, List.not_mem_nil, or_false] at hx
    rcases hx with rfl | rfl | rfl | rfl | rfl | rfl | rfl | rfl | rfl | rfl | rfl | rfl | rfl | rfl | rfl
    · exact He.free_ok X G (hfa c 50 (f := .free "isinstance") rfl)
    · exact He.free_ok X G (hfa c 51 (f := .free "int") rfl)
    · exact He.free_ok X G (hfa c 52 (f := .free "bool") rfl)
    · exact He.free_ok X G (hfa c 53 (f := .free "tuple") rfl)
    · exact He.free_ok X G (hfa c 54 (f := .free "str") rfl)
    · exact He.free_ok X G (hfa c 55 (f := .free "len") rfl)
    · exact He.free_ok X G (hfa c 56 (f := .free "zip") rfl)
    · exact He.free_ok X G (hfa c 57 (f := .free "range") rfl)
    · exact He.free_ok X G (hfa c 58 (f := .free "list") rfl)
    · exact He.free_ok X G (hfa c 59 (f := .free "sorted") rfl)
    · exact He.free_ok X G (hfa c 60 (f := .free "all") rfl)
    · exact He.free_ok X G (hfa c 61 (f := .free "sum") rfl)
    · exact He.free_ok X G (hfa c 62 (f := .free "enumerate") rfl)
    · exact He.free_ok X G (hfa c 63 (f := .free "dict") rfl)
    · exact He.free_ok X G (hfa c 64 (f := .free "super") rfl)
  obtain ⟨b1, bd⟩ := Bool.and_eq_true_iff.mp bd
  obtain ⟨b2, bd⟩ := Bool.and_eq_true_iff.mp bd
  obtain ⟨b3, bd⟩ := Bool.and_eq_true_iff.mp bd
  obtain ⟨b4, bd⟩ := Bool.and_eq_true_iff.mp bd
  obtain ⟨b5, bd⟩ := Bool.and_eq_true_iff.mp bd
  obtain ⟨b6, bd⟩ := Bool.and_eq_true_iff.mp bd
  obtain ⟨b7, bd⟩ := Bool.and_eq_true_iff.mp bd
  obtain ⟨b8, bd⟩ := Bool.and_eq_true_iff.mp bd
  obtain ⟨b9, bd⟩ := Bool.and_eq_true_iff.mp bd
  obtain ⟨b10, bd⟩ := Bool.and_eq_true_iff.mp bd
  obtain ⟨b11, bd⟩ := Bool.and_eq_true_iff.mp bd
  obtain ⟨b12, bd⟩ := Bool.and_eq_true_iff.mp bd
  obtain ⟨b13, bd⟩ := Bool.and_eq_true_iff.mp bd
  obtain ⟨b14, bd⟩ := Bool.and_eq_true_iff.mp bd
  obtain ⟨b15, bd⟩ := Bool.and_eq_true_iff.mp bd
  obtain ⟨b16, b17⟩ := Bool.and_eq_true_iff.mp bd
  have eV : bdObs K = bdVal := (List.cons.inj c.fns).1
  unfold bdObs at eV
  cases hI : fdAt K (bdI K) with
  | none =>
    rw [hI] at eV
    cases eV
  | some fd =>
    rw [hI] at eV b2
    obtain ⟨f1, f2⟩ := Bool.and_eq_true_iff.mp (show bdFn K (bdC K) file fd = true from b2)
    obtain ⟨f2, f3⟩ := Bool.and_eq_true_iff.mp f2
    obtain ⟨f3, f4⟩ := Bool.and_eq_true_iff.mp f3
    obtain ⟨p1, p2, p3⟩ := fnPl_at f1
    obtain ⟨oc, od, osl, lk⟩ := fdAt_at hI
    have eV : fnVal fd = _ := Option.some.inj eV
    obtain ⟨n1, n2, n3, n4, n5, n6, n7, n8, n9, n10, n11, n12, n13, n14, n15⟩ := fd
    unfold fnVal at eV
    simp only [Prod.mk.injEq] at eV
    obtain ⟨h1, h2, h3, h4, h5, h6, h7, h8⟩ := eV
    dsimp only at p1 p2 p3
    obtain ⟨cc, rfl⟩ : ∃ cc : Addr, n7 = [(("__class__" : Str), cc)] := by
      match n7, h7 with
      | [(x, cc)], h7 =>
        simp only [List.map_cons, List.map_nil, List.cons.injEq, and_true] at h7
        exact ⟨cc, by rw [h7]⟩
    obtain ⟨cda, rfl⟩ : ∃ cda : Addr, n13 = .ref cda := by
      cases n13 with
      | ref c => exact ⟨c, rfl⟩
      | _ => cases f4
    subst h1 h2 h3 h4 h5 h6 h8 p1 p2
    have tb : BadTxt P K mg (bdC K) (bdI K) cc cda := by
      refine ⟨(He.glo_ok X G (hfa c 49 (f := .glo "BadRun") rfl)), bdCls_ok b1, of_decide_eq_true b3, of_decide_eq_true b4, of_decide_eq_true b5, of_decide_eq_true b6, b7, ⟨of_decide_eq_true b8, of_decide_eq_true b9, of_decide_eq_true b10, b11⟩, of_decide_eq_true b12, of_decide_eq_true b13, ⟨oc, od, n10, n11, n12, n14, osl, lk, p3⟩, ?_, ?_, hs, B _ (by decide), of_decide_eq_true b14, of_decide_eq_true b15, of_decide_eq_true b16, of_decide_eq_true b17⟩
      · have f2 : bdCell K cc (bdC K) = true := f2
        unfold bdCell at f2
        split at f2
        · rename_i cl cld C' csl e
          rw [beq_iff_eq.mp f2] at e
          exact ⟨_, _, _, e⟩
        · cases f2
      · have f3 : bdCode K cda file = true := f3
        unfold bdCode at f3
        split at f3
        · rename_i ccl cdd vs ccs e
          split at f3
          · rename_i f tf e2
            rw [beq_iff_eq.mp f3] at e2
            exact ⟨_, _, _, _, _, _, e, e2, hf⟩
          · cases f3
        · cases f3
    refine ⟨cc, cda, ?_⟩
    exact {
      B := B
      d21 := df_of X G c 0 0 rfl rfl
      d22 := df_of X G c 1 1 rfl rfl
      d23 := df_of X G c 2 2 rfl rfl
      d27 := df_of X G c 3 3 rfl rfl
      d31 := df_of X G c 4 4 rfl rfl
      d32 := df_of X G c 5 5 rfl rfl
      d33 := df_of X G c 6 6 rfl rfl
      d37 := df_of X G c 7 7 rfl rfl
      d39 := df_of X G c 8 8 rfl rfl
      d41 := df_of X G c 9 9 rfl rfl
      d45 := df_of X G c 10 10 rfl rfl
      d46 := df_of X G c 11 11 rfl rfl
      d47 := df_of X G c 12 12 rfl rfl
      d49 := df_of X G c 13 13 rfl rfl
      d53 := df_of X G c 14 14 rfl rfl
      d54 := df_of X G c 15 15 rfl rfl
      d55 := df_of X G c 16 16 rfl rfl
      d56 := df_of X G c 17 17 rfl rfl
      d57 := df_of X G c 18 18 rfl rfl
      d58 := df_of X G c 19 19 rfl rfl
      d59 := df_of X G c 20 20 rfl rfl
      d60 := df_of X G c 21 21 rfl rfl
      d61 := df_of X G c 22 22 rfl rfl
      d62 := df_of X G c 23 23 rfl rfl
      d63 := df_of X G c 24 24 rfl rfl
      d65 := df_of X G c 25 25 rfl rfl
      d66 := df_of X G c 26 26 rfl rfl
      d67 := df_of X G c 27 27 rfl rfl
      d68 := df_of X G c 28 28 rfl rfl
      d69 := df_of X G c 29 29 rfl rfl
      d70 := df_of X G c 30 30 rfl rfl
      d71 := df_of X G c 31 31 rfl rfl
      d72 := df_of X G c 32 32 rfl rfl
      d73 := df_of X G c 33 33 rfl rfl
      d74 := df_of X G c 34 34 rfl rfl
      d75 := df_of X G c 35 35 rfl rfl
      d76 := df_of X G c 36 36 rfl rfl
      d77 := df_of X G c 37 37 rfl rfl
      d78 := df_of X G c 38 38 rfl rfl
      d79 := df_of X G c 39 39 rfl rfl
      d80 := df_of X G c 40 40 rfl rfl
      d81 := df_of X G c 41 41 rfl rfl
      d82 := df_of X G c 42 42 rfl rfl
      m_lenB := mdf_of c 79 43 rfl rfl
      m_getB := mdf_of c 80 44 rfl rfl
      m_initB := mdf_of c 81 45 rfl rfl
      m_init := mdf_of c 82 46 rfl rfl
      m_numsOf := mdf_of c 83 47 rfl rfl
      m_cont := mdf_of c 84 48 rfl rfl
      p_pBook := pdf_of c 0 rfl
      p_pFree := pdf_of c 1 rfl
      p_bBase := pdf_of c 2 rfl
      p_bSet := pdf_of c 3 rfl
      p_bFns := pdf_of c 4 rfl
      p_fCalls := pdf_of c 5 rfl
      p_fCols := pdf_of c 6 rfl
      p_fReads := pdf_of c 7 rfl
      i_MOST_FORMS := He.int_ok X G (hfa c 65 rfl)
      i_MOST_FUNCTIONS := He.int_ok X G (hfa c 66 rfl)
      i_MOST_BODIES := He.int_ok X G (hfa c 67 rfl)
      i_MOST_THINGS := He.int_ok X G (hfa c 68 rfl)
      i_MOST_RUN := He.int_ok X G (hfa c 69 rfl)
      initP := by
        obtain ⟨fd, F⟩ := c.t.d.def_ 49 (d := dfM "Plan" "__init__" "Plan.__init__" (inClass (top 48) 0) [("free", .non), ("writers", .non), ("askers", .non)]) rfl
        exact ⟨_, fd, mkP, F⟩
      clP := clP
      clB := clB
      clF := clF
      tree := naF
      Km := ⟨insB_ok clP iP, insB_ok clB iB, insB_ok clF iF, naP, naB, (He.glo_ok X G (hfa c 46 (f := .glo "Form") rfl)), (He.glo_ok X G (hfa c 47 (f := .glo "Book") rfl)), (He.glo_ok X G (hfa c 48 (f := .glo "Plan") rfl))⟩
      mkF := ⟨mkF.makes, mkF.kp⟩
      mkB := ⟨mkB.makes, mkB.kp⟩
      gSg := (He.glo_ok X G (hfa c 43 (f := .glo "SIGNS") rfl))
      sg := sgY_of tS vS
      dSg := tS
      gMo := (He.glo_ok X G (hfa c 44 (f := .glo "MOST") rfl))
      mo := sgY_of tO vM
      gMd := (He.glo_ok X G (hfa c 45 (f := .glo "MODES") rfl))
      mdT := fun H => He.tupB_ok tM H
      Tb := tb }

/-- the law's promise at the head's heap -/
theorem lawAt (X : K.In h) (G : h.Ns mainGlobals mg) (c : SaysY file w h K) {l : PySem.W.OpenLaw} (hf : ((l.prog.main.file : Str) == file) = true) (hs : (l.prog.main.scope.names.lookup ("super" : Str)).isSome = false) {f : Addr} (gL : mg "law" = some (.ref f)) : LawAtS l w K CX0 31 63 "script" mg f h := by
  obtain ⟨cc, cda, F⟩ := fs_of (P := l.prog) X G c hf hs
  obtain ⟨fl, fdl, gl, Dl⟩ := F.d82
  rw [gL] at gl
  cases gl
  obtain ⟨fc, fdc, gC, Dc⟩ := F.d59
  have eL : He.ga K "law" = f := by
    have z := gL.symm.trans (He.glo_ok X G (hfa c 42 (f := .glo "law") rfl))
    cases z
    rfl
  have eC : He.ga K "called" = fc := by
    have z := gC.symm.trans (He.glo_ok X G (hfa c 20 (f := .glo "called") rfl))
    cases z
    rfl
  have neq : !((He.cT K ("called", none)).2 == (He.cT K ("law", none)).2) := by
    obtain ⟨_, m1⟩ := Bool.and_eq_true_iff.mp c.more
    obtain ⟨_, m1⟩ := Bool.and_eq_true_iff.mp m1
    obtain ⟨_, m1⟩ := Bool.and_eq_true_iff.mp m1
    obtain ⟨_, m1⟩ := Bool.and_eq_true_iff.mp m1
    obtain ⟨_, m1⟩ := Bool.and_eq_true_iff.mp m1
    obtain ⟨_, m1⟩ := Bool.and_eq_true_iff.mp m1
    obtain ⟨_, m1⟩ := Bool.and_eq_true_iff.mp m1
    exact (Bool.and_eq_true_iff.mp m1).2
  have codeL : ∃ cl, fdl.code = .ref cl ∧ (He.cT K ("law", none)).1 = cl := by
    obtain ⟨oc, od, dV, kV, doc, pm, an, cdv, ct, osl, rfl, lk, hcd, _⟩ := Dl.ex
    obtain ⟨cl, rfl⟩ := He.codeIn_ref hcd
    exact ⟨cl, rfl, He.codeOf_eq (p := ("law", none)) (show K.lookup (He.ga K "law") = _ by rw [eL]; exact lk) rfl⟩
  have codeC : ∃ cl, fdc.code = .ref cl ∧ (He.cT K ("called", none)).1 = cl := by
    obtain ⟨oc, od, dV, kV, doc, pm, an, cdv, ct, osl, rfl, lk, hcd, _⟩ := Dc.ex
    obtain ⟨cl, rfl⟩ := He.codeIn_ref hcd
    exact ⟨cl, rfl, He.codeOf_eq (p := ("called", none)) (show K.lookup (He.ga K "called") = _ by rw [eC]; exact lk) rfl⟩
  obtain ⟨cl, hcl, ecl⟩ := codeL
  obtain ⟨c2, hc2, ec2⟩ := codeC
  have tabC := c.tab ("called", none) (List.mem_cons_self ..)
  have tabL := c.tab ("law", none) (List.mem_cons_of_mem _ (List.mem_cons_self ..))
  have hPP : (He.cT K ("called", none)).2 ≠ (He.cT K ("law", none)).2 := fun z => by
    rw [z] at neq
    simp at neq
  have b := Dl.bindsA (ps := ["script"]) fun _ _ _ _ _ _ us hl => match us, hl with | [_], _ => rfl
  refine ⟨fdl, [He.cT K ("called", none), He.cT K ("law", none)], spLaw [((He.cT K ("called", none)).2, qAsk), ((He.cT K ("law", none)).2, qLam)] K, ?_, ?_, ?_, fun s u => b s [u] rfl, fun H a ns hl _ hT hS => ?_, fun base X' _ TB => ?_⟩
  · intro p hp
    simp only [List.mem_cons, List.not_mem_nil, or_false] at hp
    rcases hp with rfl | rfl
    · exact tabC.2.2
    · exact tabL.2.2
  · intro p hp
    simp only [List.mem_cons, List.not_mem_nil, or_false] at hp
    rcases hp with rfl | rfl
    · exact tabC.2.1
    · exact tabL.2.1
  · intro p hp
    simp only [List.mem_cons, List.not_mem_nil, or_false] at hp
    rcases hp with rfl | rfl
    · exact PySem.W.codeHd_of_K X tabC.1
    · exact PySem.W.codeHd_of_K X tabL.1
  · refine ⟨a, ns, rfl, hS, hl, fun p hp => ?_, fun _ => rfl⟩
    simp only [List.mem_cons, List.not_mem_nil, or_false] at hp
    rcases hp with rfl | rfl
    · exact TabS.nil (hT _ (List.mem_cons_self ..))
    · exact TabS.nil (hT _ (List.mem_cons_of_mem _ (List.mem_cons_self ..)))
  · have TBc := TB _ (List.mem_cons_self ..)
    have TBl := TB _ (List.mem_cons_of_mem _ (List.mem_cons_self ..))
    rw [ec2] at TBc
    rw [ecl] at TBl
    exact law_all F Dl gC Dc hcl TBl hc2 TBc hPP
end
end K5
end

section
set_option maxHeartbeats 0
/-! ZZ: the end. -/
open PySem PySem.W PySem.Calls PyProof.Rows
set_option maxRecDepth 100000 in
set_option maxHeartbeats 0 in
theorem PySem.Challenge.cw_keptmeanings_k51_whole_memories_holds : PySem.Challenge.rw_keptmeanings_k51_whole_memories.Holds := by
  w_on; o_law
  refine HandSHeadRun.head_any (r := OpenLaw.row PySem.Challenge.rw_keptmeanings_k51_whole_memories) (q := K5.qY) (H := K5.hookY) (ob := K5.obT) (M := 12000) (loose := K5.looseY) (d := HandSHeadRun.topDef (OpenLaw.row PySem.Challenge.rw_keptmeanings_k51_whole_memories).prog 82) (kwd := []) K5.obT_eq
    (by kernel_rfl) (fun s => by kernel_rfl) K5.runY (by kernel_rfl) (by kernel_rfl) (by kernel_rfl) (by rfl) (by first | assumption | decide +kernel) (by decide +kernel) ⟨rfl, rfl, rfl, rfl, rfl, by decide +kernel⟩ ?hw ?hc
  case hw => w_witness2
  case hc =>
    refine LamX.walk_ofTsE (l := PySem.Challenge.rw_keptmeanings_k51_whole_memories) (n := 63) (k := 31) (x := "script") (CX := fun _ => C8.CX0) rfl (by decide) (by kernel_rfl) ⟨rfl, by decide, by decide⟩ ?F (fun _ _ _ _ _ z => z)
    intro w mg fa h Y G hmg0
    obtain ⟨K, KX, c⟩ := Y
    have hmg : mg ("law" : PySem.Str) = some (.ref fa) := by
      have e : (HandSHeadRun.topDef (OpenLaw.row PySem.Challenge.rw_keptmeanings_k51_whole_memories).prog 82).name = ("law" : PySem.Str) := by kernel_rfl
      rw [← e]
      exact hmg0
    exact ⟨K, KX, K5.lawAt KX G c (by kernel_rfl) (by kernel_rfl) hmg⟩
end

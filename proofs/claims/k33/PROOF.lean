import PyProof.Rows.All
import Wide.All
import OpenK.AllK
import Wide.FinOn
import KE.KStateDown
import HandS.ForMost
import HandS.ForExc
import HandS.More
import HandS.Defaults
import HandS.Wide
import HandS.IsInst
import HandS.Head0
import HandS.Head1
import HandS.Head2
import HandS.HeadEnd
import HandS.HeadHook1
import HandS.HeadHook2
import HandS.EndBits
import KE.GoesNew
import KE.GoesEnum
import KE.GoesMore
import HandS.Zip
import HandS.Walk
import HandS.Star
import HandS.TupAny
import HandS.SortInts
import HandS.Codes
import HandS.Property
import HandS.ExcInit
import HandS.ExcField
import HandS.ExcIs
import HandS.TryMany
import HandS.TryOnly
import HandS.Style
import HandS.TupMul
import HandS.Conv
import HandS.SetFor
import HandS.Strs
import HandS.Deep
import HandS.DictComp
import HandS.WordsDict
import KE.SortData
import KE.DataMinMax
import HandS.Small
import PyProof.Rows.Chain
import PyProof.DictCompW
import KE.KDictCopyH
import KE.KDictOf
import HandS.TupLen
import KE.KTupSum
import KE.KExcIs
import PySem.Challenge.RW_restlots_k33_seen_refused
set_option Elab.async false
set_option linter.all false
set_option maxRecDepth 100000
set_option maxHeartbeats 4000000
namespace RL
open PySem PySem.Spec PyProof.Rows L2
abbrev FnP (K : PySem.W.Frag) (x : Str) (st : Stmt) (f : Addr) (fd : FuncData) : Prop := FunD K x x (defArgs st) (defBody st) (defScope st) [] [] f fd
structure Kal (P : Program) (w : World) (K : PySem.W.Frag) (mg : Str → Option Value) (base : Heap) (k : Nat) (x : Str) (sp : Sp) : Prop where
  ex : ∃ (f : Addr) (fd : FuncData) (ps : List Str), FnOk P w K mg base (L2.CX P w) k f fd ps sp ∧ mg x = some (.ref f) ∧ PySem.W.keepIn K (.ref f) = true ∧ Binds K fd ps []
structure TxD (K : PySem.W.Frag) (mg : Str → Option Value) (x : Str) (st : Stmt) : Prop where
  ex : ∃ (f : Addr) (fd : FuncData), mg x = some (.ref f) ∧ FnP K x st f fd
section
variable {P : Program} {w : World} {K : PySem.W.Frag} {mg : Str → Option Value} {base : Heap}
theorem kal {x : Str} {st : Stmt} {N ps : List Str} {k : Nat} {sp : Sp} (T : TxD K mg x st) (S : FnScope N ps (defScope st)) (len : ∀ vs H Q E, sp vs H Q E → vs.length = ps.length)
    (hbd : ∀ (dV kV doc pm : Value) (an : Option Addr) (cdv ct : Value) (us : List Value), us.length = ps.length → bindArgs (PySem.W.fnOf x x (defArgs st) (defBody st) (defScope st) .none kV doc pm an cdv ct) ⟨us, []⟩ = pure (ps.zip us))
    (hbody : ∀ (f : Addr) (cdv : Value) (A : Around) (outer : List Env) (s : Shared) (H : Hp) (vs : List V) (Q : VK) (E : XK), Room k (A.deeper (envOfC x (defScope st) s.heap.objs.size f cdv)) → sp vs H Q E →
      ∃ t, PSs (cxOf (L2.CX P w) P w K mg base N x (defScope st) f cdv A outer s H E) (defBody st) t ∧ t { nx := fun _ H' => Q .non H', rt := Q } (start N vs) H) : Kal P w K mg base (k + 1) x sp := by
  obtain ⟨f, fd, hm, F⟩ := T.ex
  exact ⟨f, fd, ps, F.ok S len (hbody f), hm, F.kp, F.bindsN fun kV doc pm an cdv ct us hl => hbd .none kV doc pm an cdv ct us hl⟩
end
section
variable {X : Cx} {k j : Nat} {x : Str} {sp : Sp} {p pos : Pos} {e : Expr} {es : List Expr} {t : TA}
/-- a call of which nothing is let out -/
theorem pe_k (c : Kal X.prog X.w X.K X.mg X.base k x sp) (hr : Room j X.A) (ha : PA X (e :: es) t) (hk : k ≤ j := by decide) (hg : Gl X x := by rfl)
    (hdb : (x == ("__debug__" : Str)) = false := by decide) (he : starEach (e :: es) X.env = (false, eval e X.env) :: starEach es X.env := by rfl) (hpl : (backTo pos (starEach es X.env)).any (·.1) = false := by rfl) :
    PE X (.Call (.Name x p) (e :: es) [] pos) (tCall sp [] E0 t) := by
  obtain ⟨f, fd, ps, F, hm, kp, b⟩ := c.ex
  exact pe_call F (hr.mono hk) hg hm kp b .nil passL ha hdb he hpl
end
end RL

namespace RL
open PySem PySem.Spec PyProof.Rows L2
/-! enumerate and zip over lists and tuples alike: the kit tells how each iterator draws (Draws), and what enumerate and zip make of it (GoesN); here that is made a Turn -/
/-- a kind of row: list or tuple -/
inductive SK where
  | l | t
/-- the row stands at a place -/
def SK.sq (K : PySem.W.Frag) : SK → Hp → Addr → List V → Prop
  | .l => SqL K
  | .t => SqT K
/-- its iterator's class -/
def SK.cls : SK → String
  | .l => "list_iterator"
  | .t => "tuple_iterator"
def SK.it : SK → Heap → Addr → Addr → Nat → Prop
  | .l => Heap.IsListIter
  | .t => Heap.IsTupleIter
def SK.is : SK → Heap → Addr → Array Value → Prop
  | .l => Heap.IsList
  | .t => Heap.IsTuple
theorem SK.begins : ∀ (k : SK) (a : Addr) (items : Array Value), Begins (.ref a) { cls := .type k.cls, data := .fields #[.ref a, .int 0 0] } (fun h => k.is h a items)
  | .l => begins_list
  | .t => begins_tuple
theorem SK.draws {prog : Program} {w : World} {A : Around} (hh : A.handled = none) (it a : Addr) (hne : a ≠ it) (items : Array Value) : ∀ k : SK, Draws prog w A it [it, a] items.size (fun i v => items[i]? = some v) (fun i h => k.it h it a i ∧ k.is h a items)
  | .l => Draws.list hh it a hne items
  | .t => Draws.tuple hh it a hne items
theorem SK.get {X : Cx} {pins : List (Addr × Obj)} {σ : L2.St} {H : Hp} {s : Shared} {a : Addr} {xs : List V} (I : Inv X pins σ H s) : ∀ {k : SK}, k.sq X.K H a xs → ∃ its : List Value, Vals xs its ∧ k.is s.heap a its.toArray
  | .l, h => let ⟨its, r, p, _⟩ := I.list h; ⟨its, r, p.isList⟩
  | .t, h => let ⟨its, r, p, _⟩ := I.tuple h; ⟨its, r, p⟩
theorem SK.inj {X : Cx} {pins : List (Addr × Obj)} {σ : L2.St} {H : Hp} {s : Shared} {a : Addr} {xs ys : List V} (I : Inv X pins σ H s) : ∀ {k : SK}, k.sq X.K H a xs → k.sq X.K H a ys → xs = ys
  | .l, h, h' => I.list_inj h h'
  | .t, h, h' => I.tuple_inj h h'
theorem SK.lt {h : Heap} {a : Addr} {items : Array Value} : ∀ {k : SK}, k.is h a items → a < h.objs.size
  | .l, ⟨_, e, _⟩ => Heap.lt_size e
  | .t, ⟨_, e, _⟩ => Heap.lt_size e
theorem SK.itAt {h h' : Heap} {it a : Addr} {i : Nat} (e : ∀ o, h.get? it = some o → h'.get? it = some o) : ∀ {k : SK}, k.it h it a i → k.it h' it a i
  | .l, x => x.at e
  | .t, x => x.at e
theorem SK.itObj {h : Heap} {it a : Addr} {i : Nat} : ∀ {k : SK}, k.it h it a i → ∃ o, h.get? it = some o ∧ ∀ v, o.data ≠ .cell v
  | .l, ⟨o, e, _, d⟩ => ⟨o, e, fun v q => by rw [d] at q; cases q⟩
  | .t, ⟨o, e, _, d⟩ => ⟨o, e, fun v q => by rw [d] at q; cases q⟩
theorem SK.itNew {h : Heap} {it a : Addr} : ∀ {k : SK}, h.get? it = some { cls := .type k.cls, data := .fields #[.ref a, .int 0 0] } → k.it h it a 0
  | .l, e => ⟨_, e, rfl, rfl⟩
  | .t, e => ⟨_, e, rfl, rfl⟩
/-- a pair has come: what then stands -/
theorem pair_in {X : Cx} {pins : List (Addr × Obj)} {σ : L2.St} {H : Hp} {s : Shared} {h' : Heap} {tk : Nat} {T : Addr} {wr : List Addr} {x y : V} {u v : Value} (I : Inv X pins σ H s) (hw : ∀ b ∈ wr, FpOk X pins H b)
    (hk : ∀ b o, b ∉ wr → s.heap.get? b = some o → h'.get? b = some o) (hT : s.heap.objs.size ≤ T) (r : RelV x u) (q : RelV y v) (e : h'.IsTuple T #[u, v]) : Inv X pins σ (upd H T (.tup [x, y])) { s with heap := h', toks := tk } :=
  I.turnedNew hk hw hT ⟨show 2 ≤ sizeLine by decide, [u, v], .cons r (.cons q .nil), e⟩
theorem val_at {xs : List V} {its : List Value} {i : Nat} {x : V} {u : Value} (r : Vals xs its) (h : xs[i]? = some x) (e : its.toArray[i]? = some u) : RelV x u := by
  obtain ⟨v, e', q⟩ := r.get h
  rw [List.getElem?_toArray, e'] at e
  cases e
  exact q
/-! enumerate -/
def ItE (K : PySem.W.Frag) (k : SK) (a : Addr) : It where
  go i H := ∃ xs x, k.sq K H a xs ∧ xs[i]? = some x
  yld i H v H' := ∃ T x, v = .ref T ∧ H T = none ∧ H' = upd H T (.tup [.int (i : Nat), x]) ∧ ∀ xs, k.sq K H a xs → xs[i]? = some x
  stop i H := ∃ xs, k.sq K H a xs ∧ xs.length = i
theorem turn_E {P : Program} {w : World} {K : PySem.W.Frag} {elts : List Expr} {kk : Nat} {tpos : Pos} (k : SK) (a e it : Addr) (h1 : a ≠ it) (h2 : a ≠ e) (h3 : e ≠ it) :
    Turn P w K (.Tuple elts kk tpos) (ItE K k a) [e, it] e (fun i h => (∃ old, IsEnum h e it (0 + (i : Int)) old) ∧ k.it h it a i) := by
  have goes : ∀ (X : Cx), X.prog = P → X.w = w → X.calm = true → ∀ {pins σ H s}, Inv X pins σ H s → ∀ its : Array Value, GoesN P w X.A (.Tuple elts kk tpos) e (e :: [it, a]) [e, it] its.size (fun i h₀ v h => ∃ T t x, v = .ref T ∧ h₀.objs.size ≤ T ∧ its[i]? = some x ∧ h.IsTuple T #[.int (0 + (i : Int)) t, x])
      (fun i h => (∃ old, IsEnum h e it (0 + (i : Int)) old) ∧ k.it h it a i ∧ k.is h a its) := fun X eP ew hc pins σ H s I its =>
    GoesN.enumFrom 0 (k.draws (A := X.A.in1) (I.ok.hd hc) it a h1 its) e h3 (by simp [h3, h2.symm]) (by simp)
  refine ⟨by simp, fun i h st b hb => ?_, fun i h h' st hk => ?_, fun X eP ew eK hc i pins s σ H E I hf st hg => ?_, fun X eP ew eK hc i pins s σ H E I hf st hg => ?_, fun A i s Q E st q => ?_⟩
  · obtain ⟨⟨old, he⟩, hi⟩ := st
    rcases List.mem_cons.mp hb with rfl | hb
    · exact ⟨_, he, fun v q => nomatch q⟩
    · rw [List.mem_singleton.mp hb]; exact SK.itObj hi
  · obtain ⟨⟨old, he⟩, hi⟩ := st
    exact ⟨⟨old, hk e (by simp) _ he⟩, SK.itAt (fun o q => hk it (by simp) o q) hi⟩
  · obtain ⟨xs, x, hq, hx⟩ := hg
    rw [← eK] at hq
    obtain ⟨its, rv, p⟩ := SK.get I hq
    obtain ⟨u, hu, ru⟩ := rv.get hx
    have hi : i < its.toArray.size := by simpa using (List.getElem?_eq_some_iff.mp hu).1
    refine (goes X eP ew hc I its.toArray).goes i s (fun v s2 => ∃ x H', Inv X pins σ H' s2 ∧ RelV x v ∧ (ItE K k a).yld i H x H' ∧ _ ∧ ∀ b ∈ [e, it], H' b = none) E hi ⟨st.1, st.2, p⟩ fun v h' tk y st' hk _ => ?_
    obtain ⟨T, t, z, rfl, hT, hz, ht⟩ := y
    rw [Int.zero_add] at ht
    have hn : H T = none := I.hok.fresh hT
    refine ⟨.ref T, upd H T (.tup [.int (i : Nat), x]), pair_in I hf hk hT ⟨t, rfl⟩ (val_at rv hx hz) ht, rfl, ⟨T, x, rfl, hn, rfl, fun ys hy => ?_⟩, ⟨st'.1, st'.2.1⟩, fun b hb => ?_⟩
    · rw [← eK] at hy; rw [SK.inj I hy hq]; exact hx
    · obtain ⟨o, ho, _⟩ : ∃ o, s.heap.get? b = some o ∧ True := by
        rcases List.mem_cons.mp hb with rfl | hb
        · obtain ⟨⟨_, he⟩, _⟩ := st; exact ⟨_, he, trivial⟩
        · rw [List.mem_singleton.mp hb]; obtain ⟨o, ho, _⟩ := SK.itObj st.2; exact ⟨o, ho, trivial⟩
      rw [upd_ne (Nat.ne_of_lt (Nat.lt_of_lt_of_le (Heap.lt_size ho) hT))]
      exact (hf b hb).1
  · obtain ⟨xs, hq, hx⟩ := hg
    rw [← eK] at hq
    obtain ⟨its, rv, p⟩ := SK.get I hq
    have hi : its.toArray.size = i := by simpa [← rv.length] using hx
    refine (goes X eP ew hc I its.toArray).stops s (fun s1 => Inv X pins σ H s1) E (by rw [hi]; exact ⟨st.1, st.2, p⟩) fun h' tk hk _ => I.turnedL hk hf
  · obtain ⟨⟨_, he⟩, _⟩ := st
    exact wpAny_pyIter_enum he q
/-- enumerate(v): how its new comes about -/
theorem enum_new {v : Value} {o : Obj} {G : Heap → Prop} (B : Begins v o G) : Meets (Builtin.«enumerate.__new__» ⟨[.type "enumerate", v], []⟩) (fun _ R s => G s.heap ∧
      R (.ok (.ret (.ref (s.heap.objs.size + 1)))) { s with heap := (s.heap.push o).push { cls := .type "enumerate", data := .fields #[.none, .bool false, .ref s.heap.objs.size, rawInt 0, .none, .none] } }) := by
  refine .of_wp fun prog w A R s ⟨g, r⟩ => ?_
  have hz : (s.heap.push o).objs.size = s.heap.objs.size + 1 := Heap.size_push ..
  rw [← hz] at r
  have sub := sub_enumerate
  have go : ∀ {A' : Around} {E : Value → Shared → Prop} {Q : Value → Shared → Prop}, Q (.ref s.heap.objs.size) { s with heap := s.heap.push o } → wpAny (model prog w) A' (pyIter v) Q E s := fun q => B.iter prog w _ _ s _ g q
  obtain ⟨hp, gn, dr, tk, os⟩ := s
  wp_walk using go
  refine wpAny_stack_any fun st => wpAny_pure ?_
  split
  · rename_i c _ _ _ _ _
    cases (c == Value.type "enumerate") <;> (wp_walk using go; exact ⟨_, rfl, r⟩)
  · wp_walk using go
    exact ⟨_, rfl, r⟩
theorem enum_call {prog : Program} {w : World} {A : Around} {E : Value → Shared → Prop} {s : Shared} {v : Value} {o : Obj} {G : Heap → Prop} {Q : Value → Shared → Prop} (B : Begins v o G) (g : G s.heap)
    (h : ∀ h', IsEnum h' (s.heap.objs.size + 1) s.heap.objs.size 0 .none → h'.get? s.heap.objs.size = some o → (∀ b u, s.heap.get? b = some u → h'.get? b = some u) → Q (.ref (s.heap.objs.size + 1)) { s with heap := h' }) :
    wpAny (model prog w) A (call (.type "enumerate") [v]) Q E s := by
  have hz : (s.heap.push o).objs.size = s.heap.objs.size + 1 := Heap.size_push ..
  have he := Heap.get?_push_size (s.heap.push o) (o := { cls := .type "enumerate", data := .fields #[.none, .bool false, .ref s.heap.objs.size, rawInt 0, .none, .none] }) rfl
  rw [hz] at he
  exact callType_new F.called_enumerate (by decide) (F.typeCall_enumerate_1 _) (F.newCall_enumerate_1 _) (fun obj => F.args_object_init_2 obj _) F.entry_enumerate_new (enum_new B)
    ⟨g, ⟨_, he, rfl⟩, h _ he (Heap.get?_push_of_some _ (Heap.get?_push_size _ B.free)) fun b u x => Heap.get?_push_of_some _ (Heap.get?_push_of_some _ x)⟩
def iEnum2 (K : PySem.W.Frag) (ta : TA) : TI := fun σ H R => ta σ H fun vs H1 => ∃ a xs k, vs = [.ref a] ∧ SK.sq K k H1 a xs ∧ R (ItE K k a) H1
theorem pi_enum2 {X : Cx} {e : Expr} {ta : TA} {p pos tpos : Pos} {elts : List Expr} {kk : Nat} (hg : Gl X "enumerate") (hm : X.mg "enumerate" = none) (ha : PA X [e] ta) (hs : starEach [e] X.env = [(false, eval e X.env)] := by rfl) :
    PI X (.Tuple elts kk tpos) (.Call (.Name "enumerate" p) [e] [] pos) (iEnum2 X.K ta) := by
  constructor
  intro pins s σ H R I h
  refine Call_ (ld_blt I hg hm boot_enumerate (PyProof.Rows.callWith_type1 (thn (ha.run pos pins s σ H _ I h) fun us s1 hq => ?_) hs rfl))
  obtain ⟨vs, H1, I1, r1, a, xs, k, rfl, sq, q⟩ := hq
  rw [Vals.ref1 r1]
  obtain ⟨its, rv, is⟩ := SK.get I1 sq
  refine enum_call (k.begins a its.toArray) is fun h' he hi hk => wpAny_pyIter_enum he ?_
  refine ⟨_, [s1.heap.objs.size + 1, s1.heap.objs.size], _, ItE X.K k a, H1, rfl, I1.kept (t' := s1.toks) hk, turn_E k a _ _ (Nat.ne_of_lt (SK.lt is)) (Nat.ne_of_lt (Nat.lt_succ_of_lt (SK.lt is))) (Nat.succ_ne_self _), ⟨⟨_, he⟩, SK.itNew hi⟩, fun b hb => ?_, q⟩
  have hle : s1.heap.objs.size ≤ b := by
    rcases List.mem_cons.mp hb with rfl | hb
    · exact Nat.le_succ _
    · rw [List.mem_singleton.mp hb]; exact Nat.le_refl _
  exact I1.fpOk hle (I1.hok.fresh hle)
/-! zip -/
def ItZ (K : PySem.W.Frag) (k1 k2 : SK) (a b : Addr) : It where
  go i H := ∃ xs ys x y, k1.sq K H a xs ∧ k2.sq K H b ys ∧ xs[i]? = some x ∧ ys[i]? = some y
  yld i H v H' := ∃ T x y, v = .ref T ∧ H T = none ∧ H' = upd H T (.tup [x, y]) ∧ (∀ xs, k1.sq K H a xs → xs[i]? = some x) ∧ ∀ ys, k2.sq K H b ys → ys[i]? = some y
  stop i H := ∃ xs ys, k1.sq K H a xs ∧ k2.sq K H b ys ∧ min xs.length ys.length = i
theorem turn_Z {P : Program} {w : World} {K : PySem.W.Frag} {elts : List Expr} {kk : Nat} {tpos : Pos} (k1 k2 : SK) {a b z TI TO i1 i2 : Addr} (S : ZipSep2 z TI TO i1 i2 [i1, a] [i2, b]) (h1 : a ≠ i1) (h2 : b ≠ i2) :
    Turn P w K (.Tuple elts kk tpos) (ItZ K k1 k2 a b) [z, TI, TO, i1, i2] z (fun i h => IsZip h z TI TO .none ∧ IsTupOf2 h TI (.ref i1) (.ref i2) ∧ (∃ a1 a2, IsTupOf2 h TO a1 a2) ∧ k1.it h i1 a i ∧ k2.it h i2 b i) := by
  have goes : ∀ (X : Cx), X.prog = P → X.w = w → X.calm = true → ∀ {pins σ H s}, Inv X pins σ H s → ∀ its jts : Array Value, GoesN P w X.A (.Tuple elts kk tpos) z (z :: TI :: TO :: ([i1, a] ++ [i2, b])) [z, TO, i1, i2] (min its.size jts.size) (fun i h₀ v h => ∃ T x y, v = .ref T ∧ h₀.objs.size ≤ T ∧ its[i]? = some x ∧ jts[i]? = some y ∧ h.IsTuple T #[x, y])
      (fun i h => IsZip h z TI TO .none ∧ IsTupOf2 h TI (.ref i1) (.ref i2) ∧ (∃ a1 a2, IsTupOf2 h TO a1 a2) ∧ (k1.it h i1 a i ∧ k1.is h a its) ∧ (k2.it h i2 b i ∧ k2.is h b jts)) := fun X eP ew hc pins σ H s I its jts =>
    GoesN.zip2 S (k1.draws (A := X.A.in1) (I.ok.hd hc) i1 a h1 its) (k2.draws (A := X.A.in1) (I.ok.hd hc) i2 b h2 jts)
  have there : ∀ {i h}, (IsZip h z TI TO .none ∧ IsTupOf2 h TI (.ref i1) (.ref i2) ∧ (∃ a1 a2, IsTupOf2 h TO a1 a2) ∧ k1.it h i1 a i ∧ k2.it h i2 b i) → ∀ c ∈ [z, TI, TO, i1, i2], ∃ o, h.get? c = some o ∧ ∀ v, o.data ≠ .cell v := fun st c hc => by
    obtain ⟨s1, s2, ⟨_, _, s3⟩, s4, s5⟩ := st
    simp only [List.mem_cons, List.not_mem_nil, or_false] at hc
    rcases hc with rfl | rfl | rfl | rfl | rfl
    · exact ⟨_, s1, fun v q => nomatch q⟩
    · exact ⟨_, s2, fun v q => nomatch q⟩
    · exact ⟨_, s3, fun v q => nomatch q⟩
    · exact SK.itObj s4
    · exact SK.itObj s5
  have sub : ∀ c ∈ [z, TO, i1, i2], c ∈ [z, TI, TO, i1, i2] := fun c hc => by
    simp only [List.mem_cons, List.not_mem_nil, or_false] at hc ⊢
    rcases hc with h | h | h | h <;> simp [h]
  refine ⟨by simp, fun i h st => there st, fun i h h' st hk => ?_, fun X eP ew eK hc i pins s σ H E I hf st hg => ?_, fun X eP ew eK hc i pins s σ H E I hf st hg => ?_, fun A i s Q E st q => wpAny_pyIter_zip st.1 q⟩
  · obtain ⟨s1, s2, ⟨a1, a2, s3⟩, s4, s5⟩ := st
    exact ⟨hk z (by simp) _ s1, hk TI (by simp) _ s2, ⟨a1, a2, hk TO (by simp) _ s3⟩, SK.itAt (fun o q => hk i1 (by simp) o q) s4, SK.itAt (fun o q => hk i2 (by simp) o q) s5⟩
  · obtain ⟨xs, ys, x, y, hq, hq', hx, hy⟩ := hg
    rw [← eK] at hq hq'
    obtain ⟨its, rv, p⟩ := SK.get I hq
    obtain ⟨jts, rv', p'⟩ := SK.get I hq'
    obtain ⟨u, hu, ru⟩ := rv.get hx
    obtain ⟨u', hu', ru'⟩ := rv'.get hy
    have hi : i < min its.toArray.size jts.toArray.size := by
      have z1 := (List.getElem?_eq_some_iff.mp hu).1
      have z2 := (List.getElem?_eq_some_iff.mp hu').1
      have e1 : its.toArray.size = its.length := rfl
      have e2 : jts.toArray.size = jts.length := rfl
      omega
    refine (goes X eP ew hc I its.toArray jts.toArray).goes i s (fun v s2 => ∃ x H', Inv X pins σ H' s2 ∧ RelV x v ∧ (ItZ K k1 k2 a b).yld i H x H' ∧ _ ∧ ∀ b ∈ [z, TI, TO, i1, i2], H' b = none) E hi ⟨st.1, st.2.1, st.2.2.1, ⟨st.2.2.2.1, p⟩, st.2.2.2.2, p'⟩ fun v h' tk yl st' hk _ => ?_
    obtain ⟨T, c, d, rfl, hT, hz, hz', ht⟩ := yl
    refine ⟨.ref T, upd H T (.tup [x, y]), pair_in I (fun b hb => hf b (sub b hb)) hk hT (val_at rv hx hz) (val_at rv' hy hz') ht, rfl, ⟨T, x, y, rfl, I.hok.fresh hT, rfl, fun xs' h => ?_, fun ys' h => ?_⟩, ⟨st'.1, st'.2.1, st'.2.2.1, st'.2.2.2.1.1, st'.2.2.2.2.1⟩, fun b hb => ?_⟩
    · rw [← eK] at h; rw [SK.inj I h hq]; exact hx
    · rw [← eK] at h; rw [SK.inj I h hq']; exact hy
    · obtain ⟨o, ho, _⟩ := there st b hb
      rw [upd_ne (Nat.ne_of_lt (Nat.lt_of_lt_of_le (Heap.lt_size ho) hT))]
      exact (hf b hb).1
  · obtain ⟨xs, ys, hq, hq', hx⟩ := hg
    rw [← eK] at hq hq'
    obtain ⟨its, rv, p⟩ := SK.get I hq
    obtain ⟨jts, rv', p'⟩ := SK.get I hq'
    have hi : min its.toArray.size jts.toArray.size = i := by simpa [← rv.length, ← rv'.length] using hx
    exact (goes X eP ew hc I its.toArray jts.toArray).stops s (fun s1 => Inv X pins σ H s1) E (by rw [hi]; exact ⟨st.1, st.2.1, st.2.2.1, ⟨st.2.2.2.1, p⟩, st.2.2.2.2, p'⟩) fun h' tk hk _ => I.turnedL hk fun b hb => hf b (sub b hb)
def iZip2 (K : PySem.W.Frag) (ta : TA) : TI := fun σ H R => ta σ H fun vs H1 => ∃ a b xs ys k1 k2, vs = [.ref a, .ref b] ∧ SK.sq K k1 H1 a xs ∧ SK.sq K k2 H1 b ys ∧ R (ItZ K k1 k2 a b) H1
theorem pi_zip2 {X : Cx} {e e2 : Expr} {ta : TA} {p pos tpos : Pos} {elts : List Expr} {kk : Nat} (hg : Gl X "zip") (hm : X.mg "zip" = none) (ha : PA X [e, e2] ta)
    (hs : starEach [e, e2] X.env = (false, eval e X.env) :: starEach [e2] X.env := by rfl) (hpl : (backTo pos (starEach [e2] X.env)).any (·.1) = false := by rfl) :
    PI X (.Tuple elts kk tpos) (.Call (.Name "zip" p) [e, e2] [] pos) (iZip2 X.K ta) := by
  constructor
  intro pins s σ H R I h
  refine Call_ (ld_blt I hg hm PyProof.Rows.boot_zip (PyProof.Rows.callWith_type1 (thn (ha.run pos pins s σ H _ I h) fun us s1 hq => ?_) hs hpl))
  obtain ⟨vs, H1, I1, r1, a, b, xs, ys, k1, k2, rfl, sq, sq', q⟩ := hq
  obtain rfl : us = [.ref a, .ref b] := by
    cases r1 with
    | cons r rr => cases rr with
      | cons r' rr => cases rr; cases r; cases r'; rfl
  obtain ⟨its, rv, is⟩ := SK.get I1 sq
  obtain ⟨jts, rv', is'⟩ := SK.get I1 sq'
  refine zip_begins2 (k1.begins a its.toArray) (k2.begins b jts.toArray) is is' fun h' hz hTI hTO g1 g2 hsz hk => wpAny_pyIter_zip hz ?_
  have sep := zip_sep2 (N := s1.heap.objs.size) (fp1 := [a]) (fp2 := [b]) (fun c hc => by rw [List.mem_singleton.mp hc]; exact (SK.lt is)) (fun c hc => by rw [List.mem_singleton.mp hc]; exact (SK.lt is'))
  refine ⟨_, [s1.heap.objs.size + 4, s1.heap.objs.size + 2, s1.heap.objs.size + 3, s1.heap.objs.size, s1.heap.objs.size + 1], _, ItZ X.K k1 k2 a b, H1, rfl, I1.kept (t' := s1.toks) hk, turn_Z k1 k2 sep (Nat.ne_of_lt (SK.lt is)) (Nat.ne_of_lt (Nat.lt_succ_of_lt (SK.lt is'))), ⟨hz, hTI, ⟨_, _, hTO⟩, SK.itNew g1, SK.itNew g2⟩, fun c hc => ?_, q⟩
  have hle : s1.heap.objs.size ≤ c := by
    simp only [List.mem_cons, List.not_mem_nil, or_false] at hc
    rcases hc with rfl | rfl | rfl | rfl | rfl <;> omega
  exact I1.fpOk hle (I1.hok.fresh hle)
end RL

namespace L2
open PySem PySem.Spec PyProof.Rows
/-! heaps -/
theorem Same.new {H : Hp} {p : Addr} {o : HO} (h : H p = none) : Same H (upd H p o) := fun b x e => by
  rw [upd_ne (ne_of_none e h)]
  exact e
theorem Same.mut {H H' : Hp} {p : Addr} {o : HO} (e : Same H H') (h : H p = none) : Same H (upd H' p o) := fun b x q => by
  rw [upd_ne (ne_of_none q h)]
  exact e b x q
theorem Same.rd {H H' : Hp} {a : Addr} {u : HO} (e : Same H H') (h : Rd H a u) : Rd H' a u := by
  rcases h with h | ⟨o, h⟩
  · exact .inl (e _ _ h)
  · exact .inr ⟨o, e _ _ h⟩
theorem Same.seqT {K : PySem.W.Frag} {H H' : Hp} {a : Addr} {xs : List V} (e : Same H H') (h : SqT K H a xs) : SqT K H' a xs := by
  rcases h with h | h
  · exact .inl (e.rd h)
  · exact .inr h
theorem sqT_of {K : PySem.W.Frag} {H : Hp} {a : Addr} {xs : List V} (h : H a = some (.tup xs)) : SqT K H a xs := .inl (.inl h)
theorem sqL_of {K : PySem.W.Frag} {H : Hp} {a : Addr} {xs : List V} (h : H a = some (.lst xs)) : SqL K H a xs := .inl (.inl h)
/-! data -/
section
variable {K : PySem.W.Frag} {H H' : Hp}
mutual
theorem Dp.mono (e : Same H H') : ∀ {v : V} {d : PyData}, Dp K H v d → Dp K H' v d
  | _, _, .non => .non
  | _, _, .bl b => .bl b
  | _, _, .int i => .int i
  | _, _, .str x => .str x
  | _, _, .lst s a => .lst (e.seq s) (DpAll.mono e a)
  | _, _, .tup s a => .tup (e.seqT s) (DpAll.mono e a)
theorem DpAll.mono (e : Same H H') : ∀ {vs : List V} {ds : List PyData}, DpAll K H vs ds → DpAll K H' vs ds
  | _, _, .nil => .nil
  | _, _, .cons h t => .cons (Dp.mono e h) (DpAll.mono e t)
end
theorem DpAll.len : ∀ {vs : List V} {ds : List PyData}, DpAll K H vs ds → vs.length = ds.length
  | _, _, .nil => rfl
  | _, _, .cons _ t => congrArg Nat.succ (DpAll.len t)
theorem DpAll.get : ∀ {vs : List V} {ds : List PyData} {i : Nat} {v : V}, DpAll K H vs ds → vs[i]? = some v → ∃ d, ds[i]? = some d ∧ Dp K H v d
  | _, _, _, _, .nil, e => by simp at e
  | _, _, 0, _, .cons h _, e => by simp at e; subst e; exact ⟨_, rfl, h⟩
  | _, _, i + 1, v, .cons _ t, e => by
    obtain ⟨d, h1, h2⟩ := DpAll.get (i := i) (v := v) t (by simpa using e)
    exact ⟨d, by simpa using h1, h2⟩
theorem DpAll.get' : ∀ {vs : List V} {ds : List PyData} {i : Nat} {d : PyData}, DpAll K H vs ds → ds[i]? = some d → ∃ v, vs[i]? = some v ∧ Dp K H v d
  | _, _, _, _, .nil, e => by simp at e
  | _, _, 0, _, .cons h _, e => by simp at e; subst e; exact ⟨_, rfl, h⟩
  | _, _, i + 1, d, .cons _ t, e => by
    obtain ⟨v, h1, h2⟩ := DpAll.get' (i := i) (d := d) t (by simpa using e)
    exact ⟨v, by simpa using h1, h2⟩
theorem DpAll.app : ∀ {vs us : List V} {ds es : List PyData}, DpAll K H vs ds → DpAll K H us es → DpAll K H (vs ++ us) (ds ++ es)
  | _, _, _, _, .nil, h => h
  | _, _, _, _, .cons a t, h => .cons a (DpAll.app t h)
theorem DpAll.take : ∀ {vs : List V} {ds : List PyData} (n : Nat), DpAll K H vs ds → DpAll K H (vs.take n) (ds.take n)
  | _, _, 0, _ => .nil
  | _, _, _ + 1, .nil => .nil
  | _, _, n + 1, .cons a t => .cons a (DpAll.take n t)
theorem DpAll.drop : ∀ {vs : List V} {ds : List PyData} (n : Nat), DpAll K H vs ds → DpAll K H (vs.drop n) (ds.drop n)
  | _, _, 0, h => h
  | _, _, _ + 1, .nil => .nil
  | _, _, n + 1, .cons _ t => DpAll.drop n t
theorem Dp.int_inv {v : V} {i : Int} (h : Dp K H v (.int i)) : v = .int i := by cases h; rfl
theorem Dp.bl_inv {v : V} {b : Bool} (h : Dp K H v (.bool b)) : v = .bl b := by cases h; rfl
theorem Dp.str_inv {v : V} {x : Str} (h : Dp K H v (.str x)) : v = .str x := by cases h; rfl
theorem Dp.non_inv {v : V} (h : Dp K H v .none) : v = .non := by cases h; rfl
theorem Dp.tup_inv {v : V} {ds : List PyData} (h : Dp K H v (.tuple ds)) : ∃ a xs, v = .ref a ∧ SqT K H a xs ∧ DpAll K H xs ds := by cases h; exact ⟨_, _, rfl, ‹_›, ‹_›⟩
theorem Dp.lst_inv {v : V} {ds : List PyData} (h : Dp K H v (.list ds)) : ∃ a xs, v = .ref a ∧ SqL K H a xs ∧ DpAll K H xs ds := by cases h; exact ⟨_, _, rfl, ‹_›, ‹_›⟩
theorem DpAll.ints_inv : ∀ {ns : List Int} {vs : List V}, DpAll K H vs (ns.map .int) → vs = ns.map V.int
  | [], _, h => by cases h; rfl
  | n :: r, _, h => by
    cases h with
    | cons a t => rw [Dp.int_inv a, DpAll.ints_inv (ns := r) t]; rfl
theorem DpAll.ints : ∀ {ns : List Int}, DpAll K H (ns.map V.int) (ns.map .int)
  | [] => .nil
  | _ :: _ => .cons (.int _) DpAll.ints
theorem DpAll.bls_inv : ∀ {ns : List Bool} {vs : List V}, DpAll K H vs (ns.map .bool) → vs = ns.map V.bl
  | [], _, h => by cases h; rfl
  | n :: r, _, h => by
    cases h with
    | cons a t => rw [Dp.bl_inv a, DpAll.bls_inv (ns := r) t]; rfl
theorem DpAll.two {vs : List V} {d e : PyData} (h : DpAll K H vs [d, e]) : ∃ u v, vs = [u, v] ∧ Dp K H u d ∧ Dp K H v e := by
  cases h with
  | cons a t => cases t with
    | cons b t => cases t; exact ⟨_, _, rfl, a, b⟩
theorem DpAll.one {vs : List V} {d : PyData} (h : DpAll K H vs [d]) : ∃ u, vs = [u] ∧ Dp K H u d := by
  cases h with
  | cons a t => cases t; exact ⟨_, rfl, a⟩
end

/-! tuples alone -/
/-- the tuples stand -/
def SameT (H H' : Hp) : Prop := (∀ a xs, H a = some (.tup xs) → H' a = some (.tup xs)) ∧ ∀ a o xs, H a = some (.frz o (.tup xs)) → H' a = some (.frz o (.tup xs))
theorem SameT.refl (H : Hp) : SameT H H := ⟨fun _ _ h => h, fun _ _ _ h => h⟩
theorem SameT.trans {H H1 H2 : Hp} (a : SameT H H1) (b : SameT H1 H2) : SameT H H2 := ⟨fun _ _ h => b.1 _ _ (a.1 _ _ h), fun _ _ _ h => b.2 _ _ _ (a.2 _ _ _ h)⟩
theorem Same.t {H H' : Hp} (e : Same H H') : SameT H H' := ⟨fun _ _ h => e _ _ h, fun _ _ _ h => e _ _ h⟩
theorem SameT.lst {H : Hp} {p : Addr} {xs : List V} {o : HO} (h : H p = some (.lst xs)) : SameT H (upd H p o) :=
  ⟨fun a ys e => by rw [upd_ne (ne_of e h (fun z => by cases z))]; exact e, fun a o ys e => by rw [upd_ne (ne_of e h (fun z => by cases z))]; exact e⟩
theorem SameT.seq {K : PySem.W.Frag} {H H' : Hp} {a : Addr} {xs : List V} (e : SameT H H') (h : SqT K H a xs) : SqT K H' a xs := by
  rcases h with (h | ⟨o, h⟩) | h
  · exact .inl (.inl (e.1 _ _ h))
  · exact .inl (.inr ⟨o, e.2 _ _ _ h⟩)
  · exact .inr h
end L2
namespace RL
open PySem PySem.Spec PyProof.Rows L2
/-- tuples, lists of ints; bars -/
abbrev dT (ns : List Int) : PyData := .tuple (ns.map .int)
abbrev dL (ns : List Int) : PyData := .list (ns.map .int)
abbrev Bar := Int × List Int
section
variable {K : PySem.W.Frag} {H H' : Hp}
theorem Dp.ints_inv {v : V} {ns : List Int} (h : Dp K H v (dT ns)) : ∃ a, v = .ref a ∧ SqT K H a (ns.map V.int) := by
  obtain ⟨a, xs, e, s, t⟩ := Dp.tup_inv h
  rw [DpAll.ints_inv t] at s
  exact ⟨a, e, s⟩
theorem Dp.ints {a : Addr} {ns : List Int} (h : SqT K H a (ns.map V.int)) : Dp K H (.ref a) (dT ns) := .tup h DpAll.ints
theorem Dp.intsL {a : Addr} {ns : List Int} (h : SqL K H a (ns.map V.int)) : Dp K H (.ref a) (dL ns) := .lst h DpAll.ints
end
end RL

namespace RL
open PySem PySem.Spec PyProof.Rows L2
/-! the head: defs by addresses, facts by tests -/
structure DefA where
  ad : PySem.W.Frag → Addr
  name : Str
  qual : Str
  params : Arguments
  body : List Stmt
  scope : Scope
def fnA (K : PySem.W.Frag) (a : Addr) : He.FnW := match K.lookup a with
  | some ⟨_, _, .func fd, _⟩ => some (fd.name, fd.qualname, fd.params, fd.body, fd.scope, fd.globals, fd.closure, fd.builtins)
  | _ => none
def DefA.val (d : DefA) : He.FnW := some (d.name, d.qual, d.params, .stmts d.body, d.scope, mainGlobals, [], builtinsNs)
def DefA.ok (K : PySem.W.Frag) (d : DefA) : Bool := PySem.W.keepIn K (.ref (d.ad K)) && (match K.lookup (d.ad K) with
  | some ⟨_, _, .func fd, _⟩ => PySem.W.codeIn K fd.code d.qual && (He.dflB K fd.defaults [] && He.kwdB K fd.kwdefaults [])
  | _ => false)
theorem DefA.funD {K : PySem.W.Frag} {d : DefA} (e : fnA K (d.ad K) = d.val) (c : d.ok K = true) : ∃ fd, FunD K d.name d.qual d.params d.body d.scope [] [] (d.ad K) fd := by
  obtain ⟨kp, c2⟩ := He.ba c
  unfold fnA at e
  cases q : K.lookup (d.ad K) with
  | none =>
    rw [q] at c2
    cases c2
  | some o =>
    obtain ⟨oc, od, dt, osl⟩ := o
    rw [q] at c2 e
    cases dt with
    | func fd =>
      obtain ⟨n1, n2, n3, n4, n5, n6, n7, n8, n9, n10, n11, n12, n13, n14, n15⟩ := fd
      have e2 : (some (n1, n2, n3, n4, n5, n6, n7, n15) : He.FnW) = some (d.name, d.qual, d.params, .stmts d.body, d.scope, mainGlobals, [], builtinsNs) := e
      simp only [Option.some.injEq, Prod.mk.injEq] at e2
      obtain ⟨h1, h2, h3, h4, h5, h6, h7, h8⟩ := e2
      subst h1 h2 h3 h4 h5 h6 h7 h8
      have c3 : (PySem.W.codeIn K n13 d.qual && (He.dflB K n8 [] && He.kwdB K n9 [])) = true := c2
      obtain ⟨k1, k2⟩ := He.ba c3
      obtain ⟨k3, k4⟩ := He.ba k2
      exact ⟨_, ⟨oc, od, n8, n9, n10, n11, n12, n13, n14, osl, rfl, q, k1, He.dflB_ok k3, He.kwdB_ok k4⟩, kp⟩
    | _ => cases c2
abbrev Fct := PySem.W.Frag → Bool
def obsR (exs : List Fct) (fns : List DefA) (K : PySem.W.Frag) : He.AlD := ((exs.all fun f => f K) && fns.all fun d => d.ok K, fns.map fun d => fnA K (d.ad K))
def valR (fns : List DefA) : He.AlD := (true, fns.map DefA.val)
def SaysR (exs : List Fct) (fns : List DefA) (K : PySem.W.Frag) : Prop := obsR exs fns K = valR fns
def obsRG (n : Nat) (exs : List Fct) (fns : List DefA) (g : Addr → Option Obj) : He.AlD := obsR exs fns (He.frG g (He.asD g n))
def hookR (n : Nat) (exs : List Fct) (fns : List DefA) : PySem.W.Hook where
  α := He.AlD
  obs := fun s => obsRG n exs fns s.heap.get?
  val := fun _ => valR fns
  says := fun _ h => ∃ K : PySem.W.Frag, K.In h ∧ SaysR exs fns K
  of := fun _ _ e => ⟨_, He.frG_in, e⟩
  keeps := fun _ _ _ ⟨K, hK, c⟩ k => ⟨K, PySem.W.Frag.In.keeps hK k, c⟩
theorem obsRG_eq {n : Nat} {exs : List Fct} {fns : List DefA} {g : Addr → Option Obj} {s : Shared} (h : ∀ a, g a = s.heap.get? a) : obsRG n exs fns g = (hookR n exs fns).obs s := by
  have e : g = s.heap.get? := funext h
  rw [e] <;> rfl
section
variable {exs : List Fct} {fns : List DefA} {K : PySem.W.Frag}
theorem SaysR.fact (c : SaysR exs fns K) (i : Nat) {f : Fct} (h : exs[i]? = some f := by rfl) : f K = true := by
  have c1 := (He.ba (show ((exs.all fun f => f K) && fns.all fun d => d.ok K) = true from congrArg (fun z : He.AlD => z.1) c)).1
  exact List.all_eq_true.mp c1 f (List.mem_of_getElem? h)
theorem SaysR.def_ (c : SaysR exs fns K) (i : Nat) {d : DefA} (h : fns[i]? = some d := by rfl) : ∃ fd, FunD K d.name d.qual d.params d.body d.scope [] [] (d.ad K) fd := by
  have c2 := (He.ba (show ((exs.all fun f => f K) && fns.all fun d => d.ok K) = true from congrArg (fun z : He.AlD => z.1) c)).2
  have e : fns.map (fun d => fnA K (d.ad K)) = fns.map DefA.val := congrArg (fun z : He.AlD => z.2) c
  have e2 : (fns.map fun d => fnA K (d.ad K))[i]? = (fns.map DefA.val)[i]? := by rw [e]
  rw [List.getElem?_map, List.getElem?_map, h] at e2
  exact DefA.funD (Option.some.inj e2) (List.all_eq_true.mp c2 d (List.mem_of_getElem? h))
end
/-! a class's properties -/
def prA (x f : Str) (K : PySem.W.Frag) : Addr := match PySem.W.findIn K (.ref (He.ga K x)) f with
  | some (some (.ref p)) => p
  | _ => 0
def geA (x f : Str) (K : PySem.W.Frag) : Addr := match PySem.W.recIn K (prA x f K) "property" with
  | some (.ref g :: _) => g
  | _ => 0
def propB (x f : Str) : Fct := fun K => He.eqO (PySem.W.findIn K (.ref (He.ga K x)) f) (some (some (.ref (prA x f K)))) && (He.eqO (PySem.W.specialIn K (.ref (prA x f K)) "__get__") (some (some (.builtin "property.__get__"))) &&
  (decide (PySem.W.takesIn K (.ref (prA x f K)) = some true) && (match PySem.W.recIn K (prA x f K) "property" with
    | some (.ref g :: _) => decide (g = geA x f K)
    | _ => false)))
theorem propB_ok {x f : Str} {K : PySem.W.Frag} (c : propB x f K = true) : PropOf K (He.ga K x) f (prA x f K) (geA x f K) := by
  obtain ⟨c1, c⟩ := He.ba c
  obtain ⟨c2, c⟩ := He.ba c
  obtain ⟨c3, c4⟩ := He.ba c
  refine ⟨He.eqO_ok c1, He.eqO_ok c2, of_decide_eq_true c3, ?_⟩
  cases e : PySem.W.recIn K (prA x f K) "property" with
  | none => rw [e] at c4; cases c4
  | some l =>
    cases l with
    | nil => rw [e] at c4; cases c4
    | cons v r =>
      rw [e] at c4
      cases v with
      | ref g =>
        have eg : g = geA x f K := of_decide_eq_true c4
        exact ⟨r, by rw [eg]⟩
      | _ => cases c4
section
variable {K : PySem.W.Frag} {h : Heap} {mg : Str → Option Value}
theorem fun_glo (X : K.In h) (G : h.Ns mainGlobals mg) {x : Str} (c : (He.Fa.glo x).ok K = true) : mg x = some (.ref (He.ga K x)) := He.glo_ok X G c
theorem fun_free (X : K.In h) (G : h.Ns mainGlobals mg) {x : Str} (c : (He.Fa.free x).ok K = true) : mg x = none := He.free_ok X G c
theorem fun_int (X : K.In h) (G : h.Ns mainGlobals mg) {x : Str} {i : Int} (c : (He.Fa.int x i).ok K = true) : ∃ u, mg x = some u ∧ RelV (.int i) u := by
  obtain ⟨t, e⟩ := He.int_ok X G c
  exact ⟨_, e, t, rfl⟩
theorem fun_str (X : K.In h) (G : h.Ns mainGlobals mg) {x z : Str} (c : (He.Fa.str x z).ok K = true) : ∃ u, mg x = some u ∧ RelV (.str z) u := by
  obtain ⟨t, e⟩ := He.str_ok X G c
  exact ⟨_, e, t, rfl⟩
end
theorem pe_ty {X : Cx} {x : Str} {pos : Pos} {n : String} (hg : Gl X x) (hm : X.mg x = none) (hv : bootBuiltins x = some (.type n)) (h1 : x ≠ "__name__" := by decide) (h2 : (x == ("__debug__" : Str)) = false := by decide) : PE X (.Name x pos) (tC (.ty n)) := by
  first
    | exact pe_bltn (v := .ty n) hg hm hv rfl
    | exact pe_bltn (v := .ty n) hg hm hv rfl h1 h2
    | exact pe_bltn (v := .ty n) hg hm hv rfl h2 h1
/-! built-ins -/
theorem bt_len : bootBuiltins "len" = some (.builtin "len") := by decide +kernel
theorem bt_isinstance : bootBuiltins "isinstance" = some (.builtin "isinstance") := by decide +kernel
theorem bt_all : bootBuiltins "all" = some (.builtin "all") := by decide +kernel
theorem bt_any : bootBuiltins "any" = some (.builtin "any") := by decide +kernel
theorem bt_sum : bootBuiltins "sum" = some (.builtin "sum") := by decide +kernel
theorem bt_sorted : bootBuiltins "sorted" = some (.builtin "sorted") := by decide +kernel
theorem bt_max : bootBuiltins "max" = some (.builtin "max") := by decide +kernel
theorem bt_min : bootBuiltins "min" = some (.builtin "min") := by decide +kernel
theorem bt_abs : bootBuiltins "abs" = some (.builtin "abs") := by decide +kernel
theorem bt_int : bootBuiltins "int" = some (.type "int") := by decide +kernel
theorem bt_bool : bootBuiltins "bool" = some (.type "bool") := by decide +kernel
theorem bt_tuple : bootBuiltins "tuple" = some (.type "tuple") := by decide +kernel
theorem bt_list : bootBuiltins "list" = some (.type "list") := by decide +kernel
theorem bt_str : bootBuiltins "str" = some (.type "str") := by decide +kernel
theorem bt_dict : bootBuiltins "dict" = some (.type "dict") := by decide +kernel
theorem bt_range : bootBuiltins "range" = some (.type "range") := by decide +kernel
end RL

namespace RL
open PySem PySem.Spec PyProof.Rows L2
/-! kinds of values -/
def tyD : PyData → String
  | .none => "NoneType"
  | .bool _ => "bool"
  | .int _ => "int"
  | .str _ => "str"
  | .list _ => "list"
  | .tuple _ => "tuple"
  | .dict _ => "dict"
section
variable {K : PySem.W.Frag} {H : Hp}
theorem ty_D {v : V} {d : PyData} (h : Dp K H v d) : TyX K H v (.type (tyD d)) := by
  cases h with
  | non => exact .base .non
  | bl b => exact .base (.bl b)
  | int i => exact .base (.int i)
  | str x => exact .base (.str x)
  | lst s a =>
    rcases s with (s | ⟨o, s⟩) | ⟨o, its, n, e, c, _⟩
    · exact .base (.lst s)
    · exact .base (.frz s)
    · exact .kList e c
  | tup s a =>
    rcases s with (s | ⟨o, s⟩) | ⟨o, its, n, e, c, _⟩
    · exact .base (.tup s)
    · exact .fTuple s
    · exact .kTuple e c
end
def asc : List Int → Bool
  | a :: b :: r => decide (a < b) && asc (b :: r)
  | _ => true
theorem asc_zip : ∀ ns : List Int, (ns.zip (ns.drop 1)).all (fun p => decide (p.1 < p.2)) = asc ns
  | [] => rfl
  | [_] => rfl
  | a :: b :: r => by
    have ih := asc_zip (b :: r)
    simp only [List.drop_succ_cons, List.drop_zero, List.zip_cons_cons, List.all_cons, asc] at ih ⊢
    rw [← ih]
/-! numbers -/
theorem gcd_step (a b : Int) : Int.gcd b (a % b) = Int.gcd a b := by
  have e : a % b + b * (a / b) = a := Int.emod_add_mul_ediv a b
  apply Nat.dvd_antisymm
  · refine Int.dvd_gcd ?_ (Int.gcd_dvd_left ..)
    have h1 := Int.dvd_add (Int.gcd_dvd_right b (a % b)) (Int.dvd_mul_of_dvd_left (c := a / b) (Int.gcd_dvd_left b (a % b)))
    rw [e] at h1
    exact h1
  · refine Int.dvd_gcd (Int.gcd_dvd_right ..) ?_
    have h1 := Int.dvd_sub (Int.gcd_dvd_left a b) (Int.dvd_mul_of_dvd_left (c := a / b) (Int.gcd_dvd_right a b))
    have e2 : a - b * (a / b) = a % b := by omega
    rw [e2] at h1
    exact h1
theorem gcd_pos_of {a b : Int} (ha : 0 < a) : 0 < ((Int.gcd a b : Nat) : Int) := by
  have h : Int.gcd a b ≠ 0 := fun z => by
    have := Int.eq_zero_of_gcd_eq_zero_left z
    omega
  omega
theorem gcd_le_right {a b : Int} (hb : 0 < b) : ((Int.gcd a b : Nat) : Int) ≤ b := Int.le_of_dvd hb (Int.gcd_dvd_right a b)
theorem gcd_le_left {a b : Int} (ha : 0 < a) : ((Int.gcd a b : Nat) : Int) ≤ a := Int.le_of_dvd ha (Int.gcd_dvd_left a b)
theorem small_div {i j : Int} (h : 0 < j) (hb : j < 2 ^ 250) : CDivW i j := wide_div (b := 250) h (by omega) (by omega) (by omega)
theorem lcm_eq {a b : Int} (ha : 0 < a) (hb : 0 < b) : a / ((Int.gcd a b : Nat) : Int) * b = ((Int.lcm a b : Nat) : Int) := by
  have hg := gcd_pos_of (b := b) ha
  obtain ⟨k, hk⟩ := Int.gcd_dvd_left a b
  have h1 : (Int.gcd a b : Int) * (Int.lcm a b : Int) = ((a.natAbs * b.natAbs : Nat) : Int) := by exact_mod_cast Int.gcd_mul_lcm a b
  have h2 : ((a.natAbs * b.natAbs : Nat) : Int) = a * b := by
    rw [Int.natCast_mul, Int.natAbs_of_nonneg (by omega), Int.natAbs_of_nonneg (by omega)]
  have h3 : a / ((Int.gcd a b : Nat) : Int) = k := by
    conv => lhs; lhs; rw [hk]
    rw [Int.mul_ediv_cancel_left _ (by omega)]
  rw [h3]
  apply Int.eq_of_mul_eq_mul_left (a := ((Int.gcd a b : Nat) : Int)) (by omega)
  rw [h1, h2, ← Int.mul_assoc, ← hk]
/-! the inverse -/
structure InvI (a m f s o t : Int) : Prop where
  f0 : 0 ≤ f
  s0 : 0 ≤ s
  fm : f < 2 ^ 60
  sm : s < 2 ^ 60
  g : Int.gcd f s = 1
  d1 : m ∣ o * a - f
  d2 : m ∣ t * a - s
theorem InvI.start {a m : Int} (hm : 0 < m) (hm2 : m < 2 ^ 60) (hg : Int.gcd a m = 1) : InvI a m (a % m) m 1 0 := by
  have h1 := Int.emod_nonneg a (Int.ne_of_gt hm)
  have h2 := Int.emod_lt_of_pos a hm
  refine ⟨h1, by omega, by omega, hm2, ?_, ?_, ?_⟩
  · rw [Int.gcd_comm, gcd_step, hg]
  · rw [Int.one_mul]
    exact ⟨a / m, by have := Int.emod_add_mul_ediv a m; omega⟩
  · exact ⟨-1, by omega⟩
theorem InvI.step {a m f s o t : Int} (h : InvI a m f s o t) (hs : 0 < s) : InvI a m s (f - f / s * s) t (o - f / s * t) := by
  have e : f - f / s * s = f % s := by
    have := Int.emod_add_mul_ediv f s
    rw [Int.mul_comm (f / s) s]
    omega
  have h1 := Int.emod_nonneg f (Int.ne_of_gt hs)
  have h2 := Int.emod_lt_of_pos f hs
  refine ⟨h.s0, by omega, h.sm, by have := h.sm; omega, ?_, h.d2, ?_⟩
  · rw [e, gcd_step, h.g]
  · have e2 : (o - f / s * t) * a - (f - f / s * s) = (o * a - f) - f / s * (t * a - s) := by
      rw [Int.sub_mul, Int.mul_sub, Int.mul_assoc]
      omega
    rw [e2]
    exact Int.dvd_sub h.d1 (Int.dvd_mul_of_dvd_right h.d2)
theorem InvI.done {a m f o t : Int} (hm : 0 < m) (h : InvI a m f 0 o t) : (o % m * a) % m = 1 % m := by
  have h1 : f = 1 := by
    have := h.g
    rw [Int.gcd_zero_right] at this
    have := h.f0
    omega
  obtain ⟨k, hk⟩ := h.d1
  rw [Int.mul_emod, Int.emod_emod, ← Int.mul_emod]
  have e : o * a = 1 + m * k := by omega
  rw [e, Int.add_mul_emod_self_left]
/-! joined -/
theorem part_pos {a b : Int} (ha : 0 < a) (hb : 0 < b) : 0 < b / ((Int.gcd a b : Nat) : Int) := by
  have hg := gcd_pos_of (b := b) ha
  obtain ⟨p, hp⟩ := Int.gcd_dvd_right a b
  generalize ((Int.gcd a b : Nat) : Int) = g at *
  rw [hp, Int.mul_ediv_cancel_left _ (by omega)]
  rw [hp] at hb
  exact Int.pos_of_mul_pos_right hb hg
theorem part_le {a b : Int} (hb : 0 < b) : b / ((Int.gcd a b : Nat) : Int) ≤ b := Int.ediv_le_self _ (by omega)
theorem gcd_parts {a b : Int} (ha : 0 < a) (hb : 0 < b) : Int.gcd (a / (Int.gcd a b : Nat)) (b / (Int.gcd a b : Nat)) = 1 := by
  have hg := gcd_pos_of (b := b) ha
  have h := Int.gcd_ediv_gcd_ediv_gcd (i := a) (j := b) (by omega)
  exact h
theorem joined_ok {one first other second i g : Int} (eg : ((Int.gcd first second : Nat) : Int) = g) (h0 : 0 ≤ one) (h1 : one < first) (h2 : 0 < second) (hd : g ∣ other - one) (hi : (i * (first / g)) % (second / g) = 1 % (second / g)) :
    0 ≤ one + first * ((other - one) / g * i % (second / g)) ∧ one + first * ((other - one) / g * i % (second / g)) < ((Int.lcm first second : Nat) : Int) ∧
      first ∣ one + first * ((other - one) / g * i % (second / g)) - one ∧ second ∣ one + first * ((other - one) / g * i % (second / g)) - other := by
  have hf : 0 < first := by omega
  have hg : 0 < g := by rw [← eg]; exact gcd_pos_of hf
  obtain ⟨f', hf'⟩ : g ∣ first := by rw [← eg]; exact Int.gcd_dvd_left ..
  obtain ⟨p', hp'⟩ : g ∣ second := by rw [← eg]; exact Int.gcd_dvd_right ..
  obtain ⟨q, hq⟩ := hd
  have ep : second / g = p' := by rw [hp', Int.mul_ediv_cancel_left _ (by omega)]
  have ef : first / g = f' := by rw [hf', Int.mul_ediv_cancel_left _ (by omega)]
  have eq : (other - one) / g = q := by rw [hq, Int.mul_ediv_cancel_left _ (by omega)]
  have hp0 : 0 < p' := by
    rw [hp'] at h2
    exact Int.pos_of_mul_pos_right h2 (by omega)
  rw [ef, ep] at hi
  rw [eq, ep]
  have hs0 := Int.emod_nonneg (q * i) (Int.ne_of_gt hp0)
  have hs1 := Int.emod_lt_of_pos (q * i) hp0
  have el : ((Int.lcm first second : Nat) : Int) = first * p' := by
    have := lcm_eq (a := first) (b := second) hf h2
    rw [eg, ef] at this
    rw [← this, hp', hf', Int.mul_comm g p', ← Int.mul_assoc, Int.mul_assoc g f' p', Int.mul_comm f' p', Int.mul_comm g (p' * f'), Int.mul_comm p' f']
  rw [el]
  have hm0 : 0 ≤ first * (q * i % p') := Int.mul_nonneg (by omega) hs0
  have hm1 : first * (q * i % p') ≤ first * (p' - 1) := Int.mul_le_mul_of_nonneg_left (by omega) (by omega)
  have hm2 : first * (p' - 1) = first * p' - first := by rw [Int.mul_sub, Int.mul_one]
  refine ⟨by omega, by omega, ⟨q * i % p', by omega⟩, ?_⟩
  -- second divides
  have h5 : p' ∣ f' * (q * i % p') - q := by
    have h6 : (f' * (q * i % p')) % p' = q % p' := by
      rw [Int.mul_emod, Int.emod_emod, ← Int.mul_emod]
      have : f' * (q * i) = q * (i * f') := by rw [Int.mul_comm f', Int.mul_assoc]
      rw [this, Int.mul_emod, hi, ← Int.mul_emod, Int.mul_one]
    exact Int.dvd_of_emod_eq_zero (by rw [Int.sub_emod, h6, Int.sub_self, Int.zero_emod])
  obtain ⟨k, hk⟩ := h5
  refine ⟨k, ?_⟩
  have h7 : one + first * (q * i % p') - other = g * (f' * (q * i % p') - q) := by
    rw [Int.mul_sub, ← Int.mul_assoc, ← hf', ← hq]
    omega
  rw [h7, hk, ← Int.mul_assoc, ← hp']
/-! the one number of two rests -/
def jn (c w t m : Int) : Int := (((List.range (Int.lcm w m)).map Int.ofNat).find? (fun r => decide (w ∣ r - c) && decide (m ∣ r - t))).getD 0
theorem jn_uniq {c w t m r r' : Int} (h0 : 0 ≤ r) (h1 : r < ((Int.lcm w m : Nat) : Int)) (d1 : w ∣ r - c) (d2 : m ∣ r - t) (h0' : 0 ≤ r') (h1' : r' < ((Int.lcm w m : Nat) : Int)) (d1' : w ∣ r' - c) (d2' : m ∣ r' - t) : r = r' := by
  have e1 : w ∣ r - r' := by
    have := Int.dvd_sub d1 d1'
    have e : r - c - (r' - c) = r - r' := by omega
    rw [e] at this
    exact this
  have e2 : m ∣ r - r' := by
    have := Int.dvd_sub d2 d2'
    have e : r - t - (r' - t) = r - r' := by omega
    rw [e] at this
    exact this
  have e3 : ((Int.lcm w m : Nat) : Int) ∣ r - r' := Int.coe_lcm_dvd e1 e2
  obtain ⟨k, hk⟩ := e3
  generalize ((Int.lcm w m : Nat) : Int) = L at *
  have hk0 : k = 0 := by
    rcases Int.lt_trichotomy k 0 with h | h | h
    · have : L * k ≤ L * (-1) := Int.mul_le_mul_of_nonneg_left (by omega) (by omega)
      omega
    · exact h
    · have : L * 1 ≤ L * k := Int.mul_le_mul_of_nonneg_left (by omega) (by omega)
      omega
  subst hk0
  rw [Int.mul_zero] at hk
  omega
theorem jn_eq {c w t m r : Int} (h0 : 0 ≤ r) (h1 : r < ((Int.lcm w m : Nat) : Int)) (d1 : w ∣ r - c) (d2 : m ∣ r - t) : jn c w t m = r := by
  unfold jn
  cases e : ((List.range (Int.lcm w m)).map Int.ofNat).find? (fun r => decide (w ∣ r - c) && decide (m ∣ r - t)) with
  | none =>
    have := List.find?_eq_none.mp e r (List.mem_map.mpr ⟨r.toNat, List.mem_range.mpr (by omega), by simp; omega⟩)
    simp [d1, d2] at this
  | some x =>
    have h2 := List.find?_some e
    have h3 := List.mem_of_find?_eq_some e
    obtain ⟨n, hn, rfl⟩ := List.mem_map.mp h3
    have hn2 := List.mem_range.mp hn
    simp only [Bool.and_eq_true, decide_eq_true_eq] at h2
    have hx : Int.ofNat n = ((n : Nat) : Int) := rfl
    exact (jn_uniq h0 h1 d1 d2 (by omega) (by omega) h2.1 h2.2).symm
/-! sieves -/
def fitsB (bs : List Bar) (n : Int) : Bool := bs.all fun b => decide (n % b.1 ∈ b.2)
def wholeOf (bs : List Bar) : Int := bs.foldl (fun w b => ((Int.lcm w b.1 : Nat) : Int)) 1
def ownOf (bs : List Bar) : List Int := ((List.range (wholeOf bs).toNat).map Int.ofNat).filter (fitsB bs)
def mx1 (n : Nat) : Int := if (n : Int) > 1 then (n : Int) else 1
def manyOf (bs : List Bar) : Int := bs.foldl (fun k b => k * mx1 b.2.length) 1
/-- a bar as the document has it -/
structure BarOk (b : Bar) : Prop where
  m0 : 0 < b.1
  m1 : b.1 ≤ 1000000
  len : b.2.length ≤ 60
  rng : ∀ t ∈ b.2, 0 ≤ t ∧ t < b.1
  asc : b.2.Pairwise (· < ·)
theorem lcm_pos' {a b : Int} (ha : 0 < a) (hb : 0 < b) : 0 < ((Int.lcm a b : Nat) : Int) := by
  have := Int.lcm_pos (m := a) (n := b) (by omega) (by omega)
  omega
theorem lcm_le_mul {a b : Int} (ha : 0 < a) (hb : 0 < b) : ((Int.lcm a b : Nat) : Int) ≤ a * b := Int.le_of_dvd (Int.mul_pos ha hb) (Int.lcm_dvd_mul a b)
theorem wholeOf_app (bs : List Bar) (b : Bar) : wholeOf (bs ++ [b]) = ((Int.lcm (wholeOf bs) b.1 : Nat) : Int) := by
  simp [wholeOf, List.foldl_append]
theorem manyOf_app (bs : List Bar) (b : Bar) : manyOf (bs ++ [b]) = manyOf bs * mx1 b.2.length := by
  simp [manyOf, List.foldl_append]
theorem take_succ_of {α : Type} {l : List α} {i : Nat} {a : α} (h : l[i]? = some a) : l.take (i + 1) = l.take i ++ [a] := by
  rw [List.take_add_one, h]
  rfl
theorem wholeOf_bd : ∀ (n : Nat) (bs : List Bar), bs.length = n → (∀ b ∈ bs, 0 < b.1 ∧ b.1 ≤ 1000000) → 0 < wholeOf bs ∧ wholeOf bs ≤ 1000000 ^ n
  | 0, bs, h, _ => by
    have : bs = [] := List.length_eq_zero_iff.mp h
    subst this
    decide
  | n + 1, bs, h, hb => by
    have hne : bs ≠ [] := fun z => by subst z; cases h
    have e := (List.dropLast_concat_getLast hne).symm
    have hl : bs.dropLast.length = n := by rw [List.length_dropLast]; omega
    have ih := wholeOf_bd n bs.dropLast hl (fun b hm => hb b (List.dropLast_subset _ hm))
    have hx := hb (bs.getLast hne) (List.getLast_mem hne)
    rw [e, wholeOf_app]
    refine ⟨lcm_pos' ih.1 hx.1, Int.le_trans (lcm_le_mul ih.1 hx.1) ?_⟩
    rw [Int.pow_succ]
    exact Int.mul_le_mul ih.2 hx.2 (by omega) (by have := ih.1; omega)
theorem pow6_le {n : Nat} (h : n ≤ 6) : (1000000 : Int) ^ n ≤ 1000000 ^ 6 := by
  match n, h with
  | 0, _ => decide
  | 1, _ => decide
  | 2, _ => decide
  | 3, _ => decide
  | 4, _ => decide
  | 5, _ => decide
  | 6, _ => decide
  | n + 7, h => omega
theorem wholeOf_lt {bs : List Bar} (h : bs.length ≤ 6) (hb : ∀ b ∈ bs, 0 < b.1 ∧ b.1 ≤ 1000000) : 0 < wholeOf bs ∧ wholeOf bs < 2 ^ 200 := by
  have h1 := wholeOf_bd _ bs rfl hb
  have h2 := pow6_le h
  refine ⟨h1.1, Int.lt_of_le_of_lt (Int.le_trans h1.2 h2) (by decide)⟩
theorem mx1_bd {n : Nat} (h : n ≤ 60) : 1 ≤ mx1 n ∧ mx1 n ≤ 60 := by
  unfold mx1
  split <;> omega
def cwF (w m : Int) (lot : List Int) (c : Int) : List Int := (lot.filter (fun t => decide ((t - c) % ((Int.gcd w m : Nat) : Int) = 0))).map (fun t => jn c w t m)
theorem cwF_len (w m : Int) (lot : List Int) (c : Int) : (cwF w m lot c).length ≤ lot.length := by
  unfold cwF
  rw [List.length_map]
  exact List.length_filter_le ..
theorem flat_len (w m : Int) (lot : List Int) : ∀ l : List Int, (l.flatMap (cwF w m lot)).length ≤ l.length * lot.length
  | [] => by simp
  | c :: r => by
    rw [List.flatMap_cons, List.length_append, List.length_cons, Nat.succ_mul]
    have h1 := cwF_len w m lot c
    have h2 := flat_len w m lot r
    omega
def cw (cs : List Int) (w m : Int) (lot : List Int) : List Int := cs.flatMap (cwF w m lot)
end RL

namespace RL
open PySem PySem.Spec PyProof.Rows L2
/-! targets -/
def cutL {α : Type} (xs : List α) (lo hi : Option Int) : List α := (xs.drop (HT.sIx xs.length 0 lo)).take (HT.sIx xs.length xs.length hi - HT.sIx xs.length 0 lo)
theorem cutL_from {α : Type} (xs : List α) (k : Nat) : cutL xs (some (k : Int)) none = xs.drop k := by
  unfold cutL
  rw [HT.sIx_none, HT.sIx_nat]
  by_cases h : k ≤ xs.length
  · rw [Nat.min_eq_left h, List.take_of_length_le (by simp)]
  · rw [Nat.min_eq_right (by omega), Nat.sub_self, List.take_zero, List.drop_eq_nil_of_le (by omega)]
theorem cutL_to {α : Type} (xs : List α) (k : Nat) : cutL xs none (some (k : Int)) = xs.take k := by
  unfold cutL
  rw [HT.sIx_none, HT.sIx_nat, List.drop_zero, Nat.sub_zero]
  by_cases h : k ≤ xs.length
  · rw [Nat.min_eq_left h]
  · rw [Nat.min_eq_right (by omega), List.take_of_length_le (Nat.le_refl _), List.take_of_length_le (by omega)]
section
variable {K : PySem.W.Frag} {H : Hp}
def rLenQ (K : PySem.W.Frag) : List V → Hp → VK → Prop := fun xs H Q => ∃ p ys, xs = [.ref p] ∧ (SqL K H p ys ∨ SqT K H p ys) ∧ Q (.int ys.length) H
end
theorem all_mapId {α : Type} (l : List α) (f : α → Bool) : (l.map f).all id = l.all f := by
  rw [List.all_map]
  rfl
end RL

namespace RL
open PySem PySem.Spec PyProof.Rows L2
/-! the layer's rules with the written part told -/
section
variable {X : Cx}
theorem q_isi (K : PySem.W.Frag) (hK : X.K = K := by rfl) : CallR X (.builtin "isinstance") (rIsi K) := by subst hK; exact call_isi
theorem q_isiT (K : PySem.W.Frag) (hK : X.K = K := by rfl) : CallR X (.builtin "isinstance") (rIsiT K) := by subst hK; exact call_isiT
theorem q_len (K : PySem.W.Frag) (hK : X.K = K := by rfl) : CallR X (.builtin "len") (rLenQ K) := by subst hK; exact call_len_seq
theorem q_all (K : PySem.W.Frag) (hK : X.K = K := by rfl) (hc : X.calm = true := by rfl) : CallR X (.builtin "all") (rAll K) := by subst hK; exact cr_all hc
theorem q_any (K : PySem.W.Frag) (hK : X.K = K := by rfl) (hc : X.calm = true := by rfl) : CallR X (.builtin "any") (rAny K) := by subst hK; exact cr_any hc
theorem q_sum (K : PySem.W.Frag) (hK : X.K = K := by rfl) (hc : X.calm = true := by rfl) : CallR X (.builtin "sum") (rSum K) := by subst hK; exact cr_sum hc
theorem q_maxL (K : PySem.W.Frag) (hK : X.K = K := by rfl) (hc : X.calm = true := by rfl) : CallR X (.builtin "max") (rMax K) := by subst hK; exact cr_max hc
theorem q_minL (K : PySem.W.Frag) (hK : X.K = K := by rfl) (hc : X.calm = true := by rfl) : CallR X (.builtin "min") (rMin K) := by subst hK; exact cr_min hc
theorem q_sortedI (K : PySem.W.Frag) (hK : X.K = K := by rfl) : CallR X (.builtin "sorted") (rSortedI K) := by subst hK; exact cr_sortedI
def rTupQ (K : PySem.W.Frag) : List V → Hp → VK → Prop := fun xs H Q => ∃ p ys, xs = [.ref p] ∧ ((SqL K H p ys ∧ ∀ l, H l = none → Q (.ref l) (upd H l (.tup ys))) ∨ (SqT K H p ys ∧ Q (.ref p) H))
theorem q_tuple (K : PySem.W.Frag) (hK : X.K = K := by rfl) : CallR X (.type "tuple") (rTupQ K) := by subst hK; exact call_tuple_of
def rLstQ (K : PySem.W.Frag) : List V → Hp → VK → Prop := fun xs H Q => ∃ p ys, xs = [.ref p] ∧ (SqL K H p ys ∨ SqT K H p ys) ∧ ∀ l, H l = none → Q (.ref l) (upd H l (.lst ys))
theorem q_list (K : PySem.W.Frag) (hK : X.K = K := by rfl) : CallR X (.type "list") (rLstQ K) := by subst hK; exact call_list_of
theorem q_ixT (K : PySem.W.Frag) (hK : X.K = K := by rfl) : IxR X (rIxT K) := by subst hK; exact ix_tup
theorem q_ixL (K : PySem.W.Frag) (hK : X.K = K := by rfl) : IxR X (rIxL K) := by subst hK; exact ix_list
theorem q_slT (K : PySem.W.Frag) (hK : X.K = K := by rfl) : SlR X (rSlA K) := by subst hK; exact sl_tupA
theorem q_slL (K : PySem.W.Frag) (hK : X.K = K := by rfl) : SlR X (rSlL K) := by subst hK; exact sl_list
theorem q_in (K : PySem.W.Frag) (hK : X.K = K := by rfl) : OpR X (compareOp .In) (rIn K false) := by subst hK; exact op_in_seq
theorem q_notIn (K : PySem.W.Frag) (hK : X.K = K := by rfl) : OpR X (compareOp .NotIn) (rIn K true) := by subst hK; exact op_notIn_seq
theorem q_catT (K : PySem.W.Frag) (hK : X.K = K := by rfl) : OpR X (binaryOp .Add) (rCatA K) := by subst hK; exact op_catA
theorem q_eqD (K : PySem.W.Frag) {k : Nat} (hr : Room k X.A) (hK : X.K = K := by rfl) : OpR X (compareOp .Eq) (rEqD K) := by subst hK; exact op_eqD hr.units
theorem q_neD (K : PySem.W.Frag) {k : Nat} (hr : Room k X.A) (hK : X.K = K := by rfl) : OpR X (compareOp .NotEq) (rNeD K) := by subst hK; exact op_neD hr.units
theorem pi_T (K : PySem.W.Frag) {tg l : Expr} {tl : TE} (hl : PE X l tl) (hK : X.K = K := by rfl) : PI X tg l (iTup K tl) := by subst hK; exact pi_tup hl
theorem pi_L (K : PySem.W.Frag) {tg l : Expr} {tl : TE} (hl : PE X l tl) (hK : X.K = K := by rfl) : PI X tg l (iList K tl) := by subst hK; exact pi_list hl
theorem pi_E (K : PySem.W.Frag) {e : Expr} {ta : TA} {p pos tpos : Pos} {elts : List Expr} {kk : Nat} (hg : Gl X "enumerate") (hm : X.mg "enumerate" = none) (ha : PA X [e] ta) (hs : starEach [e] X.env = [(false, eval e X.env)] := by rfl) (hK : X.K = K := by rfl) :
    PI X (.Tuple elts kk tpos) (.Call (.Name "enumerate" p) [e] [] pos) (iEnum2 K ta) := by subst hK; exact pi_enum2 hg hm ha hs
theorem pi_Z (K : PySem.W.Frag) {e e2 : Expr} {ta : TA} {p pos tpos : Pos} {elts : List Expr} {kk : Nat} (hg : Gl X "zip") (hm : X.mg "zip" = none) (ha : PA X [e, e2] ta)
    (hs : starEach [e, e2] X.env = (false, eval e X.env) :: starEach [e2] X.env := by rfl) (hpl : (backTo pos (starEach [e2] X.env)).any (·.1) = false := by rfl) (hK : X.K = K := by rfl) :
    PI X (.Tuple elts kk tpos) (.Call (.Name "zip" p) [e, e2] [] pos) (iZip2 K ta) := by subst hK; exact pi_zip2 hg hm ha hs hpl
theorem pg_T (K : PySem.W.Frag) {es : List Expr} {k : Nat} {t : TGs} {n : Nat} {pos : Pos} (h : PGs X es t) (hc : X.calm = true := by rfl)
    (hn : (assignEach es X.env).length = n := by rfl) (hst : (assignEach es X.env).findIdx? (·.1) = none := by rfl) (hK : X.K = K := by rfl) : PG X (.Tuple es k pos) (gTup K n t) := by subst hK; exact pg_tup hc h hn hst
theorem pe_F (K : PySem.W.Frag) {e : Expr} {ta : TE} {f : Str} {pos : Pos} (he : PE X e ta) (hb : attributeBase e f X.env (eval e X.env) = eval e X.env := by rfl) (hK : X.K = K := by rfl) : PE X (.Attribute e f pos) (tFld K ta f) := by subst hK; exact pe_fld he hb
theorem ps_F (K : PySem.W.Frag) {o value : Expr} {ta tv : TE} {f : Str} {pos pos' : Pos} (ha : PE X o ta) (hv : PE X value tv) (hs : swapsWith value (some (.Attribute o f pos')) pos.line X.env = pure false := by rfl) (hK : X.K = K := by rfl) :
    PS X (.Assign [.Attribute o f pos'] value pos) (sFld K ta tv f) := by subst hK; exact ps_fld ha hv hs
theorem pa_S (K : PySem.W.Frag) {e : Expr} {p : Pos} {es : List Expr} {te : TE} {t : TA} (he : PE X e te) (hr : PA X es t) (hs : starEach (.Starred e p :: es) X.env = (true, eval e X.env) :: starEach es X.env := by rfl) (hK : X.K = K := by rfl) :
    PA X (.Starred e p :: es) (StX.tStar K te t) := by subst hK; exact StX.pa_star he hr hs
theorem pe_G {x : Str} {v : V} {pos : Pos} (h : ∃ u, X.mg x = some u ∧ RelV v u) (hg : Gl X x := by rfl) (hd : (x == ("__debug__" : Str)) = false := by decide) : PE X (.Name x pos) (tC v) := by
  obtain ⟨u, hm, r⟩ := h
  first
    | exact pe_glob hg hm r
    | exact pe_glob hg hm r hd
theorem pe_M (K : PySem.W.Frag) {T : String} {name : Str} {id : String} {r : V → List V → Hp → VK → Prop} {o e : Expr} {es : List Expr} {to : TE} {t : TA} {apos cpos : Pos} (pa : PlainAttrs T) (slot : Slot T name id) (hty : typeOf (.builtin id) = pure (.type "method_descriptor")) (hm : MtR X id r) (ho : PE X o to) (ha : PA X (e :: es) t)
    (hbase : attributeBase o name X.env (eval o X.env) = eval o X.env := by rfl)
    (hfew : ((backTo cpos (starEach (e :: es) X.env)).all (fun x => !x.1) && (backToKw cpos (keywordEach [] X.env)).all (fun x => x.1.isSome)
      && decide ((e :: es).length + ([] : List Keyword).length + (if ([] : List Keyword).isEmpty then 0 else 1) < 30)) = true := by rfl)
    (hl : (apos.endLine == cpos.line) = true := by rfl) (hs : starEach (e :: es) X.env = (false, eval e X.env) :: starEach es X.env := by rfl) (hp : (backTo cpos (starEach es X.env)).any (·.1) = false := by rfl) (hK : X.K = K := by rfl) :
    PE X (.Call (.Attribute o name apos) (e :: es) [] cpos) (tBM K T r to t) := by
  subst hK
  exact pe_bm pa slot hty hm ho ha hbase hfew hl hs hp
end
end RL

namespace RL
open PySem PySem.Spec PyProof.Rows L2
/-! own errors -/
/-- an own error class without its own making -/
structure XC (K : PySem.W.Frag) (mg : Str → Option Value) (x : Str) : Prop where
  g : mg x = some (.ref (He.ga K x))
  q : PySem.W.excIn K (He.ga K x) He.veBase "ValueError.__new__" = true
  k : PySem.W.keepIn K (.ref (He.ga K x)) = true
  b : PySem.W.subIn K (.ref (He.ga K x)) (.type "BaseException") = some true
  t : PySem.W.typeIn K (.ref (He.ga K x)) = some (.type "type")
theorem xc_of {K : PySem.W.Frag} {h : Heap} {mg : Str → Option Value} (X : K.In h) (G : h.Ns mainGlobals mg) {x : Str} (c1 : (He.Fa.glo x).ok K = true) (c2 : (He.Fa.exc x).ok K = true) : XC K mg x := by
  obtain ⟨a, b, c, d⟩ := He.exc_ok c2
  exact ⟨He.glo_ok X G c1, a, b, c, d⟩
section
variable {X : Cx} {C : Addr} {bmB : List Value} {B newId initId : String}
/-- x() -/
theorem pmk0 {x : Str} {p pos : Pos} (F : ExcBaseFacts B newId initId bmB) (q : PySem.W.excIn X.K C bmB newId = true) (gC : X.mg x = some (.ref C)) (kC : PySem.W.keepIn X.K (.ref C) = true) (r : Raises X (.ref C)) (hg : Gl X x)
    (hdb : (x == ("__debug__" : Str)) = false := by decide) : PMk X (.Call (.Name x p) [] [] pos) (fun _ H Q => Q (.ref C) none H) := by
  intro pins s σ H Q I h
  refine wpAny_Call_Name_kw (ld_glob I hg gC ?_ hdb)
  obtain ⟨bm, N, nm, qn, bs, hdct, sn, sub, ab, col, dd, k0, k1, k2, k3, k5, mN, hC, hN, hni, T⟩ := exc_obj I.kIn q
  obtain ⟨hp1, g1, d1, tk1, os1⟩ := s
  exact PySem.W.callWith_K0 I.kIn kC (wpAny_call_exc_subT F T hC hN hni (fun h' e hm => mk_of I hm r h (I.hok.gone hm.new)) (Nat.zero_le _))
/-- raise x() -/
theorem ps_rz {mg : Str → Option Value} {K : PySem.W.Frag} {x : Str} {W : WX} {p pos pos' : Pos} (c : XC K mg x) (tk : Takes X W) (hK : X.K = K := by rfl) (hm : X.mg = mg := by rfl) (hc : X.calm = true := by rfl) (hg : Gl X x := by rfl)
    (hdb : (x == ("__debug__" : Str)) = false := by decide) : PS X (.Raise (some (.Call (.Name x p) [] [] pos)) none pos') (fun _ σ H => W (.ref (He.ga K x)) none σ H) := by
  subst hK hm
  exact ps_raise hc tk (pmk0 PySem.F.excBase_ValueError c.q c.g c.k (raises_own c.b c.t) hg hdb)
end
section
variable {X : Cx} {k j : Nat} {x : Str} {sp : Sp} {p pos : Pos} {e : Expr} {es : List Expr} {t : TA} {E : XK}
/-- a call that may let something out of the def -/
theorem pe_kx (c : Kal X.prog X.w X.K X.mg X.base k x sp) (hr : Room j X.A) (xp : Passes (L2.CX X.prog X.w) X E) (ha : PA X (e :: es) t) (hk : k ≤ j := by decide) (hg : Gl X x := by rfl)
    (hdb : (x == ("__debug__" : Str)) = false := by decide) (he : starEach (e :: es) X.env = (false, eval e X.env) :: starEach es X.env := by rfl) (hpl : (backTo pos (starEach es X.env)).any (·.1) = false := by rfl) :
    PE X (.Call (.Name x p) (e :: es) [] pos) (tCall sp [] E t) := by
  obtain ⟨f, fd, ps, F, hm, kp, b⟩ := c.ex
  exact pe_call F (hr.mono hk) hg hm kp b .nil xp ha hdb he hpl
/-- within a try -/
theorem pe_ks {W : WX} (c : Kal X.prog X.w X.K X.mg X.base k x sp) (hr : Room j X.A) (tk : Takes X W) (ha : PA X (e :: es) t) (hk : k ≤ j := by decide) (hg : Gl X x := by rfl)
    (hdb : (x == ("__debug__" : Str)) = false := by decide) (he : starEach (e :: es) X.env = (false, eval e X.env) :: starEach es X.env := by rfl) (hpl : (backTo pos (starEach es X.env)).any (·.1) = false := by rfl) :
    PE X (.Call (.Name x p) (e :: es) [] pos) (tCallS sp (WE W) t) := by
  obtain ⟨f, fd, ps, F, hm, kp, b⟩ := c.ex
  exact pe_callS F (hr.mono hk) hg hm kp b (fun σ => passAt tk σ) ha hdb he hpl
end
/-! an own error class with its own making -/
def oexB (x : Str) : Fct := fun K => (match K.lookup (He.ga K x) with
  | some ⟨.type c, _, .cls cd, sl⟩ => (match cd.mro, sl.toList with
    | .ref C' :: bm, [_, _, _, _, some (.builtin n), _] => decide (c = "type") && (decide (C' = He.ga K x) && (decide (n = "ValueError.__new__") && (!cd.hasDel && (cd.hasDict && PySem.HandSPX.refsVE bm))))
    | _, _ => false)
  | _ => false) && (He.eqO (PySem.W.findIn K (.ref (He.ga K x)) "__setattr__") (some (some (.builtin "object.__setattr__"))) && (decide (PySem.W.subIn K (.ref (He.ga K x)) (.type "BaseException") = some true) &&
    (decide (PySem.W.typeIn K (.ref (He.ga K x)) = some (.type "type")) && (PySem.W.keepIn K (.ref (He.ga K x)) && (He.eqO (PySem.W.findIn K (.ref (He.ga K x)) "__init__") (some (some (.ref (He.ma K (He.ga K x) "__init__")))) &&
      decide (PySem.W.typeIn K (.ref (He.ma K (He.ga K x) "__init__")) = some (.type "function")))))))
structure XI (K : PySem.W.Frag) (mg : Str → Option Value) (x : Str) : Prop where
  g : mg x = some (.ref (He.ga K x))
  c : OexC K (He.ga K x)
  i : PySem.W.findIn K (.ref (He.ga K x)) "__init__" = some (some (.ref (He.ma K (He.ga K x) "__init__")))
  t : PySem.W.typeIn K (.ref (He.ma K (He.ga K x) "__init__")) = some (.type "function")
theorem xi_of {K : PySem.W.Frag} {h : Heap} {mg : Str → Option Value} (X : K.In h) (G : h.Ns mainGlobals mg) {x : Str} (c1 : (He.Fa.glo x).ok K = true) (c2 : oexB x K = true) : XI K mg x := by
  obtain ⟨a, b⟩ := He.ba c2
  obtain ⟨b1, b⟩ := He.ba b
  obtain ⟨b2, b⟩ := He.ba b
  obtain ⟨b3, b⟩ := He.ba b
  obtain ⟨b4, b⟩ := He.ba b
  obtain ⟨b5, b6⟩ := He.ba b
  refine ⟨He.glo_ok X G c1, ⟨?_, He.eqO_ok b1, of_decide_eq_true b2, of_decide_eq_true b3, b4⟩, He.eqO_ok b5, of_decide_eq_true b6⟩
  split at a
  · rename_i c dd cd sl ho
    split at a
    · rename_i C' bm k0 k1 k2 k3 n k5 hm hs
      simp only [Bool.and_eq_true, decide_eq_true_eq, Bool.not_eq_true'] at a
      obtain ⟨rfl, rfl, rfl, hdel, hdict, hr⟩ := a
      obtain ⟨nm, bs, mro, ns, qn, hd, sn, sub, ab, col, del⟩ := cd
      dsimp only at hm hdel hdict
      subst hm hdel hdict
      have hsl : sl = #[k0, k1, k2, k3, some (.builtin "ValueError.__new__"), k5] := by
        obtain ⟨l⟩ := sl
        simp only at hs
        rw [hs]
      subst hsl
      exact ⟨_, _, _, _, _, _, _, _, _, _, _, _, _, _, _, ho, hr⟩
    · cases a
  · cases a
/-! one field, two fields -/
theorem heap_let {H1 : Hp} {a d : Addr} {o1 o2 o3 o4 : HO} (h : H1 a = none) : upd (L2.del (upd (upd (upd H1 a o1) d o2) a o3) a) d o4 = upd H1 d o4 := by
  funext b
  by_cases h1 : b = d
  · subst h1
    rw [upd_same, upd_same]
  · rw [upd_ne h1, upd_ne h1]
    by_cases h2 : b = a
    · subst h2
      rw [L2.del_same, h]
    · rw [L2.del_ne h2, upd_ne h2, upd_ne h1, upd_ne h2]
def sp_init1 (C : Addr) (f : Str) : Sp := fun vs H Q _ => ∃ (a : Addr) (v : V), vs = [.ref a, v] ∧ H a = some (L2.exo a C none) ∧ ∀ d, H d = none → d ≠ a → Q .non (upd (upd H d (L2.exd d [(f, v)])) a (L2.exo a C (some d)))
def sp_init2 (C : Addr) (f g : Str) : Sp := fun vs H Q _ => ∃ (a : Addr) (u v : V), vs = [.ref a, u, v] ∧ H a = some (L2.exo a C none) ∧ ∀ d, H d = none → d ≠ a → Q .non (upd (upd (upd H d (L2.exd d [(f, u)])) a (L2.exo a C (some d))) d (L2.exd d [(g, v), (f, u)]))
structure XM (P : Program) (w : World) (K : PySem.W.Frag) (mg : Str → Option Value) (base : Heap) (k : Nat) (x : Str) (sp : Sp) : Prop where
  c : XI K mg x
  ex : ∃ (fd : FuncData) (ps : List Str), FnOk P w K mg base (L2.CX P w) k (He.ma K (He.ga K x) "__init__") fd ps sp ∧ Binds K fd ps []
/-- what raise x(v) asks -/
def mkW (C : Addr) (sp : Sp) (vs : List V) (H : Hp) (Q : XK) : Prop := vs.length ≤ 1000 ∧ ∀ a, H a = none → sp (.ref a :: (vs ++ [])) (upd H a (L2.exo a C none))
  (fun v H2 => v = .non ∧ ∃ (d : Addr) (fs : List (Str × V)), H2 a = some (L2.exo a C (some d)) ∧ H2 d = some (L2.exd d fs) ∧ H d = none ∧ Q (.ref C) (some d) (upd (L2.del H2 a) d (.xd fs))) (fun _ _ _ => False)
theorem mkW1 {C : Addr} {f : Str} {v : V} {H : Hp} {Q : XK} (q : ∀ d, H d = none → Q (.ref C) (some d) (upd H d (.xd [(f, v)]))) : mkW C (sp_init1 C f) [v] H Q := by
  refine ⟨by simp, fun a ha => ⟨a, v, rfl, upd_same, fun d hd hda => ⟨rfl, d, [(f, v)], upd_same, ?_, ?_, ?_⟩⟩⟩
  · rw [upd_ne hda, upd_same]
  · rw [upd_ne hda] at hd
    exact hd
  · rw [heap_let ha]
    rw [upd_ne hda] at hd
    exact q d hd
theorem mkW2 {C : Addr} {f g : Str} {u v : V} {H : Hp} {Q : XK} (q : ∀ d, H d = none → Q (.ref C) (some d) (upd H d (.xd [(g, v), (f, u)]))) : mkW C (sp_init2 C f g) [u, v] H Q := by
  refine ⟨by simp, fun a ha => ⟨a, u, v, rfl, upd_same, fun d hd hda => ⟨rfl, d, [(g, v), (f, u)], ?_, upd_same, ?_, ?_⟩⟩⟩
  · rw [upd_ne (Ne.symm hda), upd_same]
  · rw [upd_ne hda] at hd
    exact hd
  · rw [upd_ne hda] at hd
    have e : upd (L2.del (upd (upd (upd (upd H a (L2.exo a C none)) d (L2.exd d [(f, u)])) a (L2.exo a C (some d))) d (L2.exd d [(g, v), (f, u)])) a) d (.xd [(g, v), (f, u)]) = upd H d (.xd [(g, v), (f, u)]) := by
      funext b
      by_cases h1 : b = d
      · subst h1
        rw [upd_same, upd_same]
      · rw [upd_ne h1, upd_ne h1]
        by_cases h2 : b = a
        · subst h2
          rw [L2.del_same, ha]
        · rw [L2.del_ne h2, upd_ne h1, upd_ne h2, upd_ne h1, upd_ne h2]
    rw [e]
    exact q d hd
section
variable {X : Cx} {W : WX} {k j : Nat} {x : Str} {sp : Sp} {p pos pos' : Pos} {e : Expr} {es : List Expr} {t : TA}
/-- raise x(e, ..) -/
theorem ps_rm (K : PySem.W.Frag) (c : XM X.prog X.w X.K X.mg X.base k x sp) (tk : Takes X W) (hr : Room j X.A) (ha : PA X (e :: es) t) (hk : k + 1 ≤ j := by decide) (hK : X.K = K := by rfl) (hc : X.calm = true := by rfl) (hg : Gl X x := by rfl)
    (hdb : (x == ("__debug__" : Str)) = false := by decide) (hs : starEach (e :: es) X.env = (false, eval e X.env) :: starEach es X.env := by rfl) (hpl : (backTo pos (starEach es X.env)).any (·.1) = false := by rfl) :
    PS X (.Raise (some (.Call (.Name x p) (e :: es) [] pos)) none pos') (fun _ σ H => t σ H fun vs H1 => mkW (He.ga K x) sp vs H1 fun cls d H' => W cls d σ H') := by
  subst hK
  obtain ⟨fd, ps, F, b⟩ := c.ex
  exact ps_raise hc tk (pmk_oex c.c.c c.c.i c.c.t F (hr.mono hk) b .nil passL hg c.c.g ha hdb hs hpl)
end
end RL

namespace RL
open PySem PySem.Spec PyProof.Rows L2
/-! the mathematics of sieves -/
theorem ex_inv {a m : Int} (hm : 0 < m) : ∀ (n : Nat) (f s o t : Int), s.toNat ≤ n → InvI a m f s o t → ∃ r, (r * a) % m = 1 % m
  | 0, f, s, o, t, h, I => by
    have : s = 0 := by have := I.s0; omega
    subst this
    exact ⟨_, I.done hm⟩
  | n + 1, f, s, o, t, h, I => by
    by_cases hs : 0 < s
    · have I2 := I.step hs
      have h5 : f - f / s * s < s := by
        have := Int.emod_lt_of_pos f hs
        have e := Int.emod_add_mul_ediv f s
        rw [Int.mul_comm] at e
        omega
      exact ex_inv hm n _ _ _ _ (by have := I2.s0; omega) I2
    · have : s = 0 := by have := I.s0; omega
      subst this
      exact ⟨_, I.done hm⟩
theorem crt {c w t m : Int} (h0 : 0 ≤ c) (h1 : c < w) (h2 : 0 < m) (h3 : m < 2 ^ 60) (hd : ((Int.gcd w m : Nat) : Int) ∣ t - c) : 0 ≤ jn c w t m ∧ jn c w t m < ((Int.lcm w m : Nat) : Int) ∧ w ∣ jn c w t m - c ∧ m ∣ jn c w t m - t := by
  have hw : 0 < w := by omega
  have hp0 := part_pos hw h2
  have hp1 := part_le (a := w) h2
  obtain ⟨r, hr⟩ := ex_inv hp0 _ _ _ _ _ (Nat.le_refl _) (InvI.start hp0 (by omega) (gcd_parts hw h2))
  obtain ⟨a1, a2, a3, a4⟩ := joined_ok rfl h0 h1 h2 hd hr
  rw [jn_eq a1 a2 a3 a4]
  exact ⟨a1, a2, a3, a4⟩
theorem mem_cwF {w m : Int} {lot : List Int} {c r : Int} : r ∈ cwF w m lot c ↔ ∃ t ∈ lot, (t - c) % ((Int.gcd w m : Nat) : Int) = 0 ∧ jn c w t m = r := by
  unfold cwF
  simp only [List.mem_map, List.mem_filter, decide_eq_true_eq, and_assoc]
theorem mem_cw {cs lot : List Int} {w m r : Int} (hw : 0 < w) (hm : 0 < m) (hm2 : m < 2 ^ 60) (hc : ∀ c ∈ cs, 0 ≤ c ∧ c < w) :
    r ∈ cw cs w m lot ↔ 0 ≤ r ∧ r < ((Int.lcm w m : Nat) : Int) ∧ (∃ c ∈ cs, w ∣ r - c) ∧ ∃ t ∈ lot, m ∣ r - t := by
  unfold cw
  rw [List.mem_flatMap]
  constructor
  · rintro ⟨c, hcm, hr⟩
    obtain ⟨t, ht, h1, rfl⟩ := mem_cwF.mp hr
    obtain ⟨a1, a2, a3, a4⟩ := crt (hc c hcm).1 (hc c hcm).2 hm hm2 (Int.dvd_of_emod_eq_zero h1)
    exact ⟨a1, a2, ⟨c, hcm, a3⟩, t, ht, a4⟩
  · rintro ⟨a1, a2, ⟨c, hcm, a3⟩, t, ht, a4⟩
    refine ⟨c, hcm, mem_cwF.mpr ⟨t, ht, Int.emod_eq_zero_of_dvd ?_, jn_eq a1 a2 a3 a4⟩⟩
    have h1 := Int.dvd_trans (Int.gcd_dvd_left w m) a3
    have h2 := Int.dvd_trans (Int.gcd_dvd_right w m) a4
    have h3 := Int.dvd_sub h1 h2
    have e : r - c - (r - t) = t - c := by omega
    rw [e] at h3
    exact h3
theorem eq_of_cong {m a b : Int} (ha : 0 ≤ a) (ha2 : a < m) (hb : 0 ≤ b) (hb2 : b < m) (h : m ∣ a - b) : a = b := by
  obtain ⟨k, hk⟩ := h
  have hk0 : k = 0 := by
    rcases Int.lt_trichotomy k 0 with h | h | h
    · have : m * k ≤ m * (-1) := Int.mul_le_mul_of_nonneg_left (by omega) (by omega)
      omega
    · exact h
    · have : m * 1 ≤ m * k := Int.mul_le_mul_of_nonneg_left (by omega) (by omega)
      omega
  subst hk0
  rw [Int.mul_zero] at hk
  omega
theorem nodup_cw {cs lot : List Int} {w m : Int} (hw : 0 < w) (hm : 0 < m) (hm2 : m < 2 ^ 60) (hc : ∀ c ∈ cs, 0 ≤ c ∧ c < w) (hl : ∀ t ∈ lot, 0 ≤ t ∧ t < m) (nc : cs.Pairwise (· < ·)) (nl : lot.Pairwise (· < ·)) : (cw cs w m lot).Nodup := by
  unfold cw
  show List.Pairwise (· ≠ ·) _
  rw [List.pairwise_flatMap]
  constructor
  · intro c hcm
    unfold cwF
    rw [List.pairwise_map]
    refine List.Pairwise.imp_of_mem ?_ (nl.filter _)
    intro a b ha hb hab e
    have ha' := List.mem_filter.mp ha
    have hb' := List.mem_filter.mp hb
    obtain ⟨_, _, _, a4⟩ := crt (hc c hcm).1 (hc c hcm).2 hm hm2 (Int.dvd_of_emod_eq_zero (by simpa using ha'.2))
    obtain ⟨_, _, _, b4⟩ := crt (hc c hcm).1 (hc c hcm).2 hm hm2 (Int.dvd_of_emod_eq_zero (by simpa using hb'.2))
    rw [e] at a4
    have h3 := Int.dvd_sub b4 a4
    have e2 : jn c w b m - b - (jn c w b m - a) = a - b := by omega
    rw [e2] at h3
    have := eq_of_cong (hl a ha'.1).1 (hl a ha'.1).2 (hl b hb'.1).1 (hl b hb'.1).2 h3
    omega
  · refine List.Pairwise.imp_of_mem ?_ nc
    intro c c' hcm hcm' hcc x hx y hy e
    obtain ⟨t, ht, h1, rfl⟩ := mem_cwF.mp hx
    obtain ⟨t', ht', h1', rfl⟩ := mem_cwF.mp hy
    obtain ⟨_, _, a3, _⟩ := crt (hc c hcm).1 (hc c hcm).2 hm hm2 (Int.dvd_of_emod_eq_zero h1)
    obtain ⟨_, _, b3, _⟩ := crt (hc c' hcm').1 (hc c' hcm').2 hm hm2 (Int.dvd_of_emod_eq_zero h1')
    rw [e] at a3
    have h3 := Int.dvd_sub b3 a3
    have e2 : jn c' w t' m - c' - (jn c' w t' m - c) = c - c' := by omega
    rw [e2] at h3
    have := eq_of_cong (hc c hcm).1 (hc c hcm).2 (hc c' hcm').1 (hc c' hcm').2 h3
    omega
theorem fits_iff {bs : List Bar} {n : Int} : fitsB bs n = true ↔ ∀ b ∈ bs, n % b.1 ∈ b.2 := by
  unfold fitsB
  rw [List.all_eq_true]
  simp only [decide_eq_true_eq]
theorem mem_own {bs : List Bar} {r : Int} : r ∈ ownOf bs ↔ 0 ≤ r ∧ r < wholeOf bs ∧ fitsB bs r = true := by
  unfold ownOf
  rw [List.mem_filter, List.mem_map]
  constructor
  · rintro ⟨⟨n, hn, rfl⟩, hf⟩
    have := List.mem_range.mp hn
    have e : Int.ofNat n = ((n : Nat) : Int) := rfl
    exact ⟨by omega, by omega, hf⟩
  · rintro ⟨h0, h1, hf⟩
    exact ⟨⟨r.toNat, List.mem_range.mpr (by omega), by simp; omega⟩, hf⟩
theorem own_asc (bs : List Bar) : (ownOf bs).Pairwise (· < ·) := by
  unfold ownOf
  refine List.Pairwise.filter _ ?_
  rw [List.pairwise_map]
  refine List.Pairwise.imp ?_ List.pairwise_lt_range
  intro a b h
  have e1 : Int.ofNat a = ((a : Nat) : Int) := rfl
  have e2 : Int.ofNat b = ((b : Nat) : Int) := rfl
  omega
theorem asc_nodup {l : List Int} (h : l.Pairwise (· < ·)) : l.Nodup := h.imp fun h => by omega
theorem dvd_whole {b : Bar} : ∀ {bs : List Bar}, b ∈ bs → b.1 ∣ wholeOf bs := by
  have key : ∀ (bs : List Bar) (w : Int), (∀ b ∈ bs, b.1 ∣ bs.foldl (fun w b => ((Int.lcm w b.1 : Nat) : Int)) w) ∧ w ∣ bs.foldl (fun w b => ((Int.lcm w b.1 : Nat) : Int)) w := by
    intro bs
    induction bs with
    | nil => intro w; exact ⟨fun b h => (nomatch h), Int.dvd_refl w⟩
    | cons c r ih =>
      intro w
      have h1 := ih ((Int.lcm w c.1 : Nat) : Int)
      refine ⟨fun b hb => ?_, Int.dvd_trans (Int.dvd_lcm_left w c.1) h1.2⟩
      rcases List.mem_cons.mp hb with rfl | hb
      · exact Int.dvd_trans (Int.dvd_lcm_right w b.1) h1.2
      · exact h1.1 b hb
  exact fun {bs} h => (key bs 1).1 b h
theorem whole_dvd {n : Nat} : ∀ {bs : List Bar}, (∀ b ∈ bs, b.1 ∣ (n : Int)) → wholeOf bs ∣ (n : Int) := by
  have key : ∀ (bs : List Bar) (w : Int), (∀ b ∈ bs, b.1 ∣ (n : Int)) → w ∣ (n : Int) → bs.foldl (fun w b => ((Int.lcm w b.1 : Nat) : Int)) w ∣ (n : Int) := by
    intro bs
    induction bs with
    | nil => intro w _ h; exact h
    | cons c r ih =>
      intro w h1 h2
      exact ih _ (fun b hb => h1 b (List.mem_cons_of_mem _ hb)) (Int.coe_lcm_dvd h2 (h1 c List.mem_cons_self))
  exact fun {bs} h => key bs 1 h (Int.one_dvd _)
theorem emod_of_dvd_sub {n k m : Int} (h : m ∣ n - k) : n % m = k % m := Int.emod_eq_emod_iff_emod_sub_eq_zero.mpr (Int.emod_eq_zero_of_dvd h)
theorem dvd_sub_emod (n m : Int) : m ∣ n - n % m := ⟨n / m, by have := Int.emod_add_mul_ediv n m; omega⟩
theorem fits_mod {bs : List Bar} {n k : Int} (h : wholeOf bs ∣ n - k) : fitsB bs n = fitsB bs k := by
  have e : ∀ b ∈ bs, n % b.1 = k % b.1 := fun b hb => emod_of_dvd_sub (Int.dvd_trans (dvd_whole hb) h)
  rw [Bool.eq_iff_iff, fits_iff, fits_iff]
  constructor
  · intro q b hb
    rw [← e b hb]
    exact q b hb
  · intro q b hb
    rw [e b hb]
    exact q b hb
theorem fits_app {bs : List Bar} {b : Bar} {n : Int} : fitsB (bs ++ [b]) n = (fitsB bs n && decide (n % b.1 ∈ b.2)) := by
  unfold fitsB
  rw [List.all_append]
  simp
theorem lot_iff {b : Bar} (hb : BarOk b) {r : Int} : (∃ t ∈ b.2, b.1 ∣ r - t) ↔ r % b.1 ∈ b.2 := by
  have h0 := Int.emod_nonneg r (Int.ne_of_gt hb.m0)
  have h1 := Int.emod_lt_of_pos r hb.m0
  constructor
  · rintro ⟨t, ht, hd⟩
    have e : r % b.1 = t := by
      have h2 := dvd_sub_emod r b.1
      have h3 := Int.dvd_sub hd h2
      have e2 : r - t - (r - r % b.1) = r % b.1 - t := by omega
      rw [e2] at h3
      exact eq_of_cong h0 h1 (hb.rng t ht).1 (hb.rng t ht).2 h3
    rw [e]
    exact ht
  · intro h
    exact ⟨_, h, dvd_sub_emod r b.1⟩
theorem own_iff {bs : List Bar} (hw : 0 < wholeOf bs) {r : Int} : (∃ c ∈ ownOf bs, wholeOf bs ∣ r - c) ↔ fitsB bs r = true := by
  constructor
  · rintro ⟨c, hc, hd⟩
    rw [fits_mod hd]
    exact (mem_own.mp hc).2.2
  · intro h
    refine ⟨r % wholeOf bs, mem_own.mpr ⟨Int.emod_nonneg r (Int.ne_of_gt hw), Int.emod_lt_of_pos r hw, ?_⟩, dvd_sub_emod r _⟩
    rw [← fits_mod (dvd_sub_emod r _)]
    exact h
theorem own_perm {bs : List Bar} {b : Bar} (hw : 0 < wholeOf bs) (hb : BarOk b) : (cw (ownOf bs) (wholeOf bs) b.1 b.2).Perm (ownOf (bs ++ [b])) := by
  have hm2 : b.1 < 2 ^ 60 := by have := hb.m1; omega
  have hc : ∀ c ∈ ownOf bs, 0 ≤ c ∧ c < wholeOf bs := fun c h => ⟨(mem_own.mp h).1, (mem_own.mp h).2.1⟩
  rw [List.perm_ext_iff_of_nodup (nodup_cw hw hb.m0 hm2 hc hb.rng (own_asc bs) hb.asc) (asc_nodup (own_asc _))]
  intro r
  rw [mem_cw hw hb.m0 hm2 hc, mem_own, wholeOf_app, own_iff hw, lot_iff hb, fits_app, Bool.and_eq_true, decide_eq_true_eq]
theorem own_step {bs : List Bar} {b : Bar} {ns : List Int} (hw : 0 < wholeOf bs) (hb : BarOk b) (h1 : ns.Perm (cw (ownOf bs) (wholeOf bs) b.1 b.2)) (h2 : ns.Pairwise (· ≤ ·)) : ns = ownOf (bs ++ [b]) :=
  List.Perm.eq_of_pairwise (le := (· ≤ ·)) (fun a b _ _ h h' => by omega) h2 ((own_asc _).imp fun h => by omega) (h1.trans (own_perm hw hb))
theorem own_len : ∀ (n : Nat) (bs : List Bar), bs.length = n → (∀ b ∈ bs, BarOk b) → ((ownOf bs).length : Int) ≤ manyOf bs ∧ 1 ≤ manyOf bs
  | 0, bs, h, _ => by
    have : bs = [] := List.length_eq_zero_iff.mp h
    subst this
    decide
  | n + 1, bs, h, hb => by
    have hne : bs ≠ [] := fun z => by subst z; cases h
    have e := (List.dropLast_concat_getLast hne).symm
    have hl : bs.dropLast.length = n := by rw [List.length_dropLast]; omega
    have hb' : ∀ b ∈ bs.dropLast, BarOk b := fun b hm => hb b (List.dropLast_subset _ hm)
    have ih := own_len n bs.dropLast hl hb'
    have hx := hb (bs.getLast hne) (List.getLast_mem hne)
    have hw := (wholeOf_bd _ bs.dropLast rfl (fun b hm => ⟨(hb' b hm).m0, (hb' b hm).m1⟩)).1
    have h1 := (own_perm hw hx).length_eq
    have h2 := flat_len (wholeOf bs.dropLast) (bs.getLast hne).1 (bs.getLast hne).2 (ownOf bs.dropLast)
    have h3 := mx1_bd hx.len
    rw [e, manyOf_app, ← h1]
    have h4 : ((bs.getLast hne).2.length : Int) ≤ mx1 (bs.getLast hne).2.length := by
      unfold mx1
      split <;> omega
    refine ⟨?_, ?_⟩
    · have h5 : ((cw (ownOf bs.dropLast) (wholeOf bs.dropLast) (bs.getLast hne).1 (bs.getLast hne).2).length : Int) ≤ ((ownOf bs.dropLast).length : Int) * ((bs.getLast hne).2.length : Int) := by
        have : (cw (ownOf bs.dropLast) (wholeOf bs.dropLast) (bs.getLast hne).1 (bs.getLast hne).2).length ≤ (ownOf bs.dropLast).length * (bs.getLast hne).2.length := h2
        exact_mod_cast this
      exact Int.le_trans h5 (Int.mul_le_mul ih.1 h4 (by omega) (by omega))
    · have := Int.mul_le_mul ih.2 h3.1 (by omega) (by omega)
      omega
theorem many_take {bs : List Bar} (hb : ∀ b ∈ bs, BarOk b) : ∀ i : Nat, manyOf (bs.take i) ≤ manyOf bs := by
  have key : ∀ (r : List Bar) (k : Int), (∀ b ∈ r, BarOk b) → 1 ≤ k → k ≤ r.foldl (fun k b => k * mx1 b.2.length) k := by
    intro r
    induction r with
    | nil => intro k _ _; exact Int.le_refl k
    | cons c r ih =>
      intro k h hk
      have h3 := mx1_bd (h c List.mem_cons_self).len
      have h4 : k * 1 ≤ k * mx1 c.2.length := Int.mul_le_mul_of_nonneg_left h3.1 (by omega)
      exact Int.le_trans (by omega) (ih (k * mx1 c.2.length) (fun b hm => h b (List.mem_cons_of_mem _ hm)) (by omega))
  intro i
  have h1 := (own_len _ (bs.take i) rfl (fun b hm => hb b (List.mem_of_mem_take hm))).2
  have h2 := key (bs.drop i) (manyOf (bs.take i)) (fun b hm => hb b (List.mem_of_mem_drop hm)) h1
  have e : manyOf bs = (bs.drop i).foldl (fun k b => k * mx1 b.2.length) (manyOf (bs.take i)) := by
    unfold manyOf
    rw [← List.foldl_append, List.take_append_drop]
  rw [e]
  exact h2
theorem own_take_len {bs : List Bar} (hb : ∀ b ∈ bs, BarOk b) (hm : manyOf bs ≤ 2000) (i : Nat) : (ownOf (bs.take i)).length ≤ 2000 := by
  have h1 := (own_len _ (bs.take i) rfl (fun b h => hb b (List.mem_of_mem_take h))).1
  have h2 := many_take hb i
  omega
/-! what is no bar -/
theorem asc_pairwise : ∀ {ns : List Int}, asc ns = true → ns.Pairwise (· < ·)
  | [], _ => .nil
  | [a], _ => .cons (fun _ h => nomatch h) .nil
  | a :: b :: r, h => by
    simp only [asc, Bool.and_eq_true, decide_eq_true_eq] at h
    have ih := asc_pairwise h.2
    refine .cons (fun x hx => ?_) ih
    rcases List.mem_cons.mp hx with rfl | hx
    · exact h.1
    · have := (List.pairwise_cons.mp ih).1 x hx
      omega
theorem pairwise_asc : ∀ {ns : List Int}, ns.Pairwise (· < ·) → asc ns = true
  | [], _ => rfl
  | [a], _ => rfl
  | a :: b :: r, h => by
    simp only [asc, Bool.and_eq_true, decide_eq_true_eq]
    exact ⟨(List.pairwise_cons.mp h).1 b List.mem_cons_self, pairwise_asc (List.pairwise_cons.mp h).2⟩
end RL

namespace RL
open PySem PySem.Spec PyProof.Rows L2
/-! data without a heap -/
structure SV where
  rows : List Bar
  whole : Int
  own : List Int
inductive D where
  | non | bl (b : Bool) | int (i : Int) | str (x : Str) | tup (xs : List D) | lst (xs : List D)
  | dK (kvs : List (Key × V)) | dT (kvs : List (List Key × V)) | ob (C : Str) (ns : List Str) (xs : List D) | scr (ns : List Int)
abbrev tI (ns : List Int) : D := .tup (ns.map .int)
abbrev lI (ns : List Int) : D := .lst (ns.map .int)
abbrev barD (b : Bar) : D := .tup [.int b.1, tI b.2]
abbrev barsD (bs : List Bar) : D := .tup (bs.map barD)
abbrev svD (s : SV) : D := .ob "Sieve" ["rows", "whole_of", "own"] [barsD s.rows, .int s.whole, tI s.own]
mutual
inductive Rp (K : PySem.W.Frag) (F : Hp) : V → D → Prop
  | non : Rp K F .non .non
  | bl (b : Bool) : Rp K F (.bl b) (.bl b)
  | int (i : Int) : Rp K F (.int i) (.int i)
  | str (x : Str) : Rp K F (.str x) (.str x)
  | lst {a : Addr} {xs : List V} {ds : List D} : F a = some (.lst xs) → RpA K F xs ds → Rp K F (.ref a) (.lst ds)
  | tup {a : Addr} {xs : List V} {ds : List D} : F a = some (.tup xs) → RpA K F xs ds → Rp K F (.ref a) (.tup ds)
  | scr {a : Addr} {ns : List Int} : SqL K F a (ns.map V.int) → Rp K F (.ref a) (.scr ns)
  | dK {a : Addr} {kvs : List (Key × V)} : F a = some (.dK kvs) → Rp K F (.ref a) (.dK kvs)
  | dT {a : Addr} {kvs : List (List Key × V)} : F a = some (.dT kvs) → Rp K F (.ref a) (.dT kvs)
  | ob {a dx : Addr} {fs : List (Str × V)} {C : Str} {ns : List Str} {ds : List D} : F a = some (.ins (He.ga K C) dx fs) → fs.map Prod.fst = ns → RpA K F (fs.map Prod.snd) ds → Rp K F (.ref a) (.ob C ns ds)
inductive RpA (K : PySem.W.Frag) (F : Hp) : List V → List D → Prop
  | nil : RpA K F [] []
  | cons {v : V} {vs : List V} {d : D} {ds : List D} : Rp K F v d → RpA K F vs ds → RpA K F (v :: vs) (d :: ds)
end
section
variable {K : PySem.W.Frag} {F F' : Hp}
mutual
theorem Rp.mono (e : Same F F') : ∀ {v : V} {d : D}, Rp K F v d → Rp K F' v d
  | _, _, .non => .non
  | _, _, .bl b => .bl b
  | _, _, .int i => .int i
  | _, _, .str x => .str x
  | _, _, .lst s a => .lst (e _ _ s) (RpA.mono e a)
  | _, _, .tup s a => .tup (e _ _ s) (RpA.mono e a)
  | _, _, .scr s => .scr (e.seq s)
  | _, _, .dK h => .dK (e _ _ h)
  | _, _, .dT h => .dT (e _ _ h)
  | _, _, .ob h1 h2 h3 => .ob (e _ _ h1) h2 (RpA.mono e h3)
theorem RpA.mono (e : Same F F') : ∀ {vs : List V} {ds : List D}, RpA K F vs ds → RpA K F' vs ds
  | _, _, .nil => .nil
  | _, _, .cons h t => .cons (Rp.mono e h) (RpA.mono e t)
end
theorem RpA.len : ∀ {vs : List V} {ds : List D}, RpA K F vs ds → vs.length = ds.length
  | _, _, .nil => rfl
  | _, _, .cons _ t => congrArg Nat.succ (RpA.len t)
theorem RpA.get' : ∀ {vs : List V} {ds : List D} {i : Nat} {d : D}, RpA K F vs ds → ds[i]? = some d → ∃ v, vs[i]? = some v ∧ Rp K F v d
  | _, _, _, _, .nil, e => by simp at e
  | _, _, 0, _, .cons h _, e => by simp at e; subst e; exact ⟨_, rfl, h⟩
  | _, _, i + 1, d, .cons _ t, e => by
    obtain ⟨v, h1, h2⟩ := RpA.get' (i := i) (d := d) t (by simpa using e)
    exact ⟨v, by simpa using h1, h2⟩
theorem RpA.get : ∀ {vs : List V} {ds : List D} {i : Nat} {v : V}, RpA K F vs ds → vs[i]? = some v → ∃ d, ds[i]? = some d ∧ Rp K F v d
  | _, _, _, _, .nil, e => by simp at e
  | _, _, 0, _, .cons h _, e => by simp at e; subst e; exact ⟨_, rfl, h⟩
  | _, _, i + 1, v, .cons _ t, e => by
    obtain ⟨d, h1, h2⟩ := RpA.get (i := i) (v := v) t (by simpa using e)
    exact ⟨d, by simpa using h1, h2⟩
theorem RpA.app : ∀ {vs us : List V} {ds es : List D}, RpA K F vs ds → RpA K F us es → RpA K F (vs ++ us) (ds ++ es)
  | _, _, _, _, .nil, h => h
  | _, _, _, _, .cons a t, h => .cons a (RpA.app t h)
theorem RpA.take : ∀ {vs : List V} {ds : List D} (n : Nat), RpA K F vs ds → RpA K F (vs.take n) (ds.take n)
  | _, _, 0, _ => .nil
  | _, _, _ + 1, .nil => .nil
  | _, _, n + 1, .cons a t => .cons a (RpA.take n t)
theorem RpA.drop : ∀ {vs : List V} {ds : List D} (n : Nat), RpA K F vs ds → RpA K F (vs.drop n) (ds.drop n)
  | _, _, 0, h => h
  | _, _, _ + 1, .nil => .nil
  | _, _, n + 1, .cons _ t => RpA.drop n t
theorem RpA.set : ∀ {vs : List V} {ds : List D} {v : V} {d : D} (n : Nat), RpA K F vs ds → Rp K F v d → RpA K F (vs.set n v) (ds.set n d)
  | _, _, _, _, _, .nil, _ => .nil
  | _, _, _, _, 0, .cons _ t, h => .cons h t
  | _, _, _, _, n + 1, .cons a t, h => .cons a (RpA.set n t h)
theorem Rp.int_inv {v : V} {i : Int} (h : Rp K F v (.int i)) : v = .int i := by cases h; rfl
theorem Rp.bl_inv {v : V} {b : Bool} (h : Rp K F v (.bl b)) : v = .bl b := by cases h; rfl
theorem Rp.str_inv {v : V} {x : Str} (h : Rp K F v (.str x)) : v = .str x := by cases h; rfl
theorem Rp.non_inv {v : V} (h : Rp K F v .non) : v = .non := by cases h; rfl
theorem Rp.tup_inv {v : V} {ds : List D} (h : Rp K F v (.tup ds)) : ∃ a xs, v = .ref a ∧ F a = some (.tup xs) ∧ RpA K F xs ds := by cases h; exact ⟨_, _, rfl, ‹_›, ‹_›⟩
theorem Rp.lst_inv {v : V} {ds : List D} (h : Rp K F v (.lst ds)) : ∃ a xs, v = .ref a ∧ F a = some (.lst xs) ∧ RpA K F xs ds := by cases h; exact ⟨_, _, rfl, ‹_›, ‹_›⟩
theorem RpA.ints_inv : ∀ {ns : List Int} {vs : List V}, RpA K F vs (ns.map .int) → vs = ns.map V.int
  | [], _, h => by cases h; rfl
  | n :: r, _, h => by
    cases h with
    | cons a t => rw [Rp.int_inv a, RpA.ints_inv (ns := r) t]; rfl
theorem RpA.ints : ∀ {ns : List Int}, RpA K F (ns.map V.int) (ns.map .int)
  | [] => .nil
  | _ :: _ => .cons (.int _) RpA.ints
theorem RpA.bls_inv : ∀ {ns : List Bool} {vs : List V}, RpA K F vs (ns.map .bl) → vs = ns.map V.bl
  | [], _, h => by cases h; rfl
  | n :: r, _, h => by
    cases h with
    | cons a t => rw [Rp.bl_inv a, RpA.bls_inv (ns := r) t]; rfl
end
/-! what is owned, and may be changed -/
inductive OB where
  | ol (xs : List D) | od (kvs : List (Key × V)) | oT (kvs : List (List Key × V)) | oI (C : Str) (ns : List Str) (xs : List D)
/-- t: where it stands, if that is known (an argument that is changed) -/
structure OC where
  t : Option Addr
  c : OB
abbrev oL (xs : List D) : OC := ⟨none, .ol xs⟩
inductive S where
  | d (x : D) | o (c : OC)
abbrev Sl := List (Option S)
def OB.frz : OB → D
  | .ol xs => .lst xs
  | .od kvs => .dK kvs
  | .oT kvs => .dT kvs
  | .oI C ns xs => .ob C ns xs
def OC.frz (c : OC) : D := c.c.frz
def S.own : S → Bool
  | .d _ => false
  | .o _ => true
def S.frz : S → D
  | .d x => x
  | .o c => c.frz
def RO0 (K : PySem.W.Frag) (F : Hp) : HO → OB → Prop
  | .lst vs, .ol xs => RpA K F vs xs
  | .dK kvs, .od kvs' => kvs = kvs'
  | .dT kvs, .oT kvs' => kvs = kvs'
  | .ins A _ fs, .oI C ns xs => A = He.ga K C ∧ fs.map Prod.fst = ns ∧ RpA K F (fs.map Prod.snd) xs
  | _, _ => False
def RO (K : PySem.W.Frag) (F : Hp) (p : Addr) (o : HO) (c : OC) : Prop := (∀ a, c.t = some a → p = a) ∧ RO0 K F o c.c
def RS (K : PySem.W.Frag) (F H : Hp) (v : V) : S → Prop
  | .d x => Rp K F v x
  | .o c => ∃ p o, v = .ref p ∧ F p = none ∧ H p = some o ∧ RO K F p o c
/-- the errors -/
structure Ex where
  c : Str
  fs : List (Str × V)
def RE (H : Hp) (d : Option Addr) (e : Ex) : Prop := match e.fs with
  | [] => d = none
  | fs => ∃ a, d = some a ∧ H a = some (.xd fs)
structure Rel (K : PySem.W.Frag) (F H : Hp) (σ : L2.St) (ρ : Sl) : Prop where
  sub : Same F H
  at_ : ∀ (i : Nat) (s : S), ρ[i]? = some (some s) → ∃ v, σ[i]? = some (some v) ∧ RS K F H v s
  dis : ∀ (i j : Nat) (c c' : OC) (p : Addr), ρ[i]? = some (some (.o c)) → ρ[j]? = some (some (.o c')) → σ[i]? = some (some (.ref p)) → σ[j]? = some (some (.ref p)) → i = j
  len : σ.length = ρ.length
def OwnS (σ : L2.St) (ρ : Sl) (p : Addr) : Prop := ∃ (i : Nat) (c : OC), ρ[i]? = some (some (.o c)) ∧ σ[i]? = some (some (.ref p))
structure Tr (O : Addr → Prop) (F H F' H' : Hp) : Prop where
  ff : Same F F'
  dom : ∀ p, H' p = none → H p = none
  keep : ∀ p o, H p = some o → F p = none → ¬ O p → H' p = some o ∧ F' p = none
abbrev Tr0 := Tr fun _ => False
structure Aft (K : PySem.W.Frag) (F H : Hp) (σ : L2.St) (ρ : Sl) (F' H' : Hp) (σ' : L2.St) (ρ' : Sl) : Prop where
  rel : Rel K F' H' σ' ρ'
  tr : Tr (OwnS σ ρ) F H F' H'
  ow : ∀ p, OwnS σ' ρ' p → OwnS σ ρ p ∨ H p = none
section
variable {K : PySem.W.Frag} {F H F' H' F1 H1 : Hp} {σ σ' σ1 : L2.St} {ρ ρ' ρ1 : Sl} {O : Addr → Prop}
theorem OwnS.there {p : Addr} (r : Rel K F H σ ρ) (h : OwnS σ ρ p) : F p = none ∧ ∃ o, H p = some o := by
  obtain ⟨i, c, h1, h2⟩ := h
  obtain ⟨v, e, q⟩ := r.at_ i _ h1
  rw [h2] at e
  cases e
  obtain ⟨p', o, e, a, b, _⟩ := q
  cases e
  exact ⟨a, o, b⟩
theorem Tr.refl : Tr O F H F H := ⟨Same.refl _, fun _ h => h, fun _ _ h1 h2 _ => ⟨h1, h2⟩⟩
theorem Aft.refl (r : Rel K F H σ ρ) : Aft K F H σ ρ F H σ ρ := ⟨r, .refl, fun _ h => .inl h⟩
theorem Aft.trans (a : Aft K F H σ ρ F1 H1 σ1 ρ1) (b : Aft K F1 H1 σ1 ρ1 F' H' σ' ρ') : Aft K F H σ ρ F' H' σ' ρ' := by
  refine ⟨b.rel, ⟨a.tr.ff.trans b.tr.ff, fun p h => a.tr.dom p (b.tr.dom p h), fun p o h1 h2 h3 => ?_⟩, fun p h => ?_⟩
  · obtain ⟨x, y⟩ := a.tr.keep p o h1 h2 h3
    refine b.tr.keep p o x y fun z => ?_
    rcases a.ow p z with q | q
    · exact h3 q
    · rw [h1] at q; cases q
  · rcases b.ow p h with q | q
    · exact a.ow p q
    · exact .inr (a.tr.dom p q)
theorem Tr0.trans (a : Tr0 F H F1 H1) (b : Tr0 F1 H1 F' H') : Tr0 F H F' H' :=
  ⟨a.ff.trans b.ff, fun p h => a.dom p (b.dom p h), fun p o h1 h2 _ => let ⟨x, y⟩ := a.keep p o h1 h2 (fun z => z); b.keep p o x y fun z => z⟩
theorem Tr0.any (a : Tr0 F H F' H') : Tr O F H F' H' := ⟨a.ff, a.dom, fun p o h1 h2 _ => a.keep p o h1 h2 fun z => z⟩
theorem RO.mono {p : Addr} {o : HO} {c : OC} (e : Same F F') (h : RO K F p o c) : RO K F' p o c := by
  obtain ⟨t, c⟩ := c
  obtain ⟨h1, h⟩ := h
  refine ⟨h1, ?_⟩
  cases c <;> cases o <;> first | exact h | exact RpA.mono e h | exact ⟨h.1, h.2.1, RpA.mono e h.2.2⟩
theorem RS.step {v : V} {s : S} (t : Tr0 F H F' H') (h : RS K F H v s) : RS K F' H' v s := by
  cases s with
  | d x => exact Rp.mono t.ff h
  | o c =>
    obtain ⟨p, o, e, h1, h2, h3⟩ := h
    obtain ⟨x, y⟩ := t.keep p o h2 h1 fun z => z
    exact ⟨p, o, e, y, x, h3.mono t.ff⟩
/-- a step that changes nothing that stands -/
theorem Rel.step (r : Rel K F H σ ρ) (t : Tr0 F H F' H') (s : Same F' H') : Rel K F' H' σ ρ :=
  ⟨s, fun i x h => let ⟨v, e, q⟩ := r.at_ i x h; ⟨v, e, q.step t⟩, r.dis, r.len⟩
theorem Aft.step (r : Rel K F H σ ρ) (t : Tr0 F H F' H') (s : Same F' H') : Aft K F H σ ρ F' H' σ ρ := ⟨r.step t s, t.any, fun _ h => .inl h⟩
theorem Same.upd2 {p : Addr} {o : HO} (s : Same F H) (h : H p = none) : Same (upd F p o) (upd H p o) := fun b x e => by
  by_cases hb : b = p
  · subst hb; rw [upd_same] at e ⊢; exact e
  · rw [upd_ne hb] at e ⊢; exact s b x e
theorem none_of (s : Same F H) {p : Addr} (h : H p = none) : F p = none := s.free h
theorem Tr0.new {p : Addr} {o : HO} (s : Same F H) (h : H p = none) : Tr0 F H (upd F p o) (upd H p o) :=
  ⟨Same.new (none_of s h), fun q e => by
    by_cases hb : q = p
    · subst hb; exact h
    · rwa [upd_ne hb] at e, fun q x h1 h2 _ => by
    have hb : q ≠ p := ne_of_none h1 h
    rw [upd_ne hb, upd_ne hb]
    exact ⟨h1, h2⟩⟩
theorem Tr0.alloc {p : Addr} {o : HO} (h : H p = none) : Tr0 F H F (upd H p o) :=
  ⟨Same.refl _, fun q e => by
    by_cases hb : q = p
    · subst hb; exact h
    · rwa [upd_ne hb] at e, fun q x h1 h2 _ => by
    have hb : q ≠ p := ne_of_none h1 h
    rw [upd_ne hb]
    exact ⟨h1, h2⟩⟩
theorem Same.alloc {p : Addr} {o : HO} (s : Same F H) (h : H p = none) : Same F (upd H p o) := fun b x e => by
  rw [upd_ne (ne_of_none e (none_of s h))]
  exact s b x e
theorem RO.rp {p : Addr} {o : HO} {c : OC} (h : RO K F p o c) (hp : F p = none) : Rp K (upd F p o) (.ref p) c.frz := by
  obtain ⟨t, c⟩ := c
  obtain ⟨_, h⟩ := h
  cases c with
  | ol xs => cases o with
    | lst vs => exact .lst upd_same (RpA.mono (Same.new hp) h)
    | _ => exact h.elim
  | od kvs => cases o with
    | dK k => obtain rfl : k = kvs := h; exact .dK upd_same
    | _ => exact h.elim
  | oT kvs => cases o with
    | dT k => obtain rfl : k = kvs := h; exact .dT upd_same
    | _ => exact h.elim
  | oI C ns xs => cases o with
    | ins A dx fs => obtain ⟨rfl, h1, h2⟩ := h; exact .ob upd_same h1 (RpA.mono (Same.new hp) h2)
    | _ => exact h.elim
end
/-! a value that has come: data, or a new thing of its own -/
def RN (K : PySem.W.Frag) (H F' H' : Hp) (v : V) : S → Prop
  | .d x => Rp K F' v x
  | .o c => ∃ p o, v = .ref p ∧ H p = none ∧ F' p = none ∧ H' p = some o ∧ RO K F' p o c
def Res (K : PySem.W.Frag) (F H : Hp) (s : S) (Q : VK) : Prop := ∀ v F' H', Tr0 F H F' H' → Same F' H' → RN K H F' H' v s → Q v H'
def ResD (K : PySem.W.Frag) (F H : Hp) (d : D) (Q : VK) : Prop := ∀ v F' H', Tr0 F H F' H' → Same F' H' → Rp K F' v d → Q v H'
section
variable {K : PySem.W.Frag} {F H F' H' : Hp} {Q : VK}
theorem Same.frz {p : Addr} {o : HO} (s : Same F H) (h : H p = some o) : Same (upd F p o) H := fun b x e => by
  by_cases hb : b = p
  · subst hb; rw [upd_same] at e; rw [h]; exact e
  · rw [upd_ne hb] at e; exact s b x e
theorem ResD.res {s : S} (h : ResD K F H s.frz Q) : Res K F H s Q := by
  intro v F' H' t sm r
  cases s with
  | d x => exact h v F' H' t sm r
  | o c =>
    obtain ⟨p, o, rfl, h1, h2, h3, h4⟩ := r
    refine h (.ref p) (upd F' p o) H' ⟨t.ff.trans (Same.new h2), t.dom, fun q x a b z => ?_⟩ (Same.frz sm h3) (h4.rp h2)
    obtain ⟨y1, y2⟩ := t.keep q x a b z
    exact ⟨y1, by rw [upd_ne (ne_of_none a h1)]; exact y2⟩
theorem ResD.here {d : D} {v : V} (h : ResD K F H d Q) (s : Same F H) (r : Rp K F v d) : Q v H := h v F H .refl s r
theorem ResD.newT {xs : List V} {ds : List D} {p : Addr} (h : ResD K F H (.tup ds) Q) (s : Same F H) (hp : H p = none) (r : RpA K F xs ds) : Q (.ref p) (upd H p (.tup xs)) :=
  h _ _ _ (.new s hp) (Same.upd2 s hp) (.tup upd_same (RpA.mono (Same.new (none_of s hp)) r))
theorem Res.newL {xs : List V} {ds : List D} {p : Addr} (h : Res K F H (.o (oL ds)) Q) (s : Same F H) (hp : H p = none) (r : RpA K F xs ds) : Q (.ref p) (upd H p (.lst xs)) :=
  h _ F _ (.alloc hp) (Same.alloc s hp) ⟨p, _, rfl, hp, none_of s hp, upd_same, (fun _ z => nomatch z), r⟩
end
/-! results -/
inductive Rs (α : Type) where
  | ok (a : α) | er (e : Ex) (ρ : Sl) | no
def Rs.bind {α β : Type} (r : Rs α) (f : α → Rs β) : Rs β := match r with
  | .ok a => f a
  | .er e ρ => .er e ρ
  | .no => .no
instance : Monad Rs where
  pure := .ok
  bind := Rs.bind
@[simp] theorem Rs.ok_bind {α β : Type} (a : α) (f : α → Rs β) : (Rs.ok a >>= f) = f a := rfl
@[simp] theorem Rs.er_bind {α β : Type} (e : Ex) (ρ : Sl) (f : α → Rs β) : ((Rs.er e ρ : Rs α) >>= f) = .er e ρ := rfl
@[simp] theorem Rs.no_bind {α β : Type} (f : α → Rs β) : ((Rs.no : Rs α) >>= f) = .no := rfl
theorem Rs.bind_eq {α β : Type} (r : Rs α) (f : α → Rs β) : (r >>= f) = Rs.bind r f := rfl
@[simp] theorem Rs.bind_ok {α β : Type} (a : α) (f : α → Rs β) : Rs.bind (.ok a) f = f a := rfl
@[simp] theorem Rs.bind_er {α β : Type} (e : Ex) (ρ : Sl) (f : α → Rs β) : Rs.bind (.er e ρ) f = .er e ρ := rfl
@[simp] theorem Rs.bind_no {α β : Type} (f : α → Rs β) : Rs.bind .no f = .no := rfl
@[simp] theorem Rs.pure_eq {α : Type} (a : α) : (pure a : Rs α) = .ok a := rfl
def rsO {α : Type} (ρ : Sl) : Option α → Rs (α × Sl)
  | some a => .ok (a, ρ)
  | none => .no
@[simp] theorem rsO_some {α : Type} (ρ : Sl) (a : α) : rsO ρ (some a) = .ok (a, ρ) := rfl
@[simp] theorem rsO_none {α : Type} (ρ : Sl) : rsO ρ (none : Option α) = .no := rfl
/-- what is wanted of a result -/
def Post {α : Type} (K : PySem.W.Frag) (W : WX) (F H : Hp) (σ : L2.St) (ρ : Sl) (r : Rs (α × Sl)) (P : α → Sl → Hp → Hp → Prop) : Prop := match r with
  | .ok (x, ρ') => ∀ F' H', Aft K F H σ ρ F' H' σ ρ' → P x ρ' F' H'
  | .er e ρ' => ∀ d F' H', Aft K F H σ ρ F' H' σ ρ' → RE H' d e → W (.ref (He.ga K e.c)) d σ H'
  | .no => False
section
variable {α β : Type} {K : PySem.W.Frag} {W : WX} {F H : Hp} {σ : L2.St} {ρ : Sl}
theorem Post.bind {r : Rs (α × Sl)} {g : α × Sl → Rs (β × Sl)} {P : β → Sl → Hp → Hp → Prop} (h : Post K W F H σ ρ (r >>= g) P) :
    Post K W F H σ ρ r (fun x ρ1 F1 H1 => Post K W F1 H1 σ ρ1 (g (x, ρ1)) P) := by
  cases r with
  | no => exact h
  | er e ρ' => exact h
  | ok a =>
    obtain ⟨x, ρ1⟩ := a
    intro F1 H1 A1
    have h : Post K W F H σ ρ (g (x, ρ1)) P := h
    cases e : g (x, ρ1) with
    | no => rw [e] at h; exact h
    | er ex ρ' => rw [e] at h; exact fun d F' H' A => h d F' H' (A1.trans A)
    | ok b => rw [e] at h; exact fun F' H' A => h F' H' (A1.trans A)
theorem Post.mono {r : Rs (α × Sl)} {P P' : α → Sl → Hp → Hp → Prop} (h : Post K W F H σ ρ r P) (m : ∀ x ρ' F' H', Aft K F H σ ρ F' H' σ ρ' → P x ρ' F' H' → P' x ρ' F' H') : Post K W F H σ ρ r P' := by
  cases r with
  | no => exact h
  | er e ρ' => exact h
  | ok a => exact fun F1 H1 A => m _ _ _ _ A (h F1 H1 A)
end
abbrev FE := Sl → Rs (D × Sl)
abbrev FN := Sl → Rs (S × Sl)
abbrev FT := Sl → Rs (Bool × Sl)
abbrev FA := Sl → Rs (List D × Sl)
def LE (K : PySem.W.Frag) (W : WX) (f : FE) : TE := fun σ H Q => ∃ F ρ, Rel K F H σ ρ ∧ Post K W F H σ ρ (f ρ) fun x _ F' H' => ∀ v, Rp K F' v x → Q v H'
def LN (K : PySem.W.Frag) (W : WX) (f : FN) : TE := fun σ H Q => ∃ F ρ, Rel K F H σ ρ ∧ Post K W F H σ ρ (f ρ) fun s ρ' F' H' => ∀ v, RN K H F' H' v s → (∀ p, v = .ref p → s.own = true → ¬ OwnS σ ρ' p) → Q v H'
def LT (K : PySem.W.Frag) (W : WX) (f : FT) : TT := fun σ H Q => ∃ F ρ, Rel K F H σ ρ ∧ Post K W F H σ ρ (f ρ) fun b _ _ H' => Q b H'
def LA (K : PySem.W.Frag) (W : WX) (f : FA) : TA := fun σ H Q => ∃ F ρ, Rel K F H σ ρ ∧ Post K W F H σ ρ (f ρ) fun ds _ F' H' => ∀ vs, RpA K F' vs ds → Q vs H'
structure DE (X : Cx) (K : PySem.W.Frag) (W : WX) (e : Expr) (f : FE) : Prop where
  pe : PE X e (LE K W f)
structure DN (X : Cx) (K : PySem.W.Frag) (W : WX) (e : Expr) (f : FN) : Prop where
  pe : PE X e (LN K W f)
structure DT (X : Cx) (K : PySem.W.Frag) (W : WX) (e : Expr) (f : FT) : Prop where
  pt : PT X e (LT K W f)
structure DW (X : Cx) (K : PySem.W.Frag) (W : WX) (e : Expr) (f : FT) : Prop where
  pw : PW X e (LT K W f)
structure DA (X : Cx) (K : PySem.W.Frag) (W : WX) (es : List Expr) (f : FA) : Prop where
  pa : PA X es (LA K W f)
theorem _root_.L2.PE.weak {X : Cx} {e : Expr} {t t' : TE} (h : PE X e t) (w : ∀ σ H Q, t' σ H Q → t σ H Q) : PE X e t' := ⟨fun pins s σ H Q I q => h.run pins s σ H Q I (w σ H Q q)⟩
theorem _root_.L2.PT.weak {X : Cx} {e : Expr} {t t' : TT} (h : PT X e t) (w : ∀ σ H Q, t' σ H Q → t σ H Q) : PT X e t' := ⟨fun pins s σ H Q I q => h.run pins s σ H Q I (w σ H Q q)⟩
theorem _root_.L2.PW.weak {X : Cx} {e : Expr} {t t' : TT} (h : PW X e t) (w : ∀ σ H Q, t' σ H Q → t σ H Q) : PW X e t' := ⟨fun whole pins s σ H Q I q => h.run whole pins s σ H Q I (w σ H Q q)⟩
theorem _root_.L2.PA.weak {X : Cx} {es : List Expr} {t t' : TA} (h : PA X es t) (w : ∀ σ H Q, t' σ H Q → t σ H Q) : PA X es t' := ⟨fun pos pins s σ H Q I q => h.run pos pins s σ H Q I (w σ H Q q)⟩
theorem _root_.L2.PS.weak {X : Cx} {e : Stmt} {t t' : TS} (h : PS X e t) (w : ∀ D σ H, t' D σ H → t D σ H) : PS X e t' := ⟨fun pins s σ H D I q => h.run pins s σ H D I (w D σ H q)⟩
theorem _root_.L2.PSs.weak {X : Cx} {e : List Stmt} {t t' : TS} (h : PSs X e t) (w : ∀ D σ H, t' D σ H → t D σ H) : PSs X e t' := ⟨fun pins s σ H D I q => h.run pins s σ H D I (w D σ H q)⟩
end RL

namespace RL
open PySem PySem.Spec PyProof.Rows L2
section
variable {K : PySem.W.Frag} {F H F' H' : Hp} {σ σ' : L2.St} {ρ ρ' : Sl}
/-- what is new is let stand -/
theorem Aft.freeze {v : V} {s : S} (a : Aft K F H σ ρ F' H' σ' ρ') (r : RN K H F' H' v s) (n : ∀ p, v = .ref p → s.own = true → ¬ OwnS σ' ρ' p) : ∃ F'', Aft K F H σ ρ F'' H' σ' ρ' ∧ Rp K F'' v s.frz ∧ Same F' F'' := by
  cases s with
  | d x => exact ⟨F', a, r, Same.refl _⟩
  | o c =>
    obtain ⟨p, o, rfl, h1, h2, h3, h4⟩ := r
    have sm : Same F' (upd F' p o) := Same.new h2
    refine ⟨upd F' p o, ⟨⟨Same.frz a.rel.sub h3, fun i s e => ?_, a.rel.dis, a.rel.len⟩, ⟨a.tr.ff.trans sm, a.tr.dom, fun q x e1 e2 e3 => ?_⟩, a.ow⟩, h4.rp h2, sm⟩
    · obtain ⟨w, ew, q⟩ := a.rel.at_ i s e
      refine ⟨w, ew, ?_⟩
      cases s with
      | d x => exact Rp.mono sm q
      | o c' =>
        obtain ⟨p', o', rfl, g1, g2, g3⟩ := q
        refine ⟨p', o', rfl, ?_, g2, g3.mono sm⟩
        have ne : p' ≠ p := fun z => n p rfl rfl ⟨i, c', e, by rw [ew, z]⟩
        rw [upd_ne ne]
        exact g1
    · obtain ⟨y1, y2⟩ := a.tr.keep q x e1 e2 e3
      exact ⟨y1, by rw [upd_ne (ne_of_none e1 h1)]; exact y2⟩
end
def fz (f : FN) : FE := fun ρ => f ρ >>= fun p => .ok (p.1.frz, p.2)
section
variable {X : Cx} {K : PySem.W.Frag} {W : WX} {a b c e : Expr} {es : List Expr} {fa fb fc : FE} {f : FN} {pos : Pos}
theorem DN.de (h : DN X K W e f) : DE X K W e (fz f) := ⟨h.pe.weak fun σ H Q ⟨F, ρ, r, q⟩ => ⟨F, ρ, r, (by
  have q := Post.bind q
  cases e : f ρ with
  | no => rw [e] at q; exact q
  | er x ρ' => rw [e] at q; exact q
  | ok x =>
    rw [e] at q
    obtain ⟨s, ρ'⟩ := x
    intro F' H' A v rn n
    obtain ⟨F'', A', rp, sm⟩ := A.freeze rn n
    exact q F'' H' A' F'' H' (Aft.refl A'.rel) v rp)⟩⟩
/-! names, constants -/
def dV (i : Nat) : FE := fun ρ => match ρ[i]? with
  | some (some (.d x)) => .ok (x, ρ)
  | some (some (.o c)) => .ok (c.frz, ρ.set i (some (.d c.frz)))
  | _ => .no
theorem get_set_some {α : Type} {l : List α} {i j : Nat} {x y : α} (h : (l.set i x)[j]? = some y) : (j = i ∧ y = x) ∨ (j ≠ i ∧ l[j]? = some y) := by
  by_cases hj : j = i
  · subst hj
    by_cases hl : j < l.length
    · rw [List.getElem?_set_self hl] at h
      exact .inl ⟨rfl, (Option.some.inj h).symm⟩
    · rw [List.getElem?_eq_none (by simpa using hl)] at h; cases h
  · rw [List.getElem?_set_ne (Ne.symm hj)] at h
    exact .inr ⟨hj, h⟩
theorem freeze_slot {F H : Hp} {σ : L2.St} {ρ : Sl} {i : Nat} {c : OC} (r : Rel K F H σ ρ) (e : ρ[i]? = some (some (.o c))) : ∃ p F', σ[i]? = some (some (.ref p)) ∧ Rp K F' (.ref p) c.frz ∧ Aft K F H σ ρ F' H σ (ρ.set i (some (.d c.frz))) := by
  obtain ⟨v, ev, p, o, rfl, h1, h2, h3⟩ := r.at_ i _ e
  have sm : Same F (upd F p o) := Same.new h1
  have rp := h3.rp h1
  refine ⟨p, upd F p o, ev, rp, ⟨⟨Same.frz r.sub h2, fun j s q => ?_, fun j k c1 c2 p' q1 q2 => ?_, by rw [List.length_set]; exact r.len⟩, ⟨sm, fun _ h => h, fun q x e1 e2 e3 => ⟨e1, ?_⟩⟩, fun q h => .inl ?_⟩⟩
  · rcases get_set_some q with ⟨rfl, z⟩ | ⟨hj, z⟩
    · cases z
      exact ⟨_, ev, rp⟩
    · obtain ⟨w, ew, g⟩ := r.at_ j s z
      refine ⟨w, ew, ?_⟩
      cases s with
      | d x => exact Rp.mono sm g
      | o c' =>
        obtain ⟨p', o', rfl, g1, g2, g3⟩ := g
        have ne : p' ≠ p := fun y => hj (r.dis j i _ _ p z e (by rw [ew, y]) ev)
        exact ⟨p', o', rfl, by rw [upd_ne ne]; exact g1, g2, g3.mono sm⟩
  · rcases get_set_some q1 with ⟨_, z⟩ | ⟨_, z1⟩
    · cases z
    · rcases get_set_some q2 with ⟨_, z⟩ | ⟨_, z2⟩
      · cases z
      · exact r.dis j k _ _ p' z1 z2
  · have ne : q ≠ p := fun y => e3 ⟨i, c, e, by rw [y]; exact ev⟩
    rw [upd_ne ne]
    exact e2
  · obtain ⟨j, c', q1, q2⟩ := h
    rcases get_set_some q1 with ⟨_, z⟩ | ⟨_, z⟩
    · cases z
    · exact ⟨j, c', z, q2⟩
theorem de_v {i : Nat} (h : PE X e (tVar i)) : DE X K W e (dV i) := ⟨h.weak fun σ H Q ⟨F, ρ, r, q⟩ => by
  unfold dV at q
  split at q
  · rename_i x ex
    obtain ⟨v, ev, rv⟩ := r.at_ i _ ex
    exact ⟨v, ev, q F H (Aft.refl r) v rv⟩
  · rename_i c ec
    obtain ⟨p, F', ev, rp, A⟩ := freeze_slot r ec
    exact ⟨.ref p, ev, q F' H A _ rp⟩
  · exact q.elim⟩
def dC (d : D) : FE := fun ρ => .ok (d, ρ)
theorem de_c {v : V} {d : D} (h : PE X e (tC v)) (hr : ∀ F, Rp K F v d) : DE X K W e (dC d) := ⟨h.weak fun σ H Q ⟨F, ρ, r, q⟩ => q F H (Aft.refl r) v (hr F)⟩
theorem de_int {i j pos} : DE X K W (.Constant (.int i) j pos) (dC (.int i)) := de_c pe_int fun _ => .int _
theorem de_bl {b j pos} : DE X K W (.Constant (.bool b) j pos) (dC (.bl b)) := de_c pe_bl fun _ => .bl _
theorem de_non {j pos} : DE X K W (.Constant .none j pos) (dC .non) := de_c pe_non fun _ => .non
theorem de_str {x j pos} : DE X K W (.Constant (.str x) j pos) (dC (.str x)) := de_c pe_str fun _ => .str _
/-! operations on values -/
def Pr1 (K : PySem.W.Frag) (r : V → Hp → VK → Prop) (g : D → Option S) : Prop := ∀ F H x d s Q, Same F H → Rp K F x d → g d = some s → Res K F H s Q → r x H Q
def Pr2 (K : PySem.W.Frag) (r : R2) (g : D → D → Option S) : Prop := ∀ F H x y d e s Q, Same F H → Rp K F x d → Rp K F y e → g d e = some s → Res K F H s Q → r x y H Q
def PrL (K : PySem.W.Frag) (r : List V → Hp → VK → Prop) (g : List D → Option S) : Prop := ∀ F H vs ds s Q, Same F H → RpA K F vs ds → g ds = some s → Res K F H s Q → r vs H Q
def dOp (g : D → D → Option S) (fa fb : FE) : FN := fun ρ => fa ρ >>= fun p => fb p.2 >>= fun q => rsO q.2 (g p.1 q.1)
def dUn (g : D → Option S) (fa : FE) : FN := fun ρ => fa ρ >>= fun p => rsO p.2 (g p.1)
theorem res_of {H0 F H : Hp} {σ : L2.St} {ρ : Sl} {s : S} {Q : VK} (r : Rel K F H σ ρ) (dm : ∀ p, H p = none → H0 p = none)
    (h : ∀ F' H', Aft K F H σ ρ F' H' σ ρ → ∀ v, RN K H0 F' H' v s → (∀ p, v = .ref p → s.own = true → ¬ OwnS σ ρ p) → Q v H') : Res K F H s Q := by
  intro v F' H' t sm rn
  have A := Aft.step r t sm
  refine h F' H' A v ?_ (fun p e1 e2 o => ?_)
  · cases s with
    | d x => exact rn
    | o c => obtain ⟨p, o, e, h1, h2, h3, h4⟩ := rn; exact ⟨p, o, e, dm p h1, h2, h3, h4⟩
  · cases s with
    | d x => cases e2
    | o c =>
      obtain ⟨p', o', e, h1, _⟩ := rn
      rw [e1] at e
      cases e
      obtain ⟨_, w, hw⟩ := o.there r
      rw [h1] at hw; cases hw
theorem ln_op {r : R2} {g : D → D → Option S} (hp : Pr2 K r g) {σ : L2.St} {H : Hp} {Q : VK} (h : LN K W (dOp g fa fb) σ H Q) : tOp r (LE K W fa) (LE K W fb) σ H Q := by
  obtain ⟨F, ρ, rl, q⟩ := h
  refine ⟨F, ρ, rl, (Post.bind q).mono fun x ρ1 F1 H1 A1 q1 v rv => ⟨F1, ρ1, A1.rel, (Post.bind q1).mono fun y ρ2 F2 H2 A2 q2 u ru => ?_⟩⟩
  dsimp only at q2
  cases eg : g x y with
  | none => rw [eg] at q2; exact q2.elim
  | some s =>
    rw [eg] at q2
    exact hp F2 H2 v u x y s Q A2.rel.sub (Rp.mono A2.tr.ff rv) ru eg (res_of A2.rel (fun p hp => A1.tr.dom p (A2.tr.dom p hp)) fun F' H' A => q2 F' H' A)
theorem dn_op {op : Operator} {r : R2} {g : D → D → Option S} (ho : OpR X (binaryOp op) r) (hp : Pr2 K r g) (ha : DE X K W a fa) (hb : DE X K W b fb) : DN X K W (.BinOp a op b pos) (dOp g fa fb) :=
  ⟨(pe_op ho ha.pe hb.pe).weak fun _ _ _ h => ln_op hp h⟩
theorem dn_cmp {op : CmpOp} {r : R2} {g : D → D → Option S} (ho : OpR X (compareOp op) r) (hp : Pr2 K r g) (ha : DE X K W a fa) (hb : DE X K W b fb) (hm : behindInMarks op b = false) : DN X K W (.Compare a [op] [b] pos) (dOp g fa fb) :=
  ⟨(pe_cmpR ho ha.pe hb.pe hm).weak fun _ _ _ h => ln_op hp h⟩
theorem dn_ix {r : R2} {g : D → D → Option S} (ho : IxR X r) (hp : Pr2 K r g) (ha : DE X K W a fa) (hb : DE X K W b fb) (hs : PlainIx b) : DN X K W (.Subscript a b pos) (dOp g fa fb) :=
  ⟨(pe_ix ho ha.pe hb.pe hs).weak fun _ _ _ h => ln_op hp h⟩
theorem dn_un {op : UnaryOp} {r : V → Hp → VK → Prop} {g : D → Option S} (ho : UnR X (unaryOp op) r) (hp : Pr1 K r g) (ha : DE X K W a fa) : DN X K W (.UnaryOp op a pos) (dUn g fa) :=
  ⟨(pe_un ho ha.pe).weak fun σ H Q h => by
    obtain ⟨F, ρ, rl, q⟩ := h
    refine ⟨F, ρ, rl, (Post.bind q).mono fun x ρ1 F1 H1 A1 q1 v rv => ?_⟩
    dsimp only at q1
    cases eg : g x with
    | none => rw [eg] at q1; exact q1.elim
    | some s =>
      rw [eg] at q1
      exact hp F1 H1 v x s Q A1.rel.sub rv eg (res_of A1.rel (fun p hp => A1.tr.dom p hp) fun F' H' A => q1 F' H' A)⟩
/-! arguments -/
def aNil : FA := fun ρ => .ok ([], ρ)
def aCons (fe : FE) (fr : FA) : FA := fun ρ => fe ρ >>= fun p => fr p.2 >>= fun q => .ok (p.1 :: q.1, q.2)
theorem da_nil : DA X K W [] aNil := ⟨pa_nil.weak fun σ H Q ⟨F, ρ, r, q⟩ => q F H (Aft.refl r) [] .nil⟩
theorem da_cons {fe : FE} {fr : FA} (he : DE X K W e fe) (hr : DA X K W es fr) (hs : starEach (e :: es) X.env = (false, eval e X.env) :: starEach es X.env := by rfl) : DA X K W (e :: es) (aCons fe fr) :=
  ⟨(pa_cons he.pe hr.pa hs).weak fun σ H Q ⟨F, ρ, r, q⟩ => ⟨F, ρ, r, (Post.bind q).mono fun x ρ1 F1 H1 A1 q1 v rv => ⟨F1, ρ1, A1.rel, (Post.bind q1).mono fun xs ρ2 F2 H2 A2 q2 vs rvs =>
    q2 F2 H2 (Aft.refl A2.rel) _ (.cons (Rp.mono A2.tr.ff rv) rvs)⟩⟩⟩
def dLs (g : List D → Option S) (fr : FA) : FN := fun ρ => fr ρ >>= fun p => rsO p.2 (g p.1)
theorem ln_ls {r : List V → Hp → VK → Prop} {g : List D → Option S} {fr : FA} (hp : PrL K r g) {σ : L2.St} {H : Hp} {Q : VK} (h : LN K W (dLs g fr) σ H Q) : tCB r (LA K W fr) σ H Q := by
  obtain ⟨F, ρ, rl, q⟩ := h
  refine ⟨F, ρ, rl, (Post.bind q).mono fun x ρ1 F1 H1 A1 q1 v rv => ?_⟩
  dsimp only at q1
  cases eg : g x with
  | none => rw [eg] at q1; exact q1.elim
  | some s =>
    rw [eg] at q1
    exact hp F1 H1 v x s Q A1.rel.sub rv eg (res_of A1.rel (fun p hp => A1.tr.dom p hp) fun F' H' A => q1 F' H' A)
theorem dn_callB {x : Str} {id : String} {r : List V → Hp → VK → Prop} {g : List D → Option S} {fr : FA} {p : Pos} (hc : CallR X (.builtin id) r) (hp : PrL K r g) (hg : Gl X x) (hm : X.mg x = none) (hv : bootBuiltins x = some (.builtin id)) (ha : DA X K W (e :: es) fr) (hn : x ≠ "__name__" := by decide) (hdb : (x == ("__debug__" : Str)) = false := by decide)
    (he : starEach (e :: es) X.env = (false, eval e X.env) :: starEach es X.env := by rfl) (hpl : (backTo pos (starEach es X.env)).any (·.1) = false := by rfl) : DN X K W (.Call (.Name x p) (e :: es) [] pos) (dLs g fr) :=
  ⟨(pe_callB hc hg hm hv ha.pa hn hdb he hpl).weak fun _ _ _ h => ln_ls hp h⟩
theorem dn_callTy {x : Str} {T : String} {r : List V → Hp → VK → Prop} {g : List D → Option S} {fr : FA} {p : Pos} (hc : CallR X (.type T) r) (hp : PrL K r g) (hg : Gl X x) (hm : X.mg x = none) (hv : bootBuiltins x = some (.type T)) (ha : DA X K W (e :: es) fr) (hn : x ≠ "__name__" := by decide) (hdb : (x == ("__debug__" : Str)) = false := by decide)
    (he : starEach (e :: es) X.env = (false, eval e X.env) :: starEach es X.env := by rfl) (hpl : (backTo pos (starEach es X.env)).any (·.1) = false := by rfl) : DN X K W (.Call (.Name x p) (e :: es) [] pos) (dLs g fr) :=
  ⟨(pe_callTy hc hg hm hv ha.pa hn hdb he hpl).weak fun _ _ _ h => ln_ls hp h⟩
/-- displays -/
def gTupD (ds : List D) : Option S := if ds.length ≤ sizeLine then some (.d (.tup ds)) else none
def gLstD (ds : List D) : Option S := if ds.length ≤ sizeLine then some (.o (oL ds)) else none
theorem prTup : PrL K (fun xs H1 Q => xs.length ≤ sizeLine ∧ ∀ p, H1 p = none → Q (.ref p) (upd H1 p (.tup xs))) gTupD := by
  intro F H vs ds s Q sm r eg h
  unfold gTupD at eg
  split at eg
  · cases eg
    rename_i hl
    exact ⟨by rw [r.len]; exact hl, fun p hp => ResD.newT (fun v F' H' t s' q => h v F' H' t s' q) sm hp r⟩
  · cases eg
theorem prLst : PrL K (fun xs H1 Q => xs.length ≤ sizeLine ∧ ∀ p, H1 p = none → Q (.ref p) (upd H1 p (.lst xs))) gLstD := by
  intro F H vs ds s Q sm r eg h
  unfold gLstD at eg
  split at eg
  · cases eg
    rename_i hl
    exact ⟨by rw [r.len]; exact hl, fun p hp => Res.newL h sm hp r⟩
  · cases eg
theorem dn_tup {fr : FA} {x1} (h : DA X K W es fr) : DN X K W (.Tuple es x1 pos) (dLs gTupD fr) := ⟨(pe_tup h.pa).weak fun _ _ _ q => ln_ls (r := fun xs H1 Q => xs.length ≤ sizeLine ∧ ∀ p, H1 p = none → Q (.ref p) (upd H1 p (.tup xs))) prTup q⟩
theorem dn_lst {fr : FA} (h : DA X K W es fr) : DN X K W (.List es pos) (dLs gLstD fr) := ⟨(pe_lst h.pa).weak fun _ _ _ q => ln_ls (r := fun xs H1 Q => xs.length ≤ sizeLine ∧ ∀ p, H1 p = none → Q (.ref p) (upd H1 p (.lst xs))) prLst q⟩
end
end RL

namespace RL
open PySem PySem.Spec PyProof.Rows L2
section
variable {X : Cx} {K : PySem.W.Frag} {W : WX} {a b c e : Expr} {es rest : List Expr} {fa fb fc : FE} {f g : FT} {pos : Pos}
/-! tests -/
def dB (fa : FE) : FT := fun ρ => fa ρ >>= fun p => match p.1 with
  | .bl b => .ok (b, p.2)
  | _ => .no
theorem lt_b {σ : L2.St} {H : Hp} {Q : Bool → Hp → Prop} (h : LT K W (dB fa) σ H Q) : LE K W fa σ H fun x H1 => ∃ c, x = .bl c ∧ Q c H1 := by
  obtain ⟨F, ρ, r, q⟩ := h
  refine ⟨F, ρ, r, (Post.bind q).mono fun x ρ1 F1 H1 A1 q1 v rv => ?_⟩
  cases x with
  | bl b => exact ⟨b, rv.bl_inv, q1 F1 H1 (Aft.refl A1.rel)⟩
  | _ => exact q1.elim
theorem dt_val (h : DE X K W e fa) (he : ∀ whole, isTrue e X.env whole = (do let v ← whole; standAt e.pos; holding [v] (truthy v)) := by intro _; rfl) : DT X K W e (dB fa) := ⟨(pt_val h.pe he).weak fun _ _ _ q => lt_b q⟩
theorem dt_cmp {op : CmpOp} {r : R2} {g : D → D → Option S} (ho : OpR X (compareOp op) r) (hp : Pr2 K r g) (ha : DE X K W a fa) (hb : DE X K W b fb) (hm : behindInMarks op b = false) : DT X K W (.Compare a [op] [b] pos) (dB (fz (dOp g fa fb))) :=
  ⟨(pt_cmpR ho ha.pe hb.pe hm).weak fun σ H Q q => by
    have q := lt_b q
    obtain ⟨F, ρ, r, q⟩ := q
    refine ln_op hp ⟨F, ρ, r, ?_⟩
    have q := Post.bind q
    cases e : dOp g fa fb ρ with
    | no => rw [e] at q; exact q
    | er x ρ' => rw [e] at q; exact q
    | ok x =>
      rw [e] at q
      obtain ⟨s, ρ'⟩ := x
      intro F' H' A v rn n
      obtain ⟨F'', A', rp, sm⟩ := A.freeze rn n
      exact q F'' H' A' F'' H' (Aft.refl A'.rel) v rp⟩
def dAnd (f g : FT) : FT := fun ρ => f ρ >>= fun p => if p.1 = true then g p.2 else .ok (false, p.2)
def dOr (f g : FT) : FT := fun ρ => f ρ >>= fun p => if p.1 = true then .ok (true, p.2) else g p.2
def dNot (f : FT) : FT := fun ρ => f ρ >>= fun p => .ok (!p.1, p.2)
theorem dw_and1 (h : DT X K W a f) : DW X K W (.BoolOp .And [a] pos) f := ⟨pw_and1 h.pt⟩
theorem dw_or1 (h : DT X K W a f) : DW X K W (.BoolOp .Or [a] pos) f := ⟨pw_or1 h.pt⟩
theorem dw_and (ha : DT X K W a f) (hb : DW X K W (.BoolOp .And (b :: rest) pos) g) : DW X K W (.BoolOp .And (a :: b :: rest) pos) (dAnd f g) :=
  ⟨(pw_and ha.pt hb.pw).weak fun σ H Q ⟨F, ρ, r, q⟩ => ⟨F, ρ, r, (Post.bind q).mono fun x ρ1 F1 H1 A1 q1 => by
    dsimp only at q1 ⊢
    split
    · rename_i hx
      rw [if_pos hx] at q1
      exact ⟨F1, ρ1, A1.rel, q1⟩
    · rename_i hx
      rw [if_neg hx] at q1
      exact q1 F1 H1 (Aft.refl A1.rel)⟩⟩
theorem dw_or (ha : DT X K W a f) (hb : DW X K W (.BoolOp .Or (b :: rest) pos) g) : DW X K W (.BoolOp .Or (a :: b :: rest) pos) (dOr f g) :=
  ⟨(pw_or ha.pt hb.pw).weak fun σ H Q ⟨F, ρ, r, q⟩ => ⟨F, ρ, r, (Post.bind q).mono fun x ρ1 F1 H1 A1 q1 => by
    dsimp only at q1 ⊢
    split
    · rename_i hx
      rw [if_pos hx] at q1
      exact q1 F1 H1 (Aft.refl A1.rel)
    · rename_i hx
      rw [if_neg hx] at q1
      exact ⟨F1, ρ1, A1.rel, q1⟩⟩⟩
theorem DW.dt (h : DW X K W e f) : DT X K W e f := ⟨h.pw.pt⟩
theorem dt_not (h : DT X K W a f) : DT X K W (.UnaryOp .Not a pos) (dNot f) :=
  ⟨(pt_not h.pt).weak fun σ H Q ⟨F, ρ, r, q⟩ => ⟨F, ρ, r, (Post.bind q).mono fun x ρ1 F1 H1 A1 q1 => q1 F1 H1 (Aft.refl A1.rel)⟩⟩
/-! and, or, not as values -/
def dAndV (fa fb : FE) : FE := fun ρ => dB fa ρ >>= fun p => if p.1 = true then fb p.2 else .ok (.bl false, p.2)
def dOrV (fa fb : FE) : FE := fun ρ => dB fa ρ >>= fun p => if p.1 = true then .ok (.bl true, p.2) else fb p.2
def dNotV (fa : FE) : FE := fun ρ => dB fa ρ >>= fun p => .ok (.bl (!p.1), p.2)
theorem le_bool {σ : L2.St} {H : Hp} {R : Bool → Hp → Prop} {F : Hp} {ρ : Sl} {P : Bool → Sl → Hp → Hp → Prop} (r : Rel K F H σ ρ) (q : Post K W F H σ ρ (dB fa ρ) P) (hR : ∀ b ρ1 F1 H1, Aft K F H σ ρ F1 H1 σ ρ1 → P b ρ1 F1 H1 → R b H1) :
    LE K W fa σ H fun x H1 => ∃ c, x = .bl c ∧ R c H1 := lt_b ⟨F, ρ, r, q.mono fun b ρ1 F1 H1 A p => hR b ρ1 F1 H1 A p⟩
theorem de_one {op} (h : DE X K W a fa) : DE X K W (.BoolOp op [a] pos) fa := ⟨pe_one h.pe⟩
theorem de_and (ha : DE X K W a fa) (hb : DE X K W (.BoolOp .And (b :: rest) pos) fb) : DE X K W (.BoolOp .And (a :: b :: rest) pos) (dAndV fa fb) :=
  ⟨(pe_and ha.pe hb.pe).weak fun σ H Q ⟨F, ρ, r, q⟩ => le_bool r (Post.bind q) fun x ρ1 F1 H1 A1 q1 => by
    dsimp only at q1 ⊢
    split
    · rename_i hx
      rw [if_pos hx] at q1
      exact ⟨F1, ρ1, A1.rel, q1⟩
    · rename_i hx
      rw [if_neg hx] at q1
      exact q1 F1 H1 (Aft.refl A1.rel) _ (.bl _)⟩
theorem de_or (ha : DE X K W a fa) (hb : DE X K W (.BoolOp .Or (b :: rest) pos) fb) : DE X K W (.BoolOp .Or (a :: b :: rest) pos) (dOrV fa fb) :=
  ⟨(pe_or ha.pe hb.pe).weak fun σ H Q ⟨F, ρ, r, q⟩ => le_bool r (Post.bind q) fun x ρ1 F1 H1 A1 q1 => by
    dsimp only at q1 ⊢
    split
    · rename_i hx
      rw [if_pos hx] at q1
      exact q1 F1 H1 (Aft.refl A1.rel) _ (.bl _)
    · rename_i hx
      rw [if_neg hx] at q1
      exact ⟨F1, ρ1, A1.rel, q1⟩⟩
theorem de_not (ha : DE X K W a fa) : DE X K W (.UnaryOp .Not a pos) (dNotV fa) :=
  ⟨(pe_not ha.pe).weak fun σ H Q ⟨F, ρ, r, q⟩ => le_bool r (Post.bind q) fun x ρ1 F1 H1 A1 q1 => q1 F1 H1 (Aft.refl A1.rel) _ (.bl _)⟩
def dIf (f : FT) (fa fb : FE) : FE := fun ρ => f ρ >>= fun p => if p.1 = true then fa p.2 else fb p.2
theorem de_if (hc : DT X K W c f) (ha : DE X K W a fa) (hb : DE X K W b fb) : DE X K W (.IfExp c a b pos) (dIf f fa fb) :=
  ⟨(pe_ifExp hc.pt ha.pe hb.pe).weak fun σ H Q ⟨F, ρ, r, q⟩ => ⟨F, ρ, r, (Post.bind q).mono fun x ρ1 F1 H1 A1 q1 => by
    dsimp only at q1 ⊢
    split
    · rename_i hx
      rw [if_pos hx] at q1
      exact ⟨F1, ρ1, A1.rel, q1⟩
    · rename_i hx
      rw [if_neg hx] at q1
      exact ⟨F1, ρ1, A1.rel, q1⟩⟩⟩
/-- a < b < c of ints: p, p' tell the two -/
def asI : D → Option Int
  | .int i => some i
  | _ => none
def dChI (p p' : Int → Int → Bool) (fa fb fc : FE) : FE := fun ρ => fa ρ >>= fun x => fb x.2 >>= fun y => match x.1, y.1 with
  | .int i, .int j => if p i j = true then fc y.2 >>= fun z => (match z.1 with | .int k => .ok (.bl (p' j k), z.2) | _ => .no) else .ok (.bl false, y.2)
  | _, _ => .no
theorem le_chain {p p' : Int → Int → Bool} {σ : L2.St} {H : Hp} {Q : VK} (h : LE K W (dChI p p' fa fb fc) σ H Q) : tChain (rI0 fun i j => .bl (p i j)) (rI0 fun i j => .bl (p' i j)) (LE K W fa) (LE K W fb) (LE K W fc) σ H Q := by
  obtain ⟨F, ρ, r, q⟩ := h
  refine ⟨F, ρ, r, (Post.bind q).mono fun x ρ1 F1 H1 A1 q1 v rv => ⟨F1, ρ1, A1.rel, (Post.bind q1).mono fun y ρ2 F2 H2 A2 q2 u ru => ?_⟩⟩
  dsimp only at q2
  cases x with
  | int i =>
    cases y with
    | int j =>
      refine ⟨i, j, rv.int_inv, ru.int_inv, _, rfl, ?_⟩
      dsimp only at q2
      split
      · rename_i hx
        rw [if_pos hx] at q2
        refine ⟨F2, ρ2, A2.rel, (Post.bind q2).mono fun z ρ3 F3 H3 A3 q3 w rw' => ?_⟩
        cases z with
        | int k => exact ⟨j, k, ru.int_inv, rw'.int_inv, q3 F3 H3 (Aft.refl A3.rel) _ (.bl _)⟩
        | _ => exact q3.elim
      · rename_i hx
        rw [if_neg hx] at q2
        exact q2 F2 H2 (Aft.refl A2.rel) _ (.bl _)
    | _ => exact q2.elim
  | _ => exact q2.elim
theorem de_chain {op op' : CmpOp} {p p' : Int → Int → Bool} (ho : OpR X (compareOp op) (rI0 fun i j => .bl (p i j))) (ho' : OpR X (compareOp op') (rI0 fun i j => .bl (p' i j))) (ha : DE X K W a fa) (hb : DE X K W b fb) (hc : DE X K W c fc)
    (hm : lastMarks [op, op'] [b, c] = false := by with_unfolding_all rfl) : DE X K W (.Compare a [op, op'] [b, c] pos) (dChI p p' fa fb fc) := ⟨(pe_chain ho ho' ha.pe hb.pe hc.pe hm).weak fun _ _ _ h => le_chain h⟩
theorem dt_chain {op op' : CmpOp} {p p' : Int → Int → Bool} (ho : OpR X (compareOp op) (rI0 fun i j => .bl (p i j))) (ho' : OpR X (compareOp op') (rI0 fun i j => .bl (p' i j))) (ha : DE X K W a fa) (hb : DE X K W b fb) (hc : DE X K W c fc)
    (hm : lastMarks [op, op'] [b, c] = false := by with_unfolding_all rfl) : DT X K W (.Compare a [op, op'] [b, c] pos) (dB (dChI p p' fa fb fc)) := ⟨(pt_chain ho ho' ha.pe hb.pe hc.pe hm).weak fun _ _ _ h => le_chain (lt_b h)⟩
/-! slices -/
def Pr3 (K : PySem.W.Frag) (r : V → Option Int → Option Int → Hp → VK → Prop) (g : D → Option Int → Option Int → Option S) : Prop := ∀ F H x d lo hi s Q, Same F H → Rp K F x d → g d lo hi = some s → Res K F H s Q → r x lo hi H Q
abbrev FO := Sl → Rs (Option Int × Sl)
def oNone : FO := fun ρ => .ok (none, ρ)
def oSome (fa : FE) : FO := fun ρ => fa ρ >>= fun p => match p.1 with
  | .int i => .ok (some i, p.2)
  | _ => .no
def LO (K : PySem.W.Frag) (W : WX) (f : FO) : TO := fun σ H Q => ∃ F ρ, Rel K F H σ ρ ∧ Post K W F H σ ρ (f ρ) fun b _ _ H' => Q b H'
structure DO (X : Cx) (K : PySem.W.Frag) (W : WX) (e : Option Expr) (f : FO) : Prop where
  po : PO X e (LO K W f)
theorem _root_.L2.PO.weak {X : Cx} {e : Option Expr} {t t' : TO} (h : PO X e t) (w : ∀ σ H Q, t' σ H Q → t σ H Q) : PO X e t' := by
  refine ⟨?_⟩
  intros
  apply h.run <;> first | assumption | (apply w; assumption)
theorem do_none : DO X K W none oNone := ⟨po_none.weak fun σ H Q ⟨F, ρ, r, q⟩ => q F H (Aft.refl r)⟩
theorem do_some (h : DE X K W e fa) : DO X K W (some e) (oSome fa) := ⟨(po_some h.pe).weak fun σ H Q ⟨F, ρ, r, q⟩ => ⟨F, ρ, r, (Post.bind q).mono fun x ρ1 F1 H1 A1 q1 v rv => by
  cases x with
  | int i => exact ⟨i, rv.int_inv, q1 F1 H1 (Aft.refl A1.rel)⟩
  | _ => exact q1.elim⟩⟩
def dSlice (g : D → Option Int → Option Int → Option S) (fa : FE) (fl fh : FO) : FN := fun ρ => fa ρ >>= fun p => fl p.2 >>= fun q => fh q.2 >>= fun r => rsO r.2 (g p.1 q.1 r.1)
theorem dn_slice {r : V → Option Int → Option Int → Hp → VK → Prop} {g : D → Option Int → Option Int → Option S} {fl fh : FO} {lo hi : Option Expr} {p2 : Pos} (ho : SlR X r) (hp : Pr3 K r g) (ha : DE X K W e fa) (hl : DO X K W lo fl) (hh : DO X K W hi fh) :
    DN X K W (.Subscript e (.Slice lo hi none p2) pos) (dSlice g fa fl fh) := ⟨(pe_slice ho ha.pe hl.po hh.po).weak fun σ H Q h => by
  obtain ⟨F, ρ, rl, q⟩ := h
  refine ⟨F, ρ, rl, (Post.bind q).mono fun x ρ1 F1 H1 A1 q1 v rv => ⟨F1, ρ1, A1.rel, (Post.bind q1).mono fun l ρ2 F2 H2 A2 q2 => ⟨F2, ρ2, A2.rel, (Post.bind q2).mono fun u ρ3 F3 H3 A3 q3 => ?_⟩⟩⟩
  dsimp only at q3
  cases eg : g x l u with
  | none => rw [eg] at q3; exact q3.elim
  | some s =>
    rw [eg] at q3
    exact hp F3 H3 v x l u s Q A3.rel.sub (Rp.mono A3.tr.ff (Rp.mono A2.tr.ff rv)) eg (res_of A3.rel (fun p hp => A1.tr.dom p (A2.tr.dom p (A3.tr.dom p hp))) fun F' H' A => q3 F' H' A)⟩
end
end RL

namespace RL
open PySem PySem.Spec PyProof.Rows L2
/-! targets -/
abbrev FG := D → Sl → Option Sl
abbrev FGs := List D → Sl → Option Sl
def Chg (vs : List Nat) (σ σ' : L2.St) : Prop := σ'.length = σ.length ∧ ∀ j, j ∉ vs → σ'[j]? = σ[j]?
def PostG (K : PySem.W.Frag) (vs : List Nat) (F H : Hp) (σ : L2.St) (ρ : Sl) (r : Option Sl) (Q : L2.St → Hp → Prop) : Prop := match r with
  | some ρ' => ∀ σ' F' H', Aft K F H σ ρ F' H' σ' ρ' → Chg vs σ σ' → Same F F' → Q σ' H'
  | _ => False
def LG (K : PySem.W.Frag) (vs : List Nat) (g : FG) : TG := fun v σ H Q => ∃ F ρ x, Rel K F H σ ρ ∧ Rp K F v x ∧ PostG K vs F H σ ρ (g x ρ) Q
def LGs (K : PySem.W.Frag) (vs : List Nat) (g : FGs) : TGs := fun us σ H Q => ∃ F ρ ds, Rel K F H σ ρ ∧ RpA K F us ds ∧ PostG K vs F H σ ρ (g ds ρ) Q
structure DG (X : Cx) (K : PySem.W.Frag) (vs : List Nat) (e : Expr) (g : FG) : Prop where
  pg : PG X e (LG K vs g)
structure DGs (X : Cx) (K : PySem.W.Frag) (vs : List Nat) (es : List Expr) (g : FGs) : Prop where
  pg : PGs X es (LGs K vs g)
theorem _root_.L2.PG.weak {X : Cx} {e : Expr} {t t' : TG} (h : PG X e t) (w : ∀ v σ H Q, t' v σ H Q → t v σ H Q) : PG X e t' := by
  refine ⟨?_⟩
  intros
  apply h.run <;> first | assumption | (apply w; assumption)
theorem _root_.L2.PGs.weak {X : Cx} {e : List Expr} {t t' : TGs} (h : PGs X e t) (w : ∀ v σ H Q, t' v σ H Q → t v σ H Q) : PGs X e t' := by
  refine ⟨?_⟩
  intros
  apply h.run <;> first | assumption | (apply w; assumption)
section
variable {K : PySem.W.Frag} {F H F' H' : Hp} {σ σ' : L2.St} {ρ ρ' : Sl}
/-- a slot gets a value: data -/
theorem Rel.setD {i : Nat} {v : V} {x : D} (r : Rel K F H σ ρ) (h : Rp K F v x) : Aft K F H σ ρ F H (σ.set i (some v)) (ρ.set i (some (.d x))) := by
  refine ⟨⟨r.sub, fun j s e => ?_, fun j k c c' p e1 e2 e3 e4 => ?_, by rw [List.length_set, List.length_set]; exact r.len⟩, .refl, fun p h => .inl ?_⟩
  · rcases get_set_some e with ⟨rfl, z⟩ | ⟨hj, z⟩
    · cases z
      have hl : j < (ρ.set j (some (S.d x))).length := (List.getElem?_eq_some_iff.mp e).1
      refine ⟨v, List.getElem?_set_self (by rw [r.len]; simpa using hl), h⟩
    · obtain ⟨w, ew, q⟩ := r.at_ j s z
      exact ⟨w, by rw [List.getElem?_set_ne (Ne.symm hj)]; exact ew, q⟩
  · rcases get_set_some e1 with ⟨_, z⟩ | ⟨hj, z1⟩
    · cases z
    · rcases get_set_some e2 with ⟨_, z⟩ | ⟨hk, z2⟩
      · cases z
      · rw [List.getElem?_set_ne (Ne.symm hj)] at e3
        rw [List.getElem?_set_ne (Ne.symm hk)] at e4
        exact r.dis j k c c' p z1 z2 e3 e4
  · obtain ⟨j, c, e1, e2⟩ := h
    rcases get_set_some e1 with ⟨_, z⟩ | ⟨hj, z⟩
    · cases z
    · rw [List.getElem?_set_ne (Ne.symm hj)] at e2
      exact ⟨j, c, z, e2⟩
/-- a slot gets a thing of its own -/
theorem Rel.setO {i : Nat} {p : Addr} {o : HO} {c : OC} (r : Rel K F H σ ρ) (h1 : F p = none) (h2 : H p = some o) (h3 : RO K F p o c) (n : ¬ OwnS σ ρ p) : Rel K F H (σ.set i (some (.ref p))) (ρ.set i (some (.o c))) ∧
    ∀ q, OwnS (σ.set i (some (.ref p))) (ρ.set i (some (.o c))) q → OwnS σ ρ q ∨ q = p := by
  have key : ∀ (j : Nat) (c' : OC) (q : Addr), (ρ.set i (some (.o c)))[j]? = some (some (.o c')) → (σ.set i (some (.ref p)))[j]? = some (some (.ref q)) → (j = i ∧ q = p) ∨ (j ≠ i ∧ ρ[j]? = some (some (.o c')) ∧ σ[j]? = some (some (.ref q))) := fun j c' q e1 e2 => by
    rcases get_set_some e1 with ⟨h, z⟩ | ⟨h, z⟩
    · rcases get_set_some e2 with ⟨_, y⟩ | ⟨h', _⟩
      · cases y; exact .inl ⟨h, rfl⟩
      · exact absurd h h'
    · rcases get_set_some e2 with ⟨h', _⟩ | ⟨_, y⟩
      · exact absurd h' h
      · exact .inr ⟨h, z, y⟩
  refine ⟨⟨r.sub, fun j s e => ?_, fun j k c1 c2 q e1 e2 e3 e4 => ?_, by rw [List.length_set, List.length_set]; exact r.len⟩, fun q hq => ?_⟩
  · rcases get_set_some e with ⟨rfl, z⟩ | ⟨hj, z⟩
    · cases z
      have hl : j < (ρ.set j (some (S.o c))).length := (List.getElem?_eq_some_iff.mp e).1
      exact ⟨.ref p, List.getElem?_set_self (by rw [r.len]; simpa using hl), p, o, rfl, h1, h2, h3⟩
    · obtain ⟨w, ew, q⟩ := r.at_ j s z
      exact ⟨w, by rw [List.getElem?_set_ne (Ne.symm hj)]; exact ew, q⟩
  · rcases key j c1 q e1 e3 with ⟨a, b⟩ | ⟨a, b, d⟩
    · rcases key k c2 q e2 e4 with ⟨a', b'⟩ | ⟨a', b', d'⟩
      · rw [a, a']
      · exact absurd ⟨k, c2, b', by rw [← b]; exact d'⟩ n
    · rcases key k c2 q e2 e4 with ⟨a', b'⟩ | ⟨a', b', d'⟩
      · exact absurd ⟨j, c1, b, by rw [← b']; exact d⟩ n
      · exact r.dis j k c1 c2 q b b' d d'
  · obtain ⟨j, c', e1, e2⟩ := hq
    rcases key j c' q e1 e2 with ⟨_, b⟩ | ⟨_, b, d⟩
    · exact .inr b
    · exact .inl ⟨j, c', b, d⟩
theorem Aft.setS {i : Nat} {v : V} {s : S} (a : Aft K F H σ ρ F' H' σ' ρ') (r : RN K H F' H' v s) (n : ∀ p, v = .ref p → s.own = true → ¬ OwnS σ' ρ' p) : Aft K F H σ ρ F' H' (σ'.set i (some v)) (ρ'.set i (some s)) := by
  cases s with
  | d x => exact a.trans (Rel.setD a.rel r)
  | o c =>
    obtain ⟨p, o, rfl, h1, h2, h3, h4⟩ := r
    obtain ⟨r1, r2⟩ := Rel.setO (i := i) a.rel h2 h3 h4 (n p rfl rfl)
    refine ⟨r1, a.tr, fun q hq => ?_⟩
    rcases r2 q hq with z | z
    · exact a.ow q z
    · rw [z]; exact .inr h1
end
section
variable {X : Cx} {K : PySem.W.Frag} {W : WX} {a b c e : Expr} {es rest : List Expr} {fa fb fc : FE} {f g : FT} {pos : Pos} {vs : List Nat}
def gN (i : Nat) : FG := fun x ρ => some (ρ.set i (some (.d x)))
theorem dg_name {i : Nat} (h : PG X e (gName i)) (hi : i ∈ vs := by decide) : DG X K vs e (gN i) := ⟨h.weak fun v σ H Q ⟨F, ρ, x, r, rv, q⟩ =>
  q _ F H (Rel.setD r rv) ⟨List.length_set, fun j hj => List.getElem?_set_ne (fun z => hj (by rw [← z]; exact hi))⟩ (Same.refl _)⟩
def gsNil : FGs := fun ds ρ => match ds with
  | [] => some ρ
  | _ => none
def gsCons (g : FG) (gs : FGs) : FGs := fun ds ρ => match ds with
  | d :: r => (g d ρ).bind fun ρ1 => gs r ρ1
  | [] => none
def gT (n : Nat) (gs : FGs) : FG := fun x ρ => match x with
  | .tup ds => if ds.length = n then gs ds ρ else none
  | _ => none
theorem dgs_nil : DGs X K vs [] gsNil := ⟨pgs_nil.weak fun us σ H Q ⟨F, ρ, ds, r, ru, q⟩ => by
  cases ru with
  | nil => exact ⟨rfl, q σ F H (Aft.refl r) ⟨rfl, fun _ _ => rfl⟩ (Same.refl _)⟩
  | cons _ _ => exact q.elim⟩
theorem dgs_cons {t : FG} {u : FGs} (h1 : DG X K vs e t) (h2 : DGs X K vs es u) (hp : ∀ t u, PG X e t → PGs X es u → PGs X (e :: es) (gCons t u) := by exact fun _ _ h1 h2 => pgs_cons h1 h2) : DGs X K vs (e :: es) (gsCons t u) := ⟨(hp _ _ h1.pg h2.pg).weak fun us σ H Q ⟨F, ρ, ds, r, ru, q⟩ => by
  cases ru with
  | nil => exact q.elim
  | @cons v vr d dr rv rr =>
    refine ⟨v, vr, rfl, F, ρ, d, r, rv, ?_⟩
    have q : PostG K vs F H σ ρ ((t d ρ).bind fun ρ1 => u dr ρ1) Q := q
    cases e1 : t d ρ with
    | none => rw [e1] at q; exact q
    | some ρ1 =>
      rw [e1] at q
      intro σ1 F1 H1 A1 s1 m1
      refine ⟨F1, ρ1, dr, A1.rel, RpA.mono m1 rr, ?_⟩
      have q : PostG K vs F H σ ρ (u dr ρ1) Q := q
      cases e2 : u dr ρ1 with
      | none => rw [e2] at q; exact q
      | some ρ2 =>
        rw [e2] at q
        exact fun σ2 F2 H2 A2 s2 m2 => q σ2 F2 H2 (A1.trans A2) ⟨s2.1.trans s1.1, fun j hj => (s2.2 j hj).trans (s1.2 j hj)⟩ (m1.trans m2)⟩
theorem dg_T {u : FGs} {k n : Nat} (h : DGs X K vs es u) (hc : X.calm = true := by rfl) (hn : (assignEach es X.env).length = n := by rfl) (hst : (assignEach es X.env).findIdx? (·.1) = none := by rfl) (hK : X.K = K := by rfl) : DG X K vs (.Tuple es k pos) (gT n u) :=
  ⟨(pg_T K h.pg hc hn hst hK).weak fun v σ H Q ⟨F, ρ, x, r, rv, q⟩ => by
    cases x with
    | tup ds =>
      obtain ⟨a, xs, rfl, h1, h2⟩ := rv.tup_inv
      have q : PostG K vs F H σ ρ (if ds.length = n then u ds ρ else none) Q := q
      by_cases hl : ds.length = n
      · rw [if_pos hl] at q
        exact ⟨a, xs, rfl, sqT_of (r.sub _ _ h1), by rw [h2.len]; exact hl, F, ρ, ds, r, h2, q⟩
      · rw [if_neg hl] at q; exact q.elim
    | _ => exact q.elim⟩
/-! statements -/
inductive Flow where
  | nx (ρ : Sl) | rt (s : S) (ρ : Sl) | bk (ρ : Sl) | ct (ρ : Sl)
abbrev FS := Sl → Rs Flow
def PostS (K : PySem.W.Frag) (W : WX) (F H : Hp) (σ : L2.St) (ρ : Sl) (r : Rs Flow) (D : Ends) : Prop := match r with
  | .ok (.nx ρ') => ∀ σ' F' H', Aft K F H σ ρ F' H' σ' ρ' → D.nx σ' H'
  | .ok (.bk ρ') => ∀ σ' F' H', Aft K F H σ ρ F' H' σ' ρ' → D.bk σ' H'
  | .ok (.ct ρ') => ∀ σ' F' H', Aft K F H σ ρ F' H' σ' ρ' → D.ct σ' H'
  | .ok (.rt s ρ') => ∀ v σ' F' H', Aft K F H σ ρ F' H' σ' ρ' → RN K H F' H' v s → (∀ p, v = .ref p → s.own = true → ¬ OwnS σ' ρ' p) → D.rt v H'
  | .er e ρ' => ∀ d σ' F' H', Aft K F H σ ρ F' H' σ' ρ' → RE H' d e → W (.ref (He.ga K e.c)) d σ' H'
  | .no => False
def LS (K : PySem.W.Frag) (W : WX) (f : FS) : TS := fun D σ H => ∃ F ρ, Rel K F H σ ρ ∧ PostS K W F H σ ρ (f ρ) D
structure DS (X : Cx) (K : PySem.W.Frag) (W : WX) (st : Stmt) (f : FS) : Prop where
  ps : PS X st (LS K W f)
structure DSs (X : Cx) (K : PySem.W.Frag) (W : WX) (st : List Stmt) (f : FS) : Prop where
  ps : PSs X st (LS K W f)
theorem RN.dom {H0 H F' H' : Hp} {v : V} {s : S} (h : RN K H F' H' v s) (d : ∀ p, H p = none → H0 p = none) : RN K H0 F' H' v s := by
  cases s with
  | d x => exact h
  | o c => obtain ⟨p, o, e, h1, h2⟩ := h; exact ⟨p, o, e, d p h1, h2⟩
theorem PostS.shift {F H F1 H1 : Hp} {σ σ1 : L2.St} {ρ ρ1 : Sl} {r : Rs Flow} {D : Ends} (A : Aft K F H σ ρ F1 H1 σ1 ρ1) (h : PostS K W F H σ ρ r D) : PostS K W F1 H1 σ1 ρ1 r D := by
  cases r with
  | no => exact h
  | er e ρ' => exact fun d σ' F' H' B => h d σ' F' H' (A.trans B)
  | ok x =>
    cases x with
    | nx ρ' => exact fun σ' F' H' B => h σ' F' H' (A.trans B)
    | bk ρ' => exact fun σ' F' H' B => h σ' F' H' (A.trans B)
    | ct ρ' => exact fun σ' F' H' B => h σ' F' H' (A.trans B)
    | rt s ρ' => exact fun v σ' F' H' B rn => h v σ' F' H' (A.trans B) (rn.dom A.tr.dom)
/-- an expression, then a statement's rest -/
theorem PostS.bind {α : Type} {F H : Hp} {σ : L2.St} {ρ : Sl} {r : Rs (α × Sl)} {k : α × Sl → Rs Flow} {D : Ends} (h : PostS K W F H σ ρ (r >>= k) D) : Post K W F H σ ρ r fun x ρ1 F1 H1 => PostS K W F1 H1 σ ρ1 (k (x, ρ1)) D := by
  cases r with
  | no => exact h
  | er e ρ' => exact fun d F' H' A => h d σ F' H' A
  | ok a => exact fun F' H' A => PostS.shift A h
def sNx : FS := fun ρ => .ok (.nx ρ)
def sSeq (f g : FS) : FS := fun ρ => match f ρ with
  | .ok (.nx ρ') => g ρ'
  | r => r
theorem dss_nil : DSs X K W [] sNx := ⟨pss_nil.weak fun D σ H ⟨F, ρ, r, q⟩ => q σ F H (Aft.refl r)⟩
theorem dss_one {st : Stmt} {f : FS} (h : DS X K W st f) : DSs X K W [st] f := ⟨pss_one h.ps⟩
theorem dss_cons {st : Stmt} {sts : List Stmt} {f g : FS} (h1 : DS X K W st f) (h2 : DSs X K W sts g) : DSs X K W (st :: sts) (sSeq f g) := ⟨(pss_cons h1.ps h2.ps).weak fun D σ H ⟨F, ρ, r, q⟩ => ⟨F, ρ, r, by
  unfold sSeq at q
  cases e : f ρ with
  | no => rw [e] at q; exact q
  | er x y => rw [e] at q; exact q
  | ok x =>
    rw [e] at q
    cases x with
    | nx ρ1 => exact fun σ1 F1 H1 A => ⟨F1, ρ1, A.rel, PostS.shift A q⟩
    | bk ρ1 => exact q
    | ct ρ1 => exact q
    | rt s ρ1 => exact q⟩⟩
def sBk : FS := fun ρ => .ok (.bk ρ)
def sCt : FS := fun ρ => .ok (.ct ρ)
theorem ds_pass : DS X K W (.Pass pos) sNx := ⟨ps_pass.weak fun D σ H ⟨F, ρ, r, q⟩ => q σ F H (Aft.refl r)⟩
theorem ds_break : DS X K W (.Break pos) sBk := ⟨ps_break.weak fun D σ H ⟨F, ρ, r, q⟩ => q σ F H (Aft.refl r)⟩
theorem ds_continue : DS X K W (.Continue pos) sCt := ⟨ps_continue.weak fun D σ H ⟨F, ρ, r, q⟩ => q σ F H (Aft.refl r)⟩
def sRet (fa : FE) : FS := fun ρ => fa ρ >>= fun p => .ok (.rt (.d p.1) p.2)
def sRetN (f : FN) : FS := fun ρ => f ρ >>= fun p => .ok (.rt p.1 p.2)
theorem ds_ret (h : DE X K W e fa) : DS X K W (.Return (some e) pos) (sRet fa) := ⟨(ps_ret h.pe).weak fun D σ H ⟨F, ρ, r, q⟩ => ⟨F, ρ, r, (PostS.bind q).mono fun x ρ1 F1 H1 A1 q1 v rv => q1 v σ F1 H1 (Aft.refl A1.rel) rv (fun _ _ z => nomatch z)⟩⟩
theorem ds_retO {f : FN} (h : DN X K W e f) : DS X K W (.Return (some e) pos) (sRetN f) := ⟨(ps_ret h.pe).weak fun D σ H ⟨F, ρ, r, q⟩ => ⟨F, ρ, r, by
  have q : PostS K W F H σ ρ (f ρ >>= fun p => .ok (.rt p.1 p.2)) D := q
  cases e1 : f ρ with
  | no => rw [e1] at q; exact q
  | er x y => rw [e1] at q; exact fun d F' H' A => q d σ F' H' A
  | ok x => rw [e1] at q; exact fun F' H' A v rn n => q v σ F' H' A rn n⟩⟩
theorem ds_retE : DS X K W (.Return none pos) (fun ρ => .ok (.rt (.d .non) ρ)) := ⟨ps_retN.weak fun D σ H ⟨F, ρ, r, q⟩ => q .non σ F H (Aft.refl r) .non (fun _ _ z => nomatch z)⟩
def sExpr (fa : FE) : FS := fun ρ => fa ρ >>= fun p => .ok (.nx p.2)
theorem ds_expr (h : DE X K W e fa) (hs : swapsWith e none pos.line X.env = pure false := by rfl) : DS X K W (.Expr e pos) (sExpr fa) := ⟨(ps_expr h.pe hs).weak fun D σ H ⟨F, ρ, r, q⟩ => ⟨F, ρ, r, (PostS.bind q).mono fun x ρ1 F1 H1 A1 q1 v rv => q1 σ F1 H1 (Aft.refl A1.rel)⟩⟩
def sIf (c : FT) (f g : FS) : FS := fun ρ => c ρ >>= fun p => if p.1 = true then f p.2 else g p.2
theorem ds_if {c : Expr} {sa sb : List Stmt} {fc : FT} {f g : FS} (hc : DT X K W c fc) (ha : DSs X K W sa f) (hb : DSs X K W sb g) : DS X K W (.If c sa sb pos) (sIf fc f g) :=
  ⟨(ps_if hc.pt ha.ps hb.ps).weak fun D σ H ⟨F, ρ, r, q⟩ => ⟨F, ρ, r, (PostS.bind q).mono fun x ρ1 F1 H1 A1 q1 => by
    dsimp only at q1 ⊢
    split
    · rename_i hx
      rw [if_pos hx] at q1
      exact ⟨F1, ρ1, A1.rel, q1⟩
    · rename_i hx
      rw [if_neg hx] at q1
      exact ⟨F1, ρ1, A1.rel, q1⟩⟩⟩
/-! assignments -/
def sSet (i : Nat) (fa : FE) : FS := fun ρ => fa ρ >>= fun p => .ok (.nx (p.2.set i (some (.d p.1))))
def sSetN (i : Nat) (f : FN) : FS := fun ρ => f ρ >>= fun p => .ok (.nx (p.2.set i (some p.1)))
theorem ls_set {i : Nat} {D : Ends} {σ : L2.St} {H : Hp} (h : LS K W (sSet i fa) D σ H) : LE K W fa σ H fun x H1 => D.nx (σ.set i (some x)) H1 := by
  obtain ⟨F, ρ, r, q⟩ := h
  exact ⟨F, ρ, r, (PostS.bind q).mono fun x ρ1 F1 H1 A1 q1 v rv => q1 _ F1 H1 (Rel.setD A1.rel rv)⟩
theorem ls_setN {i : Nat} {f : FN} {D : Ends} {σ : L2.St} {H : Hp} (h : LS K W (sSetN i f) D σ H) : LN K W f σ H fun x H1 => D.nx (σ.set i (some x)) H1 := by
  obtain ⟨F, ρ, r, q⟩ := h
  refine ⟨F, ρ, r, ?_⟩
  have q : PostS K W F H σ ρ (f ρ >>= fun p => .ok (.nx (p.2.set i (some p.1)))) D := q
  cases e1 : f ρ with
  | no => rw [e1] at q; exact q
  | er x y => rw [e1] at q; exact fun d F' H' A => q d σ F' H' A
  | ok x => rw [e1] at q; exact fun F' H' A v rn n => q _ F' H' (A.setS rn n)
theorem ds_set {i : Nat} {st : Stmt} (h : DE X K W e fa) (hp : PE X e (LE K W fa) → PS X st (tAsg (LE K W fa) (gName i))) : DS X K W st (sSet i fa) := ⟨(hp h.pe).weak fun D σ H q => ls_set q⟩
theorem ds_setN {i : Nat} {f : FN} {st : Stmt} (h : DN X K W e f) (hp : PE X e (LN K W f) → PS X st (tAsg (LN K W f) (gName i))) : DS X K W st (sSetN i f) := ⟨(hp h.pe).weak fun D σ H q => ls_setN q⟩
/-- a target that takes the value apart -/
def sOf : Option Sl → Rs Flow
  | some ρ => .ok (.nx ρ)
  | none => .no
def sAsg (g : FG) (fa : FE) : FS := fun ρ => fa ρ >>= fun p => sOf (g p.1 p.2)
theorem ds_asg {tg : Expr} {g : FG} {st : Stmt} (h : DE X K W e fa) (hg : DG X K vs tg g) (hp : PE X e (LE K W fa) → PG X tg (LG K vs g) → PS X st (tAsg (LE K W fa) (LG K vs g))) : DS X K W st (sAsg g fa) := ⟨(hp h.pe hg.pg).weak fun D σ H ⟨F, ρ, r, q⟩ =>
  ⟨F, ρ, r, (PostS.bind q).mono fun x ρ1 F1 H1 A1 q1 v rv => ⟨F1, ρ1, x, A1.rel, rv, by
    dsimp only at q1
    cases e1 : g x ρ1 with
    | none => rw [e1] at q1; exact q1
    | some ρ2 => rw [e1] at q1; exact fun σ' F' H' A _ _ => q1 σ' F' H' A⟩⟩⟩
end
end RL

namespace RL
open PySem PySem.Spec PyProof.Rows L2
/-! what is walked -/
abbrev FI := Sl → Rs (List D × Sl)
def YF (K : PySem.W.Frag) (F : Hp) (items : List D) : Nat → Hp → V → Hp → Prop := fun i H x H' => ∃ d, items[i]? = some d ∧ ((H' = H ∧ Rp K F x d) ∨ ∃ T xs ds, x = .ref T ∧ H T = none ∧ H' = upd H T (.tup xs) ∧ d = .tup ds ∧ RpA K F xs ds)
abbrev WalkF (K : PySem.W.Frag) (F : Hp) (J : It) (items : List D) : Prop := Walk J items.length (fun H => Same F H) (YF K F items)
def LI (K : PySem.W.Frag) (W : WX) (f : FI) : TI := fun σ H R => ∃ F ρ, Rel K F H σ ρ ∧ Post K W F H σ ρ (f ρ) fun items _ F' H' => ∀ J, WalkF K F' J items → R J H'
structure DI (X : Cx) (K : PySem.W.Frag) (W : WX) (tg e : Expr) (f : FI) : Prop where
  pi : PI X tg e (LI K W f)
theorem _root_.L2.PI.weak {X : Cx} {tg e : Expr} {t t' : TI} (h : PI X tg e t) (w : ∀ σ H Q, t' σ H Q → t σ H Q) : PI X tg e t' := by
  refine ⟨?_⟩
  intros
  apply h.run <;> first | assumption | (apply w; assumption)
/-- the item has come -/
theorem YF.take {K : PySem.W.Frag} {F F1 H H' : Hp} {σ : L2.St} {ρ : Sl} {items : List D} {i : Nat} {x : V} (y : YF K F items i H x H') (s : Same F F1) (r : Rel K F1 H σ ρ) : ∃ d F2, items[i]? = some d ∧ Rp K F2 x d ∧ Aft K F1 H σ ρ F2 H' σ ρ := by
  obtain ⟨d, h1, ⟨rfl, h2⟩ | ⟨T, xs, ds, rfl, h2, rfl, rfl, h3⟩⟩ := y
  · exact ⟨d, F1, h1, Rp.mono s h2, Aft.refl r⟩
  · exact ⟨_, _, h1, .tup upd_same (RpA.mono (s.trans (Same.new (none_of r.sub h2))) h3), Aft.step r (.new r.sub h2) (Same.upd2 r.sub h2)⟩
section
variable {K : PySem.W.Frag} {F : Hp} {a b : Addr}
theorem wf_tup {xs : List V} {ds : List D} (h : F a = some (.tup xs)) (r : RpA K F xs ds) : WalkF K F (Itt K a) ds := by
  have hl := r.len
  refine ⟨fun i H hi s => ⟨xs, xs[i]'(by omega), sqT_of (s _ _ h), List.getElem?_eq_getElem (by omega)⟩, fun H s => ⟨xs, sqT_of (s _ _ h), by omega⟩, fun i H x H' hi s y => ?_⟩
  obtain ⟨d, e, q⟩ := r.get (y.2 xs (sqT_of (s _ _ h)))
  exact ⟨d, e, .inl ⟨y.1, q⟩⟩
theorem wf_lst {xs : List V} {ds : List D} (h : F a = some (.lst xs)) (r : RpA K F xs ds) : WalkF K F (Itl K a) ds := by
  have hl := r.len
  refine ⟨fun i H hi s => ⟨xs, xs[i]'(by omega), sqL_of (s _ _ h), List.getElem?_eq_getElem (by omega)⟩, fun H s => ⟨xs, sqL_of (s _ _ h), by omega⟩, fun i H x H' hi s y => ?_⟩
  obtain ⟨d, e, q⟩ := r.get (y.2 xs (sqL_of (s _ _ h)))
  exact ⟨d, e, .inl ⟨y.1, q⟩⟩
def strD (z : Str) : List D := z.cps.toList.map fun c => .str ⟨#[c]⟩
theorem wf_str {z : Str} : WalkF K F (Its z) (strD z) := by
  have hl : (strD z).length = z.cps.size := by simp [strD]
  refine ⟨fun i H hi _ => walk_str.goes i H (by omega) trivial, fun H _ => by rw [hl]; exact walk_str.stops H trivial, fun i H x H' hi _ y => ?_⟩
  obtain ⟨e, c, h1, h2⟩ := walk_str.yields i H x H' (by omega) trivial y
  exact ⟨.str ⟨#[c]⟩, by simp [strD, h1], .inl ⟨e, by rw [h2]; exact .str _⟩⟩
def rangeD (lo : Int) (n : Nat) : List D := (List.range n).map fun i => .int (lo + (i : Nat))
theorem wf_range {lo : Int} {n : Nat} : WalkF K F (Itr lo n) (rangeD lo n) := by
  have hl : (rangeD lo n).length = n := by simp [rangeD]
  refine ⟨fun i H hi _ => by rw [hl] at hi; exact hi, fun H _ => by rw [hl]; exact Nat.le_refl _, fun i H x H' hi _ y => ?_⟩
  obtain ⟨rfl, rfl⟩ := y
  rw [hl] at hi
  exact ⟨.int (lo + (i : Nat)), by simp [rangeD, hi], .inl ⟨rfl, .int _⟩⟩
def enumD (ds : List D) : List D := ((List.range ds.length).zip ds).map fun p => .tup [.int (p.1 : Nat), p.2]
theorem enumD_get {ds : List D} {i : Nat} {d : D} (h : ds[i]? = some d) : (enumD ds)[i]? = some (.tup [.int (i : Nat), d]) := by
  have hi := (List.getElem?_eq_some_iff.mp h).1
  have e : ds[i] = d := by
    rw [List.getElem?_eq_getElem hi] at h
    exact Option.some.inj h
  simp [enumD, List.getElem?_zip_eq_some, h, hi, e]
theorem sk_of {k : SK} {F H : Hp} {a : Addr} {xs : List V} (s : Same F H) (h : F a = some (match k with | .l => .lst xs | .t => .tup xs)) : k.sq K H a xs := by
  cases k with
  | l => exact sqL_of (s _ _ h)
  | t => exact sqT_of (s _ _ h)
theorem wf_enum {k : SK} {xs : List V} {ds : List D} (h : F a = some (match k with | .l => .lst xs | .t => .tup xs)) (r : RpA K F xs ds) : WalkF K F (ItE K k a) (enumD ds) := by
  have hl := r.len
  have he : (enumD ds).length = ds.length := by simp [enumD]
  refine ⟨fun i H hi s => ⟨xs, xs[i]'(by omega), sk_of s h, List.getElem?_eq_getElem (by omega)⟩, fun H s => ⟨xs, sk_of s h, by omega⟩, fun i H x H' hi s y => ?_⟩
  obtain ⟨T, v, rfl, h2, rfl, h4⟩ := y
  obtain ⟨d, e, q⟩ := r.get (h4 xs (sk_of s h))
  exact ⟨_, enumD_get e, .inr ⟨T, _, _, rfl, h2, rfl, rfl, .cons (.int _) (.cons q .nil)⟩⟩
def zipD (ds es : List D) : List D := (ds.zip es).map fun p => .tup [p.1, p.2]
theorem zipD_get {ds es : List D} {i : Nat} {d e : D} (h : ds[i]? = some d) (h' : es[i]? = some e) : (zipD ds es)[i]? = some (.tup [d, e]) := by
  simp [zipD, List.getElem?_zip_eq_some, h, h']
theorem wf_zip {k1 k2 : SK} {xs ys : List V} {ds es : List D} (h : F a = some (match k1 with | .l => .lst xs | .t => .tup xs)) (r : RpA K F xs ds) (h' : F b = some (match k2 with | .l => .lst ys | .t => .tup ys)) (r' : RpA K F ys es) : WalkF K F (ItZ K k1 k2 a b) (zipD ds es) := by
  have hl := r.len
  have hl' := r'.len
  have he : (zipD ds es).length = min xs.length ys.length := by simp [zipD, hl, hl']
  refine ⟨fun i H hi s => ⟨xs, ys, xs[i]'(by omega), ys[i]'(by omega), sk_of s h, sk_of s h', List.getElem?_eq_getElem _, List.getElem?_eq_getElem _⟩, fun H s => ⟨xs, ys, sk_of s h, sk_of s h', he.symm⟩, fun i H x H' hi s y => ?_⟩
  obtain ⟨T, u, v, rfl, h2, rfl, h3, h4⟩ := y
  obtain ⟨d, e, q⟩ := r.get (h3 xs (sk_of s h))
  obtain ⟨d', e', q'⟩ := r'.get (h4 ys (sk_of s h'))
  exact ⟨_, zipD_get e e', .inr ⟨T, _, _, rfl, h2, rfl, rfl, .cons q (.cons q' .nil)⟩⟩
end
section
variable {X : Cx} {K : PySem.W.Frag} {W : WX} {tg e : Expr} {es : List Expr} {fa : FE} {fr : FA} {pos : Pos}
def iSeq (K : PySem.W.Frag) (tl : TE) : TI := fun σ H R => tl σ H fun x H1 => (∃ a, x = .ref a ∧ (∃ xs, SqL K H1 a xs) ∧ R (Itl K a) H1) ∨ (∃ a, x = .ref a ∧ (∃ xs, SqT K H1 a xs) ∧ R (Itt K a) H1) ∨ ∃ z, x = .str z ∧ R (Its z) H1
theorem pi_seq {l : Expr} {tl : TE} (hl : PE X l tl) : PI X tg l (iSeq X.K tl) := by
  refine ⟨fun pins s σ H R I h => ?_⟩
  refine thn (hl.run pins s σ H _ I h) fun v s1 ⟨x, H1, I1, r1, q1⟩ => ?_
  rcases q1 with ⟨a, e, ⟨xs, hq⟩, q⟩ | ⟨a, e, ⟨xs, hq⟩, q⟩ | ⟨x, ex, q⟩
  · subst e
    cases r1
    obtain ⟨its, rv, p, hz⟩ := I1.list hq
    refine wpAny_pyIter_list p.isList ?_
    refine ⟨s1.heap.objs.size, [s1.heap.objs.size], _, _, H1, rfl, I1.kept (t' := s1.toks) fun b o e => Heap.get?_push_of_some _ e, turn_list a _, ⟨_, Heap.get?_push_size _ rfl, rfl, rfl⟩, fun b hb => ?_, q⟩
    have e : b = s1.heap.objs.size := by simpa using hb
    subst e
    exact I1.fpOk (Nat.le_refl _) (I1.hok.fresh (Nat.le_refl _))
  · subst e
    cases r1
    obtain ⟨its, rv, p, hz⟩ := I1.tuple hq
    refine wpAny_pyIter_tuple (show s1.heap.IsTuple a its.toArray from p) ?_
    refine ⟨s1.heap.objs.size, [s1.heap.objs.size], _, _, H1, rfl, I1.kept (t' := s1.toks) fun b o e => Heap.get?_push_of_some _ e, turn_tuple a _, ⟨_, Heap.get?_push_size _ rfl, rfl, rfl⟩, fun b hb => ?_, q⟩
    have e : b = s1.heap.objs.size := by simpa using hb
    subst e
    exact I1.fpOk (Nat.le_refl _) (I1.hok.fresh (Nat.le_refl _))
  · subst ex
    obtain ⟨t, rfl⟩ := r1
    cases ha : x.cps.all (· < 128)
    · exact wpAny_pyIter_wide ha (pi_one (tk := s1.toks) I1 _ (turn_str _ x t "str_iterator" (.inr rfl)) ⟨_, Heap.get?_push_size _ rfl, rfl, rfl⟩ q)
    · exact wpAny_pyIter_ascii ha (pi_one (tk := s1.toks) I1 _ (turn_str _ x t "str_ascii_iterator" (.inl rfl)) ⟨_, Heap.get?_push_size _ rfl, rfl, rfl⟩ q)
/-- a tuple, a list, a text -/
def seqD : D → Option (List D)
  | .tup ds => some ds
  | .lst ds => some ds
  | .str z => some (strD z)
  | _ => none
def jSeq (fa : FE) : FI := fun ρ => fa ρ >>= fun p => rsO p.2 (seqD p.1)
theorem di_seq (h : DE X K W e fa) (hK : X.K = K := by rfl) : DI X K W tg e (jSeq fa) := ⟨by
  subst hK
  refine (pi_seq h.pe).weak fun σ H R ⟨F, ρ, r, q⟩ => ⟨F, ρ, r, (Post.bind q).mono fun x ρ1 F1 H1 A1 q1 v rv => ?_⟩
  have sm := A1.rel.sub
  cases x with
  | tup ds =>
    obtain ⟨a, xs, rfl, h1, h2⟩ := rv.tup_inv
    exact .inr (.inl ⟨a, rfl, ⟨xs, sqT_of (sm _ _ h1)⟩, q1 F1 H1 (Aft.refl A1.rel) _ (wf_tup h1 h2)⟩)
  | lst ds =>
    obtain ⟨a, xs, rfl, h1, h2⟩ := rv.lst_inv
    exact .inl ⟨a, rfl, ⟨xs, sqL_of (sm _ _ h1)⟩, q1 F1 H1 (Aft.refl A1.rel) _ (wf_lst h1 h2)⟩
  | str z => exact .inr (.inr ⟨z, rv.str_inv, q1 F1 H1 (Aft.refl A1.rel) _ wf_str⟩)
  | _ => exact q1.elim⟩
noncomputable def rg1 : List D → Option (List D)
  | [.int j] => @ite _ (-(2 ^ 62) ≤ j ∧ j < 2 ^ 62) (Classical.propDecidable _) (some (rangeD 0 j.toNat)) none
  | _ => none
noncomputable def rg2 : List D → Option (List D)
  | [.int i, .int j] => @ite _ (-(2 ^ 62) ≤ i ∧ i < 2 ^ 62 ∧ -(2 ^ 62) ≤ j ∧ j < 2 ^ 62) (Classical.propDecidable _) (some (rangeD i (j - i).toNat)) none
  | _ => none
def jArg (g : List D → Option (List D)) (fr : FA) : FI := fun ρ => fr ρ >>= fun p => rsO p.2 (g p.1)
theorem RpA.one {F : Hp} {vs : List V} {d : D} (h : RpA K F vs [d]) : ∃ u, vs = [u] ∧ Rp K F u d := by
  cases h with
  | cons a t => cases t; exact ⟨_, rfl, a⟩
theorem RpA.two {F : Hp} {vs : List V} {d e : D} (h : RpA K F vs [d, e]) : ∃ u v, vs = [u, v] ∧ Rp K F u d ∧ Rp K F v e := by
  cases h with
  | cons a t => cases t with
    | cons b t => cases t; exact ⟨_, _, rfl, a, b⟩
theorem di_range1 {a : Expr} {p pos : Pos} (hg : Gl X "range") (hm : X.mg "range" = none) (ha : DA X K W [a] fr) (hs : starEach [a] X.env = [(false, eval a X.env)] := by rfl) : DI X K W tg (.Call (.Name "range" p) [a] [] pos) (jArg rg1 fr) :=
  ⟨(pi_range1 hg hm ha.pa hs).weak fun σ H R ⟨F, ρ, r, q⟩ => ⟨F, ρ, r, (Post.bind q).mono fun x ρ1 F1 H1 A1 q1 v rv => by
    dsimp only at q1
    unfold rg1 at q1
    split at q1
    · rename_i j
      split at q1
      · rename_i hj
        obtain ⟨u, rfl, ru⟩ := RpA.one rv
        exact ⟨j, by rw [ru.int_inv], hj.1, hj.2, q1 F1 H1 (Aft.refl A1.rel) _ wf_range⟩
      · exact q1.elim
    · exact q1.elim⟩⟩
theorem di_range2 {a b : Expr} {p pos : Pos} (hg : Gl X "range") (hm : X.mg "range" = none) (ha : DA X K W [a, b] fr) (hs : starEach [a, b] X.env = [(false, eval a X.env), (false, eval b X.env)] := by rfl) (hs2 : starEach [b] X.env = [(false, eval b X.env)] := by rfl) : DI X K W tg (.Call (.Name "range" p) [a, b] [] pos) (jArg rg2 fr) :=
  ⟨(pi_range2 hg hm ha.pa hs hs2).weak fun σ H R ⟨F, ρ, r, q⟩ => ⟨F, ρ, r, (Post.bind q).mono fun x ρ1 F1 H1 A1 q1 v rv => by
    dsimp only at q1
    unfold rg2 at q1
    split at q1
    · rename_i i j
      split at q1
      · rename_i hj
        obtain ⟨u, w, rfl, ru, rw'⟩ := RpA.two rv
        exact ⟨i, j, by rw [ru.int_inv, rw'.int_inv], hj, q1 F1 H1 (Aft.refl A1.rel) _ wf_range⟩
      · exact q1.elim
    · exact q1.elim⟩⟩
/-- a row: list or tuple -/
def rowD : D → Option (SK × List D)
  | .tup ds => some (.t, ds)
  | .lst ds => some (.l, ds)
  | _ => none
theorem Rp.row {F : Hp} {v : V} {d : D} {k : SK} {ds : List D} (h : Rp K F v d) (e : rowD d = some (k, ds)) : ∃ a xs, v = .ref a ∧ F a = some (match k with | .l => .lst xs | .t => .tup xs) ∧ RpA K F xs ds := by
  cases h <;> first | cases e | skip
  · exact ⟨_, _, rfl, ‹_›, ‹_›⟩
  · exact ⟨_, _, rfl, ‹_›, ‹_›⟩
def enumG : List D → Option (List D)
  | [d] => (rowD d).map fun r => enumD r.2
  | _ => none
theorem di_enumT {p pos tpos : Pos} {elts : List Expr} {kk : Nat} (hg : Gl X "enumerate") (hm : X.mg "enumerate" = none) (ha : DA X K W [e] fr) (hs : starEach [e] X.env = [(false, eval e X.env)] := by rfl) (hK : X.K = K := by rfl) : DI X K W (.Tuple elts kk tpos) (.Call (.Name "enumerate" p) [e] [] pos) (jArg enumG fr) :=
  ⟨(pi_E K hg hm ha.pa hs hK).weak fun σ H R ⟨F, ρ, r, q⟩ => ⟨F, ρ, r, (Post.bind q).mono fun x ρ1 F1 H1 A1 q1 v rv => by
    dsimp only at q1
    unfold enumG at q1
    split at q1
    · rename_i d
      obtain ⟨u, rfl, ru⟩ := RpA.one rv
      cases er : rowD d with
      | none => rw [er] at q1; exact q1.elim
      | some kd =>
        rw [er] at q1
        obtain ⟨a, xs, rfl, h1, h2⟩ := ru.row er
        exact ⟨a, xs, kd.1, rfl, sk_of A1.rel.sub h1, q1 F1 H1 (Aft.refl A1.rel) _ (wf_enum h1 h2)⟩
    · exact q1.elim⟩⟩
def zipG : List D → Option (List D)
  | [d, e] => (rowD d).bind fun r => (rowD e).map fun q => zipD r.2 q.2
  | _ => none
theorem di_zip {e2 : Expr} {p pos tpos : Pos} {elts : List Expr} {kk : Nat} (hg : Gl X "zip") (hm : X.mg "zip" = none) (ha : DA X K W [e, e2] fr)
    (hs : starEach [e, e2] X.env = (false, eval e X.env) :: starEach [e2] X.env := by rfl) (hpl : (backTo pos (starEach [e2] X.env)).any (·.1) = false := by rfl) (hK : X.K = K := by rfl) : DI X K W (.Tuple elts kk tpos) (.Call (.Name "zip" p) [e, e2] [] pos) (jArg zipG fr) :=
  ⟨(pi_Z K hg hm ha.pa hs hpl hK).weak fun σ H R ⟨F, ρ, r, q⟩ => ⟨F, ρ, r, (Post.bind q).mono fun x ρ1 F1 H1 A1 q1 v rv => by
    dsimp only at q1
    unfold zipG at q1
    split at q1
    · rename_i d e
      obtain ⟨u, w, rfl, ru, rw'⟩ := RpA.two rv
      cases er : rowD d with
      | none => rw [er] at q1; exact q1.elim
      | some kd =>
        rw [er] at q1
        cases er' : rowD e with
        | none => rw [er'] at q1; exact q1.elim
        | some ke =>
          rw [er'] at q1
          obtain ⟨a, xs, rfl, h1, h2⟩ := ru.row er
          obtain ⟨b, ys, rfl, h3, h4⟩ := rw'.row er'
          exact ⟨a, b, xs, ys, kd.1, ke.1, rfl, sk_of A1.rel.sub h1, sk_of A1.rel.sub h3, q1 F1 H1 (Aft.refl A1.rel) _ (wf_zip h1 h2 h3 h4)⟩
    · exact q1.elim⟩⟩
/-! for -/
def forL (g : FG) (fb : FS) : List D → Sl → Rs Flow
  | [], ρ => .ok (.nx ρ)
  | x :: r, ρ => match g x ρ with
    | none => .no
    | some ρ1 => match fb ρ1 with
      | .ok (.nx ρ2) => forL g fb r ρ2
      | .ok (.ct ρ2) => forL g fb r ρ2
      | .ok (.bk ρ2) => .ok (.nx ρ2)
      | r => r
def sFor (fi : FI) (g : FG) (fb : FS) : FS := fun ρ => fi ρ >>= fun p => forL g fb p.1 p.2
theorem ds_for {iter : Expr} {body : List Stmt} {fi : FI} {g : FG} {fb : FS} {vs : List Nat} (hp : PassesOwn (model X.prog X.w) X.A X.env X.xe) (hi : DI X K W tg iter fi) (hg : DG X K vs tg g) (hb : DSs X K W body fb) (hc : X.calm = true := by rfl)
    (hs : ∀ x, foldedSetIterable iter X.env x = pure x := by intro _; rfl) : DS X K W (.For tg iter body [] pos) (sFor fi g fb) := ⟨(ps_for hp hc hi.pi hg.pg hb.ps hs).weak fun D σ H ⟨F, ρ, r, q⟩ => by
  refine ⟨F, ρ, r, (PostS.bind q).mono fun items ρ1 F1 H1 A1 q1 J w => ?_⟩
  dsimp only at q1
  obtain ⟨R0, hR⟩ : ∃ R0, forL g fb items ρ1 = R0 := ⟨_, rfl⟩
  rw [hR] at q1
  refine for_it w (fun i σ' H' => ∃ F' ρ', Aft K F1 H1 σ ρ1 F' H' σ' ρ' ∧ forL g fb (items.drop i) ρ' = R0) ⟨F1, ρ1, Aft.refl A1.rel, hR⟩ (fun i σ' H' _ ⟨F', ρ', A, _⟩ => A.tr.ff.trans A.rel.sub) (fun i x σ' H' H'' hi ⟨F', ρ', A, ef⟩ y => ?_) (fun σ' H' ⟨F', ρ', A, ef⟩ => ?_)
  · obtain ⟨d, F2, ed, rd, A2⟩ := y.take A.tr.ff A.rel
    refine ⟨F2, ρ', d, A2.rel, rd, ?_⟩
    have e1 : items.drop i = d :: items.drop (i + 1) := by
      rw [List.drop_eq_getElem_cons hi]
      congr 1
      rw [List.getElem?_eq_getElem hi] at ed
      exact Option.some.inj ed
    rw [e1] at ef
    unfold forL at ef
    rw [← ef] at q1
    cases eg : g d ρ' with
    | none => rw [eg] at q1; exact q1
    | some ρ2 =>
      rw [eg] at q1 ef
      dsimp only at q1 ef
      intro σ2 F3 H3 A3 _ _
      have A4 := (A.trans A2).trans A3
      refine ⟨F3, ρ2, A3.rel, ?_⟩
      cases eb : fb ρ2 with
      | no => rw [eb] at q1; exact q1
      | er x y => rw [eb] at q1; exact PostS.shift (D := D) A4 q1
      | ok fl =>
        rw [eb] at q1 ef
        cases fl with
        | nx ρ3 => exact fun σ4 F4 H4 A5 => ⟨F4, ρ3, A4.trans A5, ef⟩
        | ct ρ3 => exact fun σ4 F4 H4 A5 => ⟨F4, ρ3, A4.trans A5, ef⟩
        | bk ρ3 => exact fun σ4 F4 H4 A5 => q1 σ4 F4 H4 (A4.trans A5)
        | rt s ρ3 => exact fun v σ4 F4 H4 A5 rn n => q1 v σ4 F4 H4 (A4.trans A5) (rn.dom A4.tr.dom) n
  · rw [List.drop_length] at ef
    rw [← ef] at q1
    exact q1 σ' F' H' A⟩
/-! while -/
def whileN (c : FT) (fb : FS) : Nat → Sl → Rs Flow
  | 0, _ => .no
  | n + 1, ρ => c ρ >>= fun p => if p.1 = true then (match fb p.2 with
      | .ok (.nx ρ2) => whileN c fb n ρ2
      | .ok (.ct ρ2) => whileN c fb n ρ2
      | .ok (.bk ρ2) => .ok (.nx ρ2)
      | r => r) else .ok (.nx p.2)
open Classical in
noncomputable def sWhile (c : FT) (fb : FS) : FS := fun ρ => if h : ∃ n, whileN c fb n ρ ≠ .no then whileN c fb (choose h) ρ else .no
theorem ds_while {c : Expr} {body : List Stmt} {fc : FT} {fb : FS} (hp : PassesOwn (model X.prog X.w) X.A X.env X.xe) (hc : DT X K W c fc) (hb : DSs X K W body fb) : DS X K W (.While c body [] pos) (sWhile fc fb) := ⟨(ps_while hp hc.pt hb.ps).weak fun D σ H ⟨F, ρ, r, q⟩ => by
  unfold sWhile at q
  split at q
  · rename_i hex
    generalize Classical.choose hex = n0 at q
    obtain ⟨R0, hR⟩ : ∃ R0, whileN fc fb n0 ρ = R0 := ⟨_, rfl⟩
    rw [hR] at q
    refine ⟨fun m σ' H' => ∃ F' ρ', Aft K F H σ ρ F' H' σ' ρ' ∧ whileN fc fb m ρ' = R0, ⟨n0, F, ρ, Aft.refl r, hR⟩, ?_⟩
    rintro m σ' H' ⟨F', ρ', A, ef⟩
    rw [← ef] at q
    refine ⟨F', ρ', A.rel, ?_⟩
    cases m with
    | zero => exact q.elim
    | succ n =>
      unfold whileN at q ef
      have q2 := PostS.bind (PostS.shift A q)
      cases ec : fc ρ' with
      | no => rw [ec] at q2; exact q2
      | er x y => rw [ec] at q2; exact q2
      | ok p =>
        obtain ⟨b, ρ1⟩ := p
        rw [ec] at ef q
        intro F1 H1 A1
        have A2 := A.trans A1
        cases b with
        | false => exact q σ' F1 H1 A2
        | true =>
          dsimp only
          rw [if_pos rfl]
          refine ⟨fun σ3 H3 => ∃ F3 ρ3, Aft K F H σ ρ F3 H3 σ3 ρ3 ∧ whileN fc fb n ρ3 = R0, fun σ3 H3 ⟨F3, ρ3, A3, e3⟩ => ⟨n, Nat.lt_succ_self n, F3, ρ3, A3, e3⟩, F1, ρ1, A1.rel, ?_⟩
          have q : PostS K W F H σ ρ (match fb ρ1 with
            | .ok (.nx ρ2) => whileN fc fb n ρ2
            | .ok (.ct ρ2) => whileN fc fb n ρ2
            | .ok (.bk ρ2) => .ok (.nx ρ2)
            | r => r) D := q
          have ef : (match fb ρ1 with
            | .ok (.nx ρ2) => whileN fc fb n ρ2
            | .ok (.ct ρ2) => whileN fc fb n ρ2
            | .ok (.bk ρ2) => .ok (.nx ρ2)
            | r => r) = R0 := ef
          cases eb : fb ρ1 with
          | no => rw [eb] at q; exact q
          | er x y => rw [eb] at q; exact PostS.shift (D := D) A2 q
          | ok fl =>
            rw [eb] at q ef
            cases fl with
            | nx ρ3 => exact fun σ4 F4 H4 A5 => ⟨F4, ρ3, A2.trans A5, ef⟩
            | ct ρ3 => exact fun σ4 F4 H4 A5 => ⟨F4, ρ3, A2.trans A5, ef⟩
            | bk ρ3 => exact fun σ4 F4 H4 A5 => q σ4 F4 H4 (A2.trans A5)
            | rt s ρ3 => exact fun v σ4 F4 H4 A5 rn nn => q v σ4 F4 H4 (A2.trans A5) (rn.dom A2.tr.dom) nn
  · exact q.elim⟩
theorem whileN_mono {c : FT} {fb : FS} : ∀ {n m : Nat} {ρ : Sl}, n ≤ m → whileN c fb n ρ ≠ .no → whileN c fb m ρ = whileN c fb n ρ
  | 0, _, _, _, h => absurd rfl h
  | n + 1, 0, _, h, _ => absurd h (by omega)
  | n + 1, m + 1, ρ, hnm, h => by
    unfold whileN at h ⊢
    cases e : c ρ with
    | no => rfl
    | er x y => rfl
    | ok p =>
      rw [e] at h
      obtain ⟨b, ρ1⟩ := p
      cases b with
      | false => rfl
      | true =>
        simp only [Rs.ok_bind, if_true] at h ⊢
        cases eb : fb ρ1 with
        | no => rfl
        | er x y => rfl
        | ok fl =>
          rw [eb] at h
          cases fl with
          | nx ρ2 => exact whileN_mono (by omega) h
          | ct ρ2 => exact whileN_mono (by omega) h
          | bk ρ2 => rfl
          | rt s ρ2 => rfl
theorem sWhile_of {c : FT} {fb : FS} {ρ : Sl} {n : Nat} {r : Rs Flow} (h : whileN c fb n ρ = r) (hr : r ≠ .no) : sWhile c fb ρ = r := by
  unfold sWhile
  have hx : ∃ n, whileN c fb n ρ ≠ .no := ⟨n, by rw [h]; exact hr⟩
  rw [dif_pos hx]
  have h2 := Classical.choose_spec hx
  generalize Classical.choose hx = m at h2 ⊢
  rw [← h]
  rcases Nat.le_total n m with q | q
  · exact whileN_mono q (by rw [h]; exact hr)
  · exact (whileN_mono q h2).symm
end
end RL

namespace RL
open PySem PySem.Spec PyProof.Rows L2
/-! comprehensions -/
def wipeD (ρ : Sl) : List Nat → Sl
  | [] => ρ
  | v :: vs => (wipeD ρ vs).set v none
section
variable {K : PySem.W.Frag} {F H F' H' : Hp} {σ σ' : L2.St} {ρ ρ' : Sl} {vs : List Nat}
theorem wipeD_len : ∀ vs : List Nat, (wipeD ρ vs).length = ρ.length
  | [] => rfl
  | v :: vs => by unfold wipeD; rw [List.length_set, wipeD_len vs]
theorem wipeD_some {i : Nat} {x : S} : ∀ {vs : List Nat}, (wipeD ρ vs)[i]? = some (some x) → ρ[i]? = some (some x) ∧ i ∉ vs
  | [], h => ⟨h, by simp⟩
  | v :: vs, h => by
    unfold wipeD at h
    rcases get_set_some h with ⟨_, z⟩ | ⟨hj, z⟩
    · cases z
    · obtain ⟨h1, h2⟩ := wipeD_some z
      exact ⟨h1, by simp only [List.mem_cons, not_or]; exact ⟨hj, h2⟩⟩
theorem wipe_keep {i : Nat} : ∀ {vs : List Nat}, i ∉ vs → (wipe σ vs)[i]? = σ[i]?
  | [], _ => rfl
  | v :: vs, h => by
    simp only [List.mem_cons, not_or] at h
    unfold wipe
    rw [List.getElem?_set_ne (fun z => h.1 z.symm)]
    exact wipe_keep h.2
theorem wipe_none {i : Nat} : ∀ {vs : List Nat}, i ∈ vs → i < σ.length → (wipe σ vs)[i]? = some none
  | v :: vs, h, hl => by
    unfold wipe
    by_cases e : v = i
    · subst e
      exact List.getElem?_set_self (by rw [wipe_length]; exact hl)
    · rw [List.getElem?_set_ne e]
      rcases List.mem_cons.mp h with z | z
      · exact absurd z.symm e
      · exact wipe_none z hl
theorem wipe_eq (hl : σ'.length = σ.length) (h : ∀ j, j ∉ vs → σ'[j]? = (wipe σ vs)[j]?) : wipe σ' vs = wipe σ vs := by
  apply List.ext_getElem?
  intro i
  by_cases hi : i ∈ vs
  · by_cases hl2 : i < σ.length
    · rw [wipe_none hi hl2, wipe_none hi (by omega)]
    · rw [List.getElem?_eq_none (by rw [wipe_length]; omega), List.getElem?_eq_none (by rw [wipe_length]; omega)]
  · rw [wipe_keep hi, h i hi]
theorem OwnS.unwipe {p : Addr} (h : OwnS (wipe σ vs) (wipeD ρ vs) p) : OwnS σ ρ p := by
  obtain ⟨i, c, h1, h2⟩ := h
  obtain ⟨a, b⟩ := wipeD_some h1
  exact ⟨i, c, a, (wipe_some h2).1⟩
theorem Rel.wipe (r : Rel K F H σ ρ) : Rel K F H (wipe σ vs) (wipeD ρ vs) := by
  refine ⟨r.sub, fun i s e => ?_, fun i j c c' p e1 e2 e3 e4 => ?_, by rw [wipe_length, wipeD_len]; exact r.len⟩
  · obtain ⟨a, b⟩ := wipeD_some e
    obtain ⟨v, ev, q⟩ := r.at_ i s a
    exact ⟨v, by rw [wipe_keep b]; exact ev, q⟩
  · exact r.dis i j c c' p (wipeD_some e1).1 (wipeD_some e2).1 (wipe_some e3).1 (wipe_some e4).1
theorem Aft.wipe (a : Aft K F H σ ρ F' H' σ' ρ') : Aft K F H σ ρ F' H' (wipe σ' vs) (wipeD ρ' vs) := ⟨a.rel.wipe, a.tr, fun p h => a.ow p h.unwipe⟩
/-- behind the comprehension -/
theorem Aft.unwipe (a : Aft K F H (L2.wipe σ vs) (wipeD ρ vs) F' H' (L2.wipe σ vs) ρ') (hl : σ.length = ρ.length) : Aft K F H σ ρ F' H' σ ρ' := by
  have at_ : ∀ (i : Nat) (s : S), ρ'[i]? = some (some s) → ∃ v, σ[i]? = some (some v) ∧ (L2.wipe σ vs)[i]? = some (some v) ∧ RS K F' H' v s := fun i s e => by
    obtain ⟨v, ev, q⟩ := a.rel.at_ i s e
    exact ⟨v, (wipe_some ev).1, ev, q⟩
  have ow : ∀ p, OwnS σ ρ' p → OwnS (L2.wipe σ vs) ρ' p := fun p ⟨i, c, h1, h2⟩ => by
    obtain ⟨v, e1, e2, _⟩ := at_ i _ h1
    rw [h2] at e1
    cases e1
    exact ⟨i, c, h1, e2⟩
  refine ⟨⟨a.rel.sub, fun i s e => let ⟨v, h1, _, h3⟩ := at_ i s e; ⟨v, h1, h3⟩, fun i j c c' p e1 e2 e3 e4 => ?_, ?_⟩, ⟨a.tr.ff, a.tr.dom, fun p o h1 h2 h3 => a.tr.keep p o h1 h2 fun z => h3 z.unwipe⟩, fun p h => ?_⟩
  · obtain ⟨v, x1, x2, _⟩ := at_ i _ e1
    obtain ⟨w, y1, y2, _⟩ := at_ j _ e2
    rw [e3] at x1
    rw [e4] at y1
    cases x1
    cases y1
    exact a.rel.dis i j c c' p e1 e2 x2 y2
  · have := a.rel.len
    rw [wipe_length] at this
    exact this
  · rcases a.ow p (ow p h) with z | z
    · exact .inl z.unwipe
    · exact .inr z
/-- a thing that is no slot's is changed -/
theorem Aft.mutFree {p : Addr} {o : HO} (a : Aft K F H σ ρ F' H' σ' ρ') (h : H p = none) (hF : F' p = none) (hn : ¬ OwnS σ' ρ' p) : Aft K F H σ ρ F' (upd H' p o) σ' ρ' := by
  refine ⟨⟨fun b x e => by rw [upd_ne (ne_of_none e hF)]; exact a.rel.sub b x e, fun i s e => ?_, a.rel.dis, a.rel.len⟩, ⟨a.tr.ff, fun q e => ?_, fun q x e1 e2 e3 => ?_⟩, a.ow⟩
  · obtain ⟨v, ev, q⟩ := a.rel.at_ i s e
    refine ⟨v, ev, ?_⟩
    cases s with
    | d x => exact q
    | o c =>
      obtain ⟨p', o', rfl, g1, g2, g3⟩ := q
      exact ⟨p', o', rfl, g1, by rw [upd_ne (fun z => hn ⟨i, c, e, by rw [ev, z]⟩)]; exact g2, g3⟩
  · by_cases hb : q = p
    · subst hb; exact h
    · rw [upd_ne hb] at e; exact a.tr.dom q e
  · rw [upd_ne (ne_of_none e1 h)]
    exact a.tr.keep q x e1 e2 e3
/-- such a thing stays -/
theorem Aft.stays {p : Addr} {o : HO} (a : Aft K F H σ ρ F' H' σ' ρ') (h : H p = some o) (hF : F p = none) (hn : ¬ OwnS σ ρ p) : H' p = some o ∧ F' p = none ∧ ¬ OwnS σ' ρ' p := by
  obtain ⟨x, y⟩ := a.tr.keep p o h hF hn
  refine ⟨x, y, fun z => ?_⟩
  rcases a.ow p z with w | w
  · exact hn w
  · rw [h] at w; cases w
end
def W0 : WX := fun _ _ _ _ => False
def lcL (g : FG) (ft : FT) (fe : FE) (vs : List Nat) : List D → Sl → List D → Rs (List D × Sl)
  | [], ρ, acc => .ok (acc, ρ)
  | x :: r, ρ, acc => match g x ρ with
    | none => .no
    | some ρ1 => match ft ρ1 with
      | .ok (b, ρ2) => if b = true then (match fe ρ2 with
          | .ok (y, ρ3) => if acc.length < sizeLine then lcL g ft fe vs r (wipeD ρ3 vs) (acc ++ [y]) else .no
          | _ => .no) else lcL g ft fe vs r (wipeD ρ2 vs) acc
      | _ => .no
def dLc (fi : FI) (g : FG) (ft : FT) (fe : FE) (vs : List Nat) : FN := fun ρ => fi ρ >>= fun p => lcL g ft fe vs p.1 (wipeD p.2 vs) [] >>= fun q => .ok (.o (oL q.1), q.2)
structure DTs (X : Cx) (K : PySem.W.Frag) (W : WX) (es : List Expr) (f : FT) : Prop where
  pt : PTs X es (LT K W f)
section
variable {X : Cx} {K : PySem.W.Frag} {W : WX} {tg iter elt e : Expr} {ifs : List Expr} {pos : Pos} {fi : FI} {g : FG} {ft : FT} {fe : FE} {vs : List Nat}
def tYesD : FT := fun ρ => .ok (true, ρ)
theorem dts_nil : DTs X K W [] tYesD := ⟨⟨fun pins s σ H Q I h => pts_nil.run pins s σ H Q I (by obtain ⟨F, ρ, r, q⟩ := h; exact q F H (Aft.refl r))⟩⟩
theorem dts_one (h : DT X K W e ft) : DTs X K W [e] ft := ⟨pts_one h.pt⟩
/-- what tLc asks, what is walked being there -/
def bodyLc (J : It) (g : TG) (tt : TT) (te : TE) (vs : List Nat) (σ : L2.St) (H1 : Hp) (Q : VK) : Prop := tLc (fun _ H R => R J H) g tt te vs σ H1 Q
theorem lc_body {σ : L2.St} {F1 H1 : Hp} {ρ1 : Sl} {Q : VK} {J : It} {items : List D} (r0 : Rel K F1 H1 σ ρ1) (w : WalkF K F1 J items)
    (q1 : Post K W F1 H1 σ ρ1 (lcL g ft fe vs items (wipeD ρ1 vs) [] >>= fun q => (.ok (.o (oL q.1), q.2) : Rs (S × Sl))) fun s ρ' F' H' => ∀ v, RN K H1 F' H' v s → (∀ p, v = .ref p → s.own = true → ¬ OwnS σ ρ' p) → Q v H') :
    bodyLc J (LG K vs g) (LT K W0 ft) (LE K W0 fe) vs σ H1 Q := by
  intro D hD
  obtain ⟨R0, hR⟩ : ∃ R0, lcL g ft fe vs items (wipeD ρ1 vs) [] = R0 := ⟨_, rfl⟩
  rw [hR] at q1
  have A1 : Aft K F1 H1 σ ρ1 F1 H1 σ ρ1 := Aft.refl r0
  have r1 : Rel K F1 H1 (wipe σ vs) (wipeD ρ1 vs) := A1.rel.wipe
  have nD : ∀ {σ : L2.St} {ρ : Sl}, Rel K F1 H1 σ ρ → ¬ OwnS σ ρ D := fun r z => by
    obtain ⟨_, o, e⟩ := z.there r
    rw [hD] at e; cases e
  refine lc_it w (fun i H' => ∃ F' ρ' ys acc, Aft K F1 H1 (wipe σ vs) (wipeD ρ1 vs) F' H' (wipe σ vs) ρ' ∧ H' D = some (.lst ys) ∧ F' D = none ∧ ¬ OwnS (wipe σ vs) ρ' D ∧ RpA K F' ys acc ∧ lcL g ft fe vs (items.drop i) ρ' acc = R0)
    ⟨F1, _, [], [], Aft.step r1 (.alloc hD) (Same.alloc r1.sub hD), upd_same, none_of r1.sub hD, nD r1, .nil, hR⟩ (fun i H' _ ⟨F', ρ', ys, acc, A, _⟩ => A.tr.ff.trans A.rel.sub) (fun i x H' H'' hi ⟨F', ρ', ys, acc, A, d1, d2, d3, d4, ef⟩ y => ?_) (fun H' ⟨F', ρ', ys, acc, A, d1, d2, d3, d4, ef⟩ => ?_)
  · obtain ⟨d, F2, ed, rd, A2⟩ := y.take A.tr.ff A.rel
    obtain ⟨b1, b2, b3⟩ := A2.stays d1 d2 d3
    refine ⟨F2, ρ', d, A2.rel, rd, ?_⟩
    have e1 : items.drop i = d :: items.drop (i + 1) := by
      rw [List.drop_eq_getElem_cons hi]
      congr 1
      rw [List.getElem?_eq_getElem hi] at ed
      exact Option.some.inj ed
    rw [e1] at ef
    unfold lcL at ef
    rw [← ef] at q1
    cases eg : g d ρ' with
    | none => rw [eg] at q1; exact q1
    | some ρ2 =>
      rw [eg] at q1 ef
      dsimp only at q1 ef
      intro σ2 F3 H3 A3 s3 m3
      have A4 := (A.trans A2).trans A3
      obtain ⟨c1, c2, c3⟩ := A3.stays b1 b2 b3
      have hl2 : σ2.length = σ.length := by rw [s3.1, wipe_length]
      have hw : wipe σ2 vs = wipe σ vs := wipe_eq hl2 s3.2
      refine ⟨hw, F3, ρ2, A3.rel, ?_⟩
      cases et : ft ρ2 with
      | no => rw [et] at q1; exact q1.elim
      | er x y => rw [et] at q1; exact q1.elim
      | ok bp =>
        obtain ⟨b, ρ3⟩ := bp
        rw [et] at q1 ef
        dsimp only at q1 ef
        intro F4 H4 A5
        have A6 := A4.trans A5
        obtain ⟨f1, f2, f3⟩ := A5.stays c1 c2 c3
        dsimp only
        split
        · rename_i hb
          rw [if_pos hb] at q1 ef
          refine ⟨F4, ρ3, A5.rel, ?_⟩
          cases ee : fe ρ3 with
          | no => rw [ee] at q1; exact q1.elim
          | er x y => rw [ee] at q1; exact q1.elim
          | ok yp =>
            obtain ⟨yd, ρ4⟩ := yp
            rw [ee] at q1 ef
            dsimp only at q1 ef
            intro F5 H5 A7 yv ry
            obtain ⟨g1, g2, g3⟩ := A7.stays f1 f2 f3
            by_cases hz : acc.length < sizeLine
            · rw [if_pos hz] at q1 ef
              have A8 := (A6.trans A7).wipe (vs := vs)
              rw [hw] at A8
              have g4 : ¬ OwnS (wipe σ vs) (wipeD ρ4 vs) D := fun z => g3 (by rw [← hw] at z; exact z.unwipe)
              refine ⟨ys, g1, by rw [d4.len]; exact hz, F5, wipeD ρ4 vs, ys ++ [yv], acc ++ [yd], A8.mutFree hD g2 g4, upd_same, g2, g4, RpA.app (RpA.mono ((A2.tr.ff.trans A3.tr.ff).trans (A5.tr.ff.trans A7.tr.ff)) d4) (.cons ry .nil), ef⟩
            · rw [if_neg hz] at q1; exact q1.elim
        · rename_i hb
          rw [if_neg hb] at q1 ef
          have A8 := A6.wipe (vs := vs)
          rw [hw] at A8
          exact ⟨F4, wipeD ρ3 vs, ys, acc, A8, f1, f2, fun z => f3 (by rw [← hw] at z; exact z.unwipe), RpA.mono ((A2.tr.ff.trans A3.tr.ff).trans A5.tr.ff) d4, ef⟩
  · rw [List.drop_length] at ef
    unfold lcL at ef
    rw [← ef] at q1
    have A9 := A.unwipe A1.rel.len
    refine q1 F' H' A9 (.ref D) ⟨D, _, rfl, A1.tr.dom D hD, d2, d1, (fun _ z => nomatch z), d4⟩ (fun p e _ z => ?_)
    cases e
    exact nD A1.rel (by
      rcases A9.ow D z with w | w
      · exact w
      · obtain ⟨i, c, h1, h2⟩ := z
        obtain ⟨v, ev, qv⟩ := A.rel.at_ i _ h1
        have e3 := (wipe_some ev).1
        rw [h2] at e3
        cases e3
        exact absurd ⟨i, c, h1, ev⟩ d3)
theorem ln_lc {σ : L2.St} {H : Hp} {Q : VK} (h : LN K W (dLc fi g ft fe vs) σ H Q) : tLc (LI K W fi) (LG K vs g) (LT K W0 ft) (LE K W0 fe) vs σ H Q := by
  obtain ⟨F, ρ, r, q⟩ := h
  refine ⟨F, ρ, r, (Post.bind q).mono fun items ρ1 F1 H1 A1 q1 J w => ?_⟩
  exact lc_body A1.rel w (q1.mono fun s ρ' F' H' A' q2 v rn n => q2 v (rn.dom A1.tr.dom) n)
end
end RL

namespace RL
open PySem PySem.Spec PyProof.Rows L2
section
variable {X : Cx} {K : PySem.W.Frag} {W : WX} {tg iter elt e : Expr} {es ifs : List Expr} {pos : Pos} {fi : FI} {g : FG} {ft : FT} {fe : FE} {own : List (Str × Nat)} {scope : Scope} {fr : FA}
theorem dn_lc (hc : X.calm = true) (hN : X.N.Nodup) (hi : DI X K W tg iter fi) (ok : BlkOk X.N X.env.scope scope own)
    (hg : ∀ (s : Shared) (H : Hp) (C : Addr) (cl : List (Str × Addr)) (fp : List Addr), DG (X.blk s H scope (compEnvC scope cl C X.env) fp) K (own.map (·.2)) tg g) (ht : ∀ (s : Shared) (H : Hp) (C : Addr) (cl : List (Str × Addr)) (fp : List Addr), DTs (X.blk s H scope (compEnvC scope cl C X.env) fp) K W0 ifs ft)
    (he : ∀ (s : Shared) (H : Hp) (C : Addr) (cl : List (Str × Addr)) (fp : List Addr), DE (X.blk s H scope (compEnvC scope cl C X.env) fp) K W0 elt fe) (hs : ∀ x, foldedSetIterable iter X.env x = pure x := by intro _; rfl) :
    DN X K W (.ListComp elt [⟨tg, iter, ifs, 0⟩] scope pos) (dLc fi g ft fe (own.map (·.2))) :=
  ⟨(pe_lc hc hN hi.pi ok (fun s H C cl fp => (hg s H C cl fp).pg) (fun s H C cl fp => (ht s H C cl fp).pt) (fun s H C cl fp => (he s H C cl fp).pe) hs).weak fun _ _ _ h => ln_lc h⟩
theorem ds_setLc {i : Nat} {y : Str} {py spos : Pos} (hc : X.calm = true) (hN : X.N.Nodup) (hy : X.N[i]? = some y) (hyl : X.env.scope.names.lookup y = some .local)
    (hsw : swapsWith (.ListComp elt [⟨tg, iter, ifs, 0⟩] scope pos) (some (.Name y py)) spos.line X.env = pure true) (hi : DI X K W tg iter fi) (ok : BlkOk X.N X.env.scope scope own)
    (hg : ∀ (s : Shared) (H : Hp) (C : Addr) (cl : List (Str × Addr)) (fp : List Addr), DG (X.blk s H scope (compEnvC scope cl C X.env) fp) K (own.map (·.2)) tg g) (ht : ∀ (s : Shared) (H : Hp) (C : Addr) (cl : List (Str × Addr)) (fp : List Addr), DTs (X.blk s H scope (compEnvC scope cl C X.env) fp) K W0 ifs ft)
    (he : ∀ (s : Shared) (H : Hp) (C : Addr) (cl : List (Str × Addr)) (fp : List Addr), DE (X.blk s H scope (compEnvC scope cl C X.env) fp) K W0 elt fe) (hs : ∀ x, foldedSetIterable iter X.env x = pure x := by intro _; rfl) :
    DS X K W (.Assign [.Name y py] (.ListComp elt [⟨tg, iter, ifs, 0⟩] scope pos) spos) (sSetN i (dLc fi g ft fe (own.map (·.2)))) :=
  ⟨(ps_setLc hc hN hy hyl hsw hi.pi ok (fun s H C cl fp => (hg s H C cl fp).pg) (fun s H C cl fp => (ht s H C cl fp).pt) (fun s H C cl fp => (he s H C cl fp).pe) hs).weak fun _ _ _ h => ln_lc (ls_setN h)⟩
end
/-! a def's promise over data -/
inductive Fr where
  | ok (s : S) | er (e : Ex) | no
def spD (K : PySem.W.Frag) (n : Nat) (Fn : List D → Fr) : Sp := fun vs H Q E => ∃ F ds, Same F H ∧ RpA K F vs ds ∧ ds.length = n ∧ match Fn ds with
  | .ok s => ∀ v F' H', Tr0 F H F' H' → Same F' H' → RN K H F' H' v s → Q v H'
  | .er e => ∀ d F' H', Tr0 F H F' H' → Same F' H' → RE H' d e → E (.ref (He.ga K e.c)) d H'
  | .no => False
def dCall (Fn : List D → Fr) (fr : FA) : FN := fun ρ => fr ρ >>= fun p => match Fn p.1 with
  | .ok s => .ok (s, p.2)
  | .er e => .er e p.2
  | .no => .no
/-- where nothing is let out -/
def dCall0 (Fn : List D → Fr) (fr : FA) : FN := fun ρ => fr ρ >>= fun p => match Fn p.1 with
  | .ok s => .ok (s, p.2)
  | _ => .no
section
variable {X : Cx} {K : PySem.W.Frag} {W : WX} {e : Expr} {es : List Expr} {pos p : Pos} {fr : FA} {x : Str} {k j n : Nat} {Fn : List D → Fr}
theorem ln_call {σ : L2.St} {H : Hp} {Q : VK} (hn : ∀ ds, Fn ds ≠ .no → ds.length = n) (h : LN K W (dCall Fn fr) σ H Q) : tCallS (spD K n Fn) (WE W) (LA K W fr) σ H Q := by
  obtain ⟨F, ρ, r, q⟩ := h
  refine ⟨F, ρ, r, (Post.bind q).mono fun ds ρ1 F1 H1 A1 q1 vs rv => ?_⟩
  dsimp only at q1
  refine ⟨F1, ds, A1.rel.sub, rv, hn ds (fun z => by rw [z] at q1; exact q1), ?_⟩
  cases e : Fn ds with
  | no => rw [e] at q1; exact q1
  | er x => rw [e] at q1; exact fun d F' H' t s re => q1 d F' H' (Aft.step A1.rel t s) re
  | ok s => rw [e] at q1; exact res_of A1.rel (fun p hp => A1.tr.dom p hp) fun F' H' A => q1 F' H' A
theorem ln_call0 {σ : L2.St} {H : Hp} {Q : VK} (hn : ∀ ds, Fn ds ≠ .no → ds.length = n) (h : LN K W (dCall0 Fn fr) σ H Q) : tCall (spD K n Fn) [] E0 (LA K W fr) σ H Q := by
  obtain ⟨F, ρ, r, q⟩ := h
  refine ⟨F, ρ, r, (Post.bind q).mono fun ds ρ1 F1 H1 A1 q1 vs rv => ?_⟩
  dsimp only at q1 ⊢
  rw [List.append_nil]
  refine ⟨F1, ds, A1.rel.sub, rv, hn ds (fun z => by rw [z] at q1; exact q1), ?_⟩
  cases e : Fn ds with
  | no => rw [e] at q1; exact q1
  | er x => rw [e] at q1; exact q1.elim
  | ok s => rw [e] at q1; exact res_of A1.rel (fun p hp => A1.tr.dom p hp) fun F' H' A => q1 F' H' A
/-- what callers take -/
structure Cal (P : Program) (w : World) (K : PySem.W.Frag) (mg : Str → Option Value) (base : Heap) (k : Nat) (x : Str) (n : Nat) (Fn : List D → Fr) : Prop where
  c : Kal P w K mg base k x (spD K n Fn)
  n : ∀ ds, Fn ds ≠ .no → ds.length = n
theorem dn_call (c : Cal X.prog X.w K X.mg X.base k x n Fn) (hr : Room j X.A) (tk : Takes X W) (ha : DA X K W (e :: es) fr) (hk : k ≤ j := by decide) (hg : Gl X x := by rfl)
    (hdb : (x == ("__debug__" : Str)) = false := by decide) (he : starEach (e :: es) X.env = (false, eval e X.env) :: starEach es X.env := by rfl) (hpl : (backTo pos (starEach es X.env)).any (·.1) = false := by rfl) (hK : X.K = K := by rfl) :
    DN X K W (.Call (.Name x p) (e :: es) [] pos) (dCall Fn fr) := by
  subst hK
  exact ⟨(pe_ks c.c hr tk ha.pa hk hg hdb he hpl).weak fun _ _ _ h => ln_call c.n h⟩
theorem dn_call0 (c : Cal X.prog X.w K X.mg X.base k x n Fn) (hr : Room j X.A) (ha : DA X K W (e :: es) fr) (hk : k ≤ j := by decide) (hg : Gl X x := by rfl)
    (hdb : (x == ("__debug__" : Str)) = false := by decide) (he : starEach (e :: es) X.env = (false, eval e X.env) :: starEach es X.env := by rfl) (hpl : (backTo pos (starEach es X.env)).any (·.1) = false := by rfl) (hK : X.K = K := by rfl) :
    DN X K W (.Call (.Name x p) (e :: es) [] pos) (dCall0 Fn fr) := by
  subst hK
  exact ⟨(pe_k c.c hr ha.pa hk hg hdb he hpl).weak fun _ _ _ h => ln_call0 c.n h⟩
end
/-! a def -/
def out : Rs Flow → Fr
  | .ok (.nx _) => .ok (.d .non)
  | .ok (.rt s _) => .ok s
  | .er e _ => .er e
  | _ => .no
def startD (n : Nat) (ds : List D) : Sl := ds.map (fun d => some (.d d)) ++ List.replicate (n - ds.length) none
section
variable {P : Program} {w : World} {K : PySem.W.Frag} {mg : Str → Option Value} {base : Heap}
theorem startD_get {n : Nat} {ds : List D} {i : Nat} {s : S} (h : (startD n ds)[i]? = some (some s)) : ∃ d, ds[i]? = some d ∧ s = .d d := by
  unfold startD at h
  by_cases hi : i < ds.length
  · rw [List.getElem?_append_left (by simpa using hi), List.getElem?_map] at h
    cases e : ds[i]? with
    | none => rw [e] at h; cases h
    | some d => rw [e] at h; cases h; exact ⟨d, rfl, rfl⟩
  · rw [List.getElem?_append_right (by simpa using hi), List.getElem?_replicate] at h
    split at h <;> cases h
theorem start_get {N : List Str} {vs : List V} {i : Nat} {v : V} (h : vs[i]? = some v) : (start N vs)[i]? = some (some v) := by
  have hi := (List.getElem?_eq_some_iff.mp h).1
  unfold L2.start
  rw [List.getElem?_append_left (by simpa using hi), List.getElem?_map, h]
  rfl
theorem rel_start {F H : Hp} {N : List Str} {vs : List V} {ds : List D} (sm : Same F H) (r : RpA K F vs ds) : Rel K F H (start N vs) (startD N.length ds) ∧ ∀ p, ¬ OwnS (start N vs) (startD N.length ds) p := by
  refine ⟨⟨sm, fun i s e => ?_, fun i j c c' p e1 _ _ _ => ?_, ?_⟩, fun p ⟨i, c, e, _⟩ => ?_⟩
  · obtain ⟨d, h1, rfl⟩ := startD_get e
    obtain ⟨v, h2, h3⟩ := r.get' h1
    exact ⟨v, start_get h2, h3⟩
  · obtain ⟨d, _, h⟩ := startD_get e1
    cases h
  · unfold L2.start startD
    simp [r.len]
  · obtain ⟨d, _, h⟩ := startD_get e
    cases h
theorem calD {x : Str} {st : Stmt} {N ps : List Str} {k : Nat} {Fn : List D → Fr} (g : FS) (T : TxD K mg x st) (S : FnScope N ps (defScope st))
    (hbd : ∀ (dV kV doc pm : Value) (an : Option Addr) (cdv ct : Value) (us : List Value), us.length = ps.length → bindArgs (PySem.W.fnOf x x (defArgs st) (defBody st) (defScope st) .none kV doc pm an cdv ct) ⟨us, []⟩ = pure (ps.zip us))
    (hb : ∀ (f : Addr) (cdv : Value) (A : Around) (outer : List Env) (s : Shared) (H : Hp) (E : XK), Room k (A.deeper (envOfC x (defScope st) s.heap.objs.size f cdv)) →
      DSs (cxOf (L2.CX P w) P w K mg base N x (defScope st) f cdv A outer s H E) K (fun cls d _ H => E cls d H) (defBody st) g)
    (hg : ∀ ds, Fn ds ≠ .no → ds.length = ps.length ∧ out (g (startD N.length ds)) = Fn ds) : Cal P w K mg base (k + 1) x ps.length Fn := by
  refine ⟨kal T S (fun vs H Q E h => ?_) hbd (fun f cdv A outer s H vs Q E hr h => ?_), fun ds h => (hg ds h).1⟩
  · obtain ⟨F, ds, _, r, hl, _⟩ := h
    rw [r.len]
    exact hl
  · obtain ⟨F, ds, sm, r, hl, h⟩ := h
    refine ⟨_, (hb f cdv A outer s H E hr).ps, ?_⟩
    obtain ⟨rl, no⟩ := rel_start (N := N) sm r
    refine ⟨F, startD N.length ds, rl, ?_⟩
    have hno : Fn ds ≠ .no := fun z => by rw [z] at h; exact h
    have hq := (hg ds hno).2
    have t0 : ∀ {F' H' : Hp} {σ' : L2.St} {ρ' : Sl}, Aft K F H (start N vs) (startD N.length ds) F' H' σ' ρ' → Tr0 F H F' H' := fun a => ⟨a.tr.ff, a.tr.dom, fun p o h1 h2 _ => a.tr.keep p o h1 h2 (no p)⟩
    cases eg : g (startD N.length ds) with
    | no => rw [eg] at hq; exact absurd hq.symm hno
    | er e ρ' =>
      rw [eg] at hq
      rw [← hq] at h
      exact fun d σ' F' H' a re => h d F' H' (t0 a) a.rel.sub re
    | ok fl =>
      rw [eg] at hq
      cases fl with
      | bk ρ' => exact absurd hq.symm hno
      | ct ρ' => exact absurd hq.symm hno
      | nx ρ' =>
        rw [← hq] at h
        exact fun σ' F' H' a => h .non F' H' (t0 a) a.rel.sub .non
      | rt s ρ' =>
        rw [← hq] at h
        exact fun v σ' F' H' a rn _ => h v F' H' (t0 a) a.rel.sub rn
end
end RL

namespace RL
open PySem PySem.Spec PyProof.Rows L2
/-! operations over data -/
section
variable {K : PySem.W.Frag} {X : Cx}
def orE (a b : Option S) : Option S := match a with
  | some s => some s
  | none => b
@[simp] theorem orE_some (s : S) (b : Option S) : orE (some s) b = some s := rfl
@[simp] theorem orE_none (b : Option S) : orE none b = b := rfl
theorem Pr2.or {r r' : R2} {g g' : D → D → Option S} (h : Pr2 K r g) (h' : Pr2 K r' g') : Pr2 K (fun x y H Q => r x y H Q ∨ r' x y H Q) (fun d e => orE (g d e) (g' d e)) := by
  intro F H x y d e s Q sm rx ry eg hq
  dsimp only at eg
  cases e1 : g d e with
  | some t => rw [e1] at eg; cases eg; exact .inl (h F H x y d e s Q sm rx ry e1 hq)
  | none => rw [e1] at eg; exact .inr (h' F H x y d e s Q sm rx ry eg hq)
theorem PrL.or {r r' : List V → Hp → VK → Prop} {g g' : List D → Option S} (h : PrL K r g) (h' : PrL K r' g') : PrL K (fun x H Q => r x H Q ∨ r' x H Q) (fun d => orE (g d) (g' d)) := by
  intro F H x d s Q sm rx eg hq
  dsimp only at eg
  cases e1 : g d with
  | some t => rw [e1] at eg; cases eg; exact .inl (h F H x d s Q sm rx e1 hq)
  | none => rw [e1] at eg; exact .inr (h' F H x d s Q sm rx eg hq)
theorem Pr3.or {r r' : V → Option Int → Option Int → Hp → VK → Prop} {g g' : D → Option Int → Option Int → Option S} (h : Pr3 K r g) (h' : Pr3 K r' g') : Pr3 K (fun x l u H Q => r x l u H Q ∨ r' x l u H Q) (fun d l u => orE (g d l u) (g' d l u)) := by
  intro F H x d l u s Q sm rx eg hq
  dsimp only at eg
  cases e1 : g d l u with
  | some t => rw [e1] at eg; cases eg; exact .inl (h F H x d l u s Q sm rx e1 hq)
  | none => rw [e1] at eg; exact .inr (h' F H x d l u s Q sm rx eg hq)
theorem Res.here {F H : Hp} {d : D} {v : V} {Q : VK} (h : Res K F H (.d d) Q) (s : Same F H) (r : Rp K F v d) : Q v H := h v F H .refl s r
theorem Res.newT {F H : Hp} {xs : List V} {ds : List D} {p : Addr} {Q : VK} (h : Res K F H (.d (.tup ds)) Q) (s : Same F H) (hp : H p = none) (r : RpA K F xs ds) : Q (.ref p) (upd H p (.tup xs)) :=
  ResD.newT (fun v F' H' t s' q => h v F' H' t s' q) s hp r
/-! ints -/
def gI (c : Int → Int → Bool) (g : Int → Int → D) : D → D → Option S
  | .int i, .int j => if c i j = true then some (.d (g i j)) else none
  | _, _ => none
def gI0 (g : Int → Int → D) : D → D → Option S
  | .int i, .int j => some (.d (g i j))
  | _, _ => none
theorem prI {C : Int → Int → Prop} {c : Int → Int → Bool} {g : Int → Int → V} {g' : Int → Int → D} (hc : ∀ i j, c i j = true → C i j) (hg : ∀ F i j, Rp K F (g i j) (g' i j)) : Pr2 K (rI C g) (gI c g') := by
  intro F H x y d e s Q sm rx ry eg hq
  unfold gI at eg
  split at eg
  · rename_i i j
    split at eg
    · cases eg
      rename_i h
      exact ⟨i, j, rx.int_inv, ry.int_inv, hc i j h, hq.here sm (hg _ _ _)⟩
    · cases eg
  · cases eg
theorem prI0 {g : Int → Int → V} {g' : Int → Int → D} (hg : ∀ F i j, Rp K F (g i j) (g' i j)) : Pr2 K (rI0 g) (gI0 g') := by
  intro F H x y d e s Q sm rx ry eg hq
  unfold gI0 at eg
  split at eg
  · cases eg
    rename_i i j
    exact ⟨i, j, rx.int_inv, ry.int_inv, hq.here sm (hg _ _ _)⟩
  · cases eg
/-- + -/
def gCatT : D → D → Option S
  | .tup xs, .tup ys => if xs.length + ys.length ≤ sizeLine then some (.d (.tup (xs ++ ys))) else none
  | _, _ => none
theorem prCatT : Pr2 K (rCatA K) gCatT := by
  intro F H x y d e s Q sm rx ry eg hq
  unfold gCatT at eg
  split at eg
  · rename_i xs ys
    split at eg
    · cases eg
      rename_i hl
      obtain ⟨a, us, rfl, h1, h2⟩ := rx.tup_inv
      obtain ⟨b, ws, rfl, h3, h4⟩ := ry.tup_inv
      refine ⟨a, b, us, ws, rfl, rfl, sqT_of (sm _ _ h1), sqT_of (sm _ _ h3), by rw [h2.len, h4.len]; exact hl, fun z => ?_, fun _ z => ?_, fun _ _ p hp => hq.newT sm hp (h2.app h4)⟩
      · subst z
        cases h2
        exact hq.here sm ry
      · subst z
        cases h4
        rw [List.append_nil] at hq
        exact hq.here sm rx
    · cases eg
  · cases eg
def gCatL : D → D → Option S
  | .lst xs, .lst ys => if xs.length + ys.length ≤ sizeLine then some (.o (oL (xs ++ ys))) else none
  | _, _ => none
theorem prCatL : Pr2 K rCat gCatL := by
  intro F H x y d e s Q sm rx ry eg hq
  unfold gCatL at eg
  split at eg
  · rename_i xs ys
    split at eg
    · cases eg
      rename_i hl
      obtain ⟨a, us, rfl, h1, h2⟩ := rx.lst_inv
      obtain ⟨b, ws, rfl, h3, h4⟩ := ry.lst_inv
      exact ⟨a, b, us, ws, rfl, rfl, sm _ _ h1, sm _ _ h3, by rw [h2.len, h4.len]; exact hl, fun p hp => hq.newL sm hp (h2.app h4)⟩
    · cases eg
  · cases eg
def gAdd : D → D → Option S := fun d e => orE (gI0 (fun i j => .int (i + j)) d e) (orE (gCatT d e) (gCatL d e))
theorem q_add (K : PySem.W.Frag) (hK : X.K = K := by rfl) : OpR X (binaryOp .Add) (fun x y H Q => rI0 (fun i j => .int (i + j)) x y H Q ∨ (rCatA K x y H Q ∨ rCat x y H Q)) := by subst hK; exact OpR.or op_add (OpR.or op_catA op_cat)
theorem prAdd : Pr2 K (fun x y H Q => rI0 (fun i j => .int (i + j)) x y H Q ∨ (rCatA K x y H Q ∨ rCat x y H Q)) gAdd := Pr2.or (prI0 fun _ _ _ => .int _) (Pr2.or prCatT prCatL)
@[simp] theorem gAdd_int (i j : Int) : gAdd (.int i) (.int j) = some (.d (.int (i + j))) := rfl
theorem gAdd_tup {xs ys : List D} (h : xs.length + ys.length ≤ sizeLine) : gAdd (.tup xs) (.tup ys) = some (.d (.tup (xs ++ ys))) := by simp [gAdd, gI0, gCatT, h]
theorem gAdd_lst {xs ys : List D} (h : xs.length + ys.length ≤ sizeLine) : gAdd (.lst xs) (.lst ys) = some (.o (oL (xs ++ ys))) := by simp [gAdd, gI0, gCatT, gCatL, h]
def gSub : D → D → Option S := gI0 fun i j => .int (i - j)
theorem prSub : Pr2 K (rI0 fun i j => .int (i - j)) gSub := prI0 fun _ _ _ => .int _
@[simp] theorem gSub_int (i j : Int) : gSub (.int i) (.int j) = some (.d (.int (i - j))) := rfl
/-- what * may be asked: one of them is small, or both are not too great -/
def CMulX (i j : Int) : Prop := (-(2 ^ 64) < i ∧ i < 2 ^ 64) ∨ (-(2 ^ 64) < j ∧ j < 2 ^ 64) ∨ i.natAbs.log2 + j.natAbs.log2 < 1000000
noncomputable def cMul (i j : Int) : Bool := @decide (CMulX i j) (Classical.propDecidable _)
theorem cMul_of {i j : Int} (h : CMulX i j) : cMul i j = true := @decide_eq_true _ (Classical.propDecidable _) h
theorem op_mulX : OpR X (binaryOp .Mult) (rI (fun i j => cMul i j = true) fun i j => .int (i * j)) := opI fun i j _ _ _ _ _ hc q => by
  rcases (@of_decide_eq_true _ (Classical.propDecidable _) hc : CMulX i j) with h | h | h
  · exact mul_int q (CMul.ok (.inl h))
  · exact mul_int q (CMul.ok (.inr h))
  · exact mul_int q (CMulW.ok h)
noncomputable def gRep : D → D → Option S
  | .lst xs, .int k => @ite _ (-(2 ^ 63) ≤ k ∧ k < 2 ^ 63 ∧ xs.length * k.toNat ≤ sizeLine) (Classical.propDecidable _) (some (.o (oL (List.replicate k.toNat xs).flatten))) none
  | _, _ => none
theorem RpA.rep {F : Hp} {us : List V} {xs : List D} (h : RpA K F us xs) : ∀ n : Nat, RpA K F (List.replicate n us).flatten (List.replicate n xs).flatten
  | 0 => .nil
  | n + 1 => by
    rw [List.replicate_succ, List.replicate_succ, List.flatten_cons, List.flatten_cons]
    exact h.app (RpA.rep h n)
theorem prRep : Pr2 K rRep gRep := by
  intro F H x y d e s Q sm rx ry eg hq
  unfold gRep at eg
  split at eg
  · rename_i xs k
    split at eg
    · cases eg
      rename_i h
      obtain ⟨a, us, rfl, h1, h2⟩ := rx.lst_inv
      exact ⟨a, k, us, rfl, ry.int_inv, sm _ _ h1, h.1, h.2.1, by rw [h2.len]; exact h.2.2, fun p hp => hq.newL sm hp (h2.rep _)⟩
    · cases eg
  · cases eg
noncomputable def gMul : D → D → Option S := fun d e => orE (gI cMul (fun i j => .int (i * j)) d e) (gRep d e)
theorem q_mul : OpR X (binaryOp .Mult) (fun x y H Q => rI (fun i j => cMul i j = true) (fun i j => .int (i * j)) x y H Q ∨ rRep x y H Q) := OpR.or op_mulX op_rep
theorem prMul : Pr2 K (fun x y H Q => rI (fun i j => cMul i j = true) (fun i j => .int (i * j)) x y H Q ∨ rRep x y H Q) gMul := Pr2.or (prI (fun _ _ h => h) fun _ _ _ => .int _) prRep
theorem gMul_int {i j : Int} (h : cMul i j = true) : gMul (.int i) (.int j) = some (.d (.int (i * j))) := by simp [gMul, gI, h]
theorem cMul_l {i j : Int} (h : -(2 ^ 64) < i ∧ i < 2 ^ 64) : cMul i j = true := cMul_of (.inl h)
theorem cMul_r {i j : Int} (h : -(2 ^ 64) < j ∧ j < 2 ^ 64) : cMul i j = true := cMul_of (.inr (.inl h))
theorem cMul_w {i j : Int} (a b : Nat) (ha : i.natAbs < 2 ^ a) (hb : j.natAbs < 2 ^ b) (h0 : 0 < a) (h1 : 0 < b) (h : a + b ≤ 1000000) : cMul i j = true := cMul_of (.inr (.inr (wide_mul ha hb h0 h1 h)))
noncomputable def cDiv (i j : Int) : Bool := @decide (CDivW i j) (Classical.propDecidable _)
noncomputable def gDiv : D → D → Option S := gI cDiv fun i j => .int (i / j)
theorem prDiv : Pr2 K (rI CDivW fun i j => .int (i / j)) gDiv := prI (fun i j h => (@of_decide_eq_true _ (Classical.propDecidable _) h : CDivW i j)) fun _ _ _ => .int _
theorem cDiv_of {i j : Int} (h : 0 < j) (hb : j < 2 ^ 250) : cDiv i j = true := @decide_eq_true _ (Classical.propDecidable _) (small_div (i := i) h hb)
theorem gDiv_int {i j : Int} (h : cDiv i j = true) : gDiv (.int i) (.int j) = some (.d (.int (i / j))) := by simp [gDiv, gI, h]
def gMod : D → D → Option S := gI (fun _ j => decide (0 < j)) fun i j => .int (i % j)
theorem prMod : Pr2 K (rI (fun _ j => 0 < j) fun i j => .int (i % j)) gMod := prI (fun i j h => of_decide_eq_true h) fun _ _ _ => .int _
theorem gMod_int {i j : Int} (h : 0 < j) : gMod (.int i) (.int j) = some (.d (.int (i % j))) := by simp [gMod, gI, h]
def gPow : D → D → Option S := gI (fun i j => decide (0 ≤ j ∧ j ≤ 1000000 ∧ i.natAbs < 2 ^ 64)) fun i j => .int (i ^ j.toNat)
theorem prPow : Pr2 K (rI CPow fun i j => .int (i ^ j.toNat)) gPow := prI (fun i j h => (of_decide_eq_true h : 0 ≤ j ∧ j ≤ 1000000 ∧ i.natAbs < 2 ^ 64)) fun _ _ _ => .int _
def gNeg : D → Option S
  | .int i => some (.d (.int (-i)))
  | _ => none
theorem prNeg : Pr1 K (rU fun i => .int (-i)) gNeg := by
  intro F H x d s Q sm rx eg hq
  unfold gNeg at eg
  split at eg
  · cases eg
    exact ⟨_, rx.int_inv, hq.here sm (.int _)⟩
  · cases eg
@[simp] theorem gNeg_int (i : Int) : gNeg (.int i) = some (.d (.int (-i))) := rfl
/-! comparing ints -/
def gLt : D → D → Option S := gI0 fun i j => .bl (decide (i < j))
def gLe : D → D → Option S := gI0 fun i j => .bl (decide (i ≤ j))
def gGt : D → D → Option S := gI0 fun i j => .bl (decide (i > j))
def gGe : D → D → Option S := gI0 fun i j => .bl (decide (i ≥ j))
theorem prLt : Pr2 K (rI0 fun i j => .bl (decide (i < j))) gLt := prI0 fun _ _ _ => .bl _
theorem prLe : Pr2 K (rI0 fun i j => .bl (decide (i ≤ j))) gLe := prI0 fun _ _ _ => .bl _
theorem prGt : Pr2 K (rI0 fun i j => .bl (decide (i > j))) gGt := prI0 fun _ _ _ => .bl _
theorem prGe : Pr2 K (rI0 fun i j => .bl (decide (i ≥ j))) gGe := prI0 fun _ _ _ => .bl _
@[simp] theorem gLt_int (i j : Int) : gLt (.int i) (.int j) = some (.d (.bl (decide (i < j)))) := rfl
@[simp] theorem gLe_int (i j : Int) : gLe (.int i) (.int j) = some (.d (.bl (decide (i ≤ j)))) := rfl
@[simp] theorem gGt_int (i j : Int) : gGt (.int i) (.int j) = some (.d (.bl (decide (i > j)))) := rfl
@[simp] theorem gGe_int (i j : Int) : gGe (.int i) (.int j) = some (.d (.bl (decide (i ≥ j)))) := rfl
/-! equality -/
mutual
def toP : D → PyData
  | .non => .none
  | .bl b => .bool b
  | .int i => .int i
  | .str x => .str x
  | .tup xs => .tuple (toPs xs)
  | .lst xs => .list (toPs xs)
  | .scr ns => .list (ns.map .int)
  | .dK _ => .none
  | .dT _ => .none
  | .ob _ _ _ => .none
def toPs : List D → List PyData
  | [] => []
  | d :: r => toP d :: toPs r
end
theorem toPs_map : ∀ xs : List D, toPs xs = xs.map toP
  | [] => rfl
  | d :: r => by rw [toPs, toPs_map r]; rfl
/-- without dicts and objects, not too deep -/
def plainD : Nat → D → Bool
  | _, .non => true
  | _, .bl _ => true
  | _, .int _ => true
  | _, .str x => PyData.strOk x
  | n + 1, .tup xs => xs.all (plainD n)
  | n + 1, .lst xs => xs.all (plainD n)
  | _, .scr _ => true
  | _, _ => false
mutual
theorem Rp.dp {F H : Hp} (sm : Same F H) : ∀ {v : V} {d : D} (n : Nat), Rp K F v d → plainD n d = true → Dp K H v (toP d)
  | _, _, _, .non, _ => .non
  | _, _, _, .bl b, _ => .bl b
  | _, _, _, .int i, _ => .int i
  | _, _, _, .str x, _ => .str x
  | _, _, n + 1, .lst s a, h => .lst (sqL_of (sm _ _ s)) (RpA.dp sm n a (by simpa [plainD] using h))
  | _, _, n + 1, .tup s a, h => .tup (sqT_of (sm _ _ s)) (RpA.dp sm n a (by simpa [plainD] using h))
  | _, _, 0, .lst s a, h => by simp [plainD] at h
  | _, _, 0, .tup s a, h => by simp [plainD] at h
  | _, _, _, .scr s, _ => Dp.intsL (sm.seq s)
  | _, _, n, .dK _, h => by cases n <;> simp [plainD] at h
  | _, _, n, .dT _, h => by cases n <;> simp [plainD] at h
  | _, _, n, .ob _ _ _, h => by cases n <;> simp [plainD] at h
theorem RpA.dp {F H : Hp} (sm : Same F H) : ∀ {vs : List V} {ds : List D} (n : Nat), RpA K F vs ds → (∀ d ∈ ds, plainD n d = true) → DpAll K H vs (toPs ds)
  | _, _, _, .nil, _ => .nil
  | _, _, n, .cons a t, h => .cons (Rp.dp sm n a (h _ (List.mem_cons_self ..))) (RpA.dp sm n t fun d hd => h d (List.mem_cons_of_mem _ hd))
end
theorem canLayAll_map : ∀ {l : List PyData}, (∀ p ∈ l, p.canLay0 = true) → PyData.canLayAll0 l = true
  | [], _ => rfl
  | p :: r, h => by simp [PyData.canLayAll0, h p (by simp), canLayAll_map (l := r) fun q hq => h q (by simp [hq])]
theorem depthAll_map {n : Nat} : ∀ {l : List PyData}, (∀ p ∈ l, p.depth ≤ n) → PyData.depthAll l ≤ n
  | [], _ => by simp [PyData.depthAll]
  | p :: r, h => by
    have h1 := h p (by simp)
    have h2 := depthAll_map (l := r) (n := n) fun q hq => h q (by simp [hq])
    simp only [PyData.depthAll]
    omega
theorem plain_ok : ∀ (n : Nat) (d : D), plainD n d = true → (toP d).canLay0 = true ∧ (toP d).depth ≤ n + 1
  | n, .non, _ => by simp [toP, PyData.canLay0, PyData.depth]
  | n, .bl _, _ => by simp [toP, PyData.canLay0, PyData.depth]
  | n, .int _, _ => by simp [toP, PyData.canLay0, PyData.depth]
  | n, .str x, h => by
    have h : PyData.strOk x = true := by cases n <;> simpa [plainD] using h
    simp [toP, PyData.canLay0, PyData.depth, h]
  | n, .scr ns, _ => by
    refine ⟨?_, ?_⟩
    · simp only [toP, PyData.canLay0]
      exact canLayAll_map fun p hp => by obtain ⟨i, _, rfl⟩ := List.mem_map.mp hp; rfl
    · simp only [toP, PyData.depth]
      have := depthAll_map (n := 0) (l := ns.map PyData.int) fun p hp => by obtain ⟨i, _, rfl⟩ := List.mem_map.mp hp; simp [PyData.depth]
      omega
  | 0, .tup _, h => by simp [plainD] at h
  | 0, .lst _, h => by simp [plainD] at h
  | n + 1, .tup xs, h => by
    have h : ∀ d ∈ xs, plainD n d = true := by simpa [plainD] using h
    have ih := fun d hd => plain_ok n d (h d hd)
    refine ⟨?_, ?_⟩
    · simp only [toP, PyData.canLay0, toPs_map]
      exact canLayAll_map fun p hp => by obtain ⟨d, hd, rfl⟩ := List.mem_map.mp hp; exact (ih d hd).1
    · simp only [toP, PyData.depth, toPs_map]
      have := depthAll_map (n := n + 1) (l := xs.map toP) fun p hp => by obtain ⟨d, hd, rfl⟩ := List.mem_map.mp hp; exact (ih d hd).2
      omega
  | n + 1, .lst xs, h => by
    have h : ∀ d ∈ xs, plainD n d = true := by simpa [plainD] using h
    have ih := fun d hd => plain_ok n d (h d hd)
    refine ⟨?_, ?_⟩
    · simp only [toP, PyData.canLay0, toPs_map]
      exact canLayAll_map fun p hp => by obtain ⟨d, hd, rfl⟩ := List.mem_map.mp hp; exact (ih d hd).1
    · simp only [toP, PyData.depth, toPs_map]
      have := depthAll_map (n := n + 1) (l := xs.map toP) fun p hp => by obtain ⟨d, hd, rfl⟩ := List.mem_map.mp hp; exact (ih d hd).2
      omega
  | n, .dK _, h => by cases n <;> simp [plainD] at h
  | n, .dT _, h => by cases n <;> simp [plainD] at h
  | n, .ob _ _ _, h => by cases n <;> simp [plainD] at h
theorem plain_shaped {d : D} (h : plainD 60 d = true) : SeqAt.shaped (toP d) = true := by
  obtain ⟨a, b⟩ := plain_ok 60 d h
  unfold SeqAt.shaped
  rw [a, decide_eq_true (by omega)]
  rfl
abbrev eqD (d e : D) : Bool := PyData.eqv (toP d) (toP e)
def gEq : D → D → Option S := fun d e => if plainD 60 d = true ∧ plainD 60 e = true then some (.d (.bl (eqD d e))) else none
def gNe : D → D → Option S := fun d e => if plainD 60 d = true ∧ plainD 60 e = true then some (.d (.bl (!eqD d e))) else none
theorem prEq : Pr2 K (rEqD K) gEq := by
  intro F H x y d e s Q sm rx ry eg hq
  unfold gEq at eg
  split at eg
  · cases eg
    rename_i h
    exact ⟨_, _, rx.dp sm 60 h.1, ry.dp sm 60 h.2, plain_shaped h.1, plain_shaped h.2, hq.here sm (.bl _)⟩
  · cases eg
theorem prNe : Pr2 K (rNeD K) gNe := by
  intro F H x y d e s Q sm rx ry eg hq
  unfold gNe at eg
  split at eg
  · cases eg
    rename_i h
    exact ⟨_, _, rx.dp sm 60 h.1, ry.dp sm 60 h.2, plain_shaped h.1, plain_shaped h.2, hq.here sm (.bl _)⟩
  · cases eg
end
end RL

namespace RL
open PySem PySem.Spec PyProof.Rows L2
section
variable {K : PySem.W.Frag} {X : Cx} {W : WX}
/-! in a tuple, a list of flat things -/
def flatD : D → Bool
  | .non => true
  | .bl _ => true
  | .int _ => true
  | .str _ => true
  | _ => false
def toV : D → V
  | .non => .non
  | .bl b => .bl b
  | .int i => .int i
  | .str x => .str x
  | _ => .non
theorem Rp.flat {F : Hp} {v : V} {d : D} (h : Rp K F v d) (f : flatD d = true) : v = toV d ∧ flatV v = true := by
  cases h <;> first | exact ⟨rfl, rfl⟩ | cases f
theorem RpA.flat : ∀ {F : Hp} {vs : List V} {ds : List D}, RpA K F vs ds → ds.all flatD = true → vs = ds.map toV ∧ vs.all flatV = true
  | _, _, _, .nil, _ => ⟨rfl, rfl⟩
  | _, _, _, .cons a t, h => by
    simp only [List.all_cons, Bool.and_eq_true] at h
    obtain ⟨e1, e2⟩ := a.flat h.1
    obtain ⟨e3, e4⟩ := t.flat h.2
    exact ⟨by rw [e1, e3]; rfl, by simp only [List.all_cons, e2, e4]; rfl⟩
def inD (d : D) (xs : List D) : Bool := inV (toV d) (xs.map toV)
def gIn (neg : Bool) : D → D → Option S
  | d, .tup xs => if flatD d = true ∧ xs.all flatD = true then some (.d (.bl (if neg then !inD d xs else inD d xs))) else none
  | d, .lst xs => if flatD d = true ∧ xs.all flatD = true then some (.d (.bl (if neg then !inD d xs else inD d xs))) else none
  | _, _ => none
theorem prIn {neg : Bool} : Pr2 K (rIn K neg) (gIn neg) := by
  intro F H x y d e s Q sm rx ry eg hq
  unfold gIn at eg
  split at eg
  · rename_i xs
    split at eg
    · cases eg
      rename_i h
      obtain ⟨a, us, rfl, h1, h2⟩ := ry.tup_inv
      obtain ⟨e1, e2⟩ := rx.flat h.1
      obtain ⟨e3, e4⟩ := h2.flat h.2
      refine ⟨a, us, rfl, .inr (sqT_of (sm _ _ h1)), e2, e4, ?_⟩
      rw [e1, e3]
      exact hq.here sm (.bl _)
    · cases eg
  · rename_i xs
    split at eg
    · cases eg
      rename_i h
      obtain ⟨a, us, rfl, h1, h2⟩ := ry.lst_inv
      obtain ⟨e1, e2⟩ := rx.flat h.1
      obtain ⟨e3, e4⟩ := h2.flat h.2
      refine ⟨a, us, rfl, .inl (sqL_of (sm _ _ h1)), e2, e4, ?_⟩
      rw [e1, e3]
      exact hq.here sm (.bl _)
    · cases eg
  · cases eg
theorem flat_ints (ns : List Int) : (ns.map D.int).all flatD = true := by
  rw [List.all_map]
  exact List.all_eq_true.mpr fun _ _ => rfl
theorem inD_ints (i : Int) (ns : List Int) : inD (.int i) (ns.map .int) = decide (i ∈ ns) := by
  unfold inD inV
  rw [List.map_map, List.any_map]
  induction ns with
  | nil => rfl
  | cons a r ih =>
    rw [List.any_cons, ih]
    have e : ((fun y => eqV y (toV (D.int i))) ∘ (toV ∘ D.int)) a = decide (i = a) := by
      show (a == i) = decide (i = a)
      by_cases h : a = i
      · subst h; simp
      · have h2 : ¬ i = a := fun z => h z.symm
        simp [h, h2]
    rw [e]
    by_cases h : i = a
    · simp [h]
    · by_cases h2 : i ∈ r <;> simp [h, h2]
theorem gIn_tI (neg : Bool) (i : Int) (ns : List Int) : gIn neg (.int i) (tI ns) = some (.d (.bl (if neg then !decide (i ∈ ns) else decide (i ∈ ns)))) := by
  simp only [gIn, flatD, flat_ints, inD_ints, and_self, if_true]
theorem gIn_lI (neg : Bool) (i : Int) (ns : List Int) : gIn neg (.int i) (lI ns) = some (.d (.bl (if neg then !decide (i ∈ ns) else decide (i ∈ ns)))) := by
  simp only [gIn, flatD, flat_ints, inD_ints, and_self, if_true]
/-! is None -/
def isNon : D → Bool
  | .non => true
  | _ => false
theorem Rp.non_iff {F : Hp} {v : V} {d : D} (h : Rp K F v d) : decide (v = .non) = isNon d := by
  cases h <;> simp [isNon]
def gIs (neg : Bool) : D → D → Option S
  | d, .non => some (.d (.bl (if neg then !isNon d else isNon d)))
  | _, _ => none
theorem prIs : Pr2 K (fun x y H Q => y = .non ∧ Q (.bl (decide (x = .non))) H) (gIs false) := by
  intro F H x y d e s Q sm rx ry eg hq
  unfold gIs at eg
  split at eg
  · cases eg
    refine ⟨ry.non_inv, ?_⟩
    rw [rx.non_iff]
    exact hq.here sm (.bl _)
  · cases eg
theorem prIsNot : Pr2 K (fun x y H Q => y = .non ∧ Q (.bl (!decide (x = .non))) H) (gIs true) := by
  intro F H x y d e s Q sm rx ry eg hq
  unfold gIs at eg
  split at eg
  · cases eg
    refine ⟨ry.non_inv, ?_⟩
    rw [rx.non_iff]
    exact hq.here sm (.bl _)
  · cases eg
@[simp] theorem gIs_non (neg : Bool) (d : D) : gIs neg d .non = some (.d (.bl (if neg then !isNon d else isNon d))) := rfl
/-! items -/
def gIx : D → D → Option S
  | .tup xs, .int i => (atI xs i).map .d
  | .lst xs, .int i => (atI xs i).map .d
  | .scr ns, .int i => (atI ns i).map fun n => .d (.int n)
  | .str z, .int i => if z.length ≤ sizeLine then (atI z.cps.toList i).map fun c => .d (.str ⟨#[c]⟩) else none
  | _, _ => none
theorem atI_rp {F : Hp} {vs : List V} {ds : List D} {i : Int} {d : D} (r : RpA K F vs ds) (h : atI ds i = some d) : ∃ v, atI vs i = some v ∧ Rp K F v d := by
  unfold atI at h ⊢
  rw [r.len]
  cases e : ixN ds.length i with
  | none => rw [e] at h; cases h
  | some j => rw [e] at h; exact r.get' h
theorem prIx : Pr2 K (rIx K) gIx := by
  intro F H x y d e s Q sm rx ry eg hq
  unfold gIx at eg
  split at eg
  · rename_i xs i
    cases ea : atI xs i with
    | none => rw [ea] at eg; cases eg
    | some d =>
      rw [ea] at eg
      cases eg
      obtain ⟨a, us, rfl, h1, h2⟩ := rx.tup_inv
      obtain ⟨v, e1, e2⟩ := atI_rp h2 ea
      exact .inr (.inl ⟨a, us, i, v, rfl, ry.int_inv, sqT_of (sm _ _ h1), e1, hq.here sm e2⟩)
  · rename_i xs i
    cases ea : atI xs i with
    | none => rw [ea] at eg; cases eg
    | some d =>
      rw [ea] at eg
      cases eg
      obtain ⟨a, us, rfl, h1, h2⟩ := rx.lst_inv
      obtain ⟨v, e1, e2⟩ := atI_rp h2 ea
      exact .inl ⟨a, us, i, v, rfl, ry.int_inv, sqL_of (sm _ _ h1), e1, hq.here sm e2⟩
  · rename_i ns i
    cases ea : atI ns i with
    | none => rw [ea] at eg; cases eg
    | some n =>
      rw [ea] at eg
      cases eg
      cases rx with
      | scr sq =>
        refine .inl ⟨_, _, i, .int n, rfl, ry.int_inv, sm.seq sq, ?_, hq.here sm (.int _)⟩
        unfold atI at ea ⊢
        rw [List.length_map]
        cases e : ixN ns.length i with
        | none => rw [e] at ea; cases ea
        | some j =>
          rw [e] at ea
          have ea : ns[j]? = some n := ea
          show (ns.map V.int)[j]? = some (V.int n)
          rw [List.getElem?_map, ea]
          rfl
  · rename_i z i
    split at eg
    · rename_i hz
      cases ea : atI z.cps.toList i with
      | none => rw [ea] at eg; cases eg
      | some c =>
        rw [ea] at eg
        cases eg
        exact .inr (.inr ⟨z, i, c, rx.str_inv, ry.int_inv, hz, ea, hq.here sm (.str _)⟩)
    · cases eg
  · cases eg
theorem q_ix (K : PySem.W.Frag) (hK : X.K = K := by rfl) : IxR X (rIx K) := by subst hK; exact ix_seq
theorem gIx_tup {xs : List D} {i : Int} {d : D} (h : atI xs i = some d) : gIx (.tup xs) (.int i) = some (.d d) := by simp [gIx, h]
theorem gIx_lst {xs : List D} {i : Int} {d : D} (h : atI xs i = some d) : gIx (.lst xs) (.int i) = some (.d d) := by simp [gIx, h]
/-! cuts -/
def gSl : D → Option Int → Option Int → Option S
  | .tup xs, lo, hi => some (.d (.tup (cutL xs lo hi)))
  | .lst xs, lo, hi => some (.o (oL (cutL xs lo hi)))
  | _, _, _ => none
theorem cut_rp {F : Hp} {vs : List V} {ds : List D} {lo hi : Option Int} (r : RpA K F vs ds) : RpA K F (cutV vs lo hi) (cutL ds lo hi) := by
  unfold cutV cutL
  rw [r.len]
  exact RpA.take _ (RpA.drop _ r)
theorem prSl : Pr3 K (fun x lo hi H Q => rSlA K x lo hi H Q ∨ rSlL K x lo hi H Q) gSl := by
  intro F H x d lo hi s Q sm rx eg hq
  unfold gSl at eg
  split at eg
  · cases eg
    obtain ⟨a, us, rfl, h1, h2⟩ := rx.tup_inv
    refine .inl ⟨a, us, rfl, sqT_of (sm _ _ h1), fun e => ?_, fun _ p hp => hq.newT sm hp (cut_rp h2)⟩
    have e2 : cutV us lo hi = us := by
      unfold cutV
      rw [e.1, e.2, List.drop_zero, Nat.sub_zero, List.take_length]
    have h3 := cut_rp (lo := lo) (hi := hi) h2
    rw [e2] at h3
    exact hq.here sm (.tup h1 h3)
  · cases eg
    obtain ⟨a, us, rfl, h1, h2⟩ := rx.lst_inv
    exact .inr ⟨a, us, rfl, sqL_of (sm _ _ h1), fun p hp => hq.newL sm hp (cut_rp h2)⟩
  · cases eg
theorem q_sl (K : PySem.W.Frag) (hK : X.K = K := by rfl) : SlR X (fun x lo hi H Q => rSlA K x lo hi H Q ∨ rSlL K x lo hi H Q) := by subst hK; exact SlR.or sl_tupA sl_list
/-! built-ins -/
def gLen : List D → Option S
  | [.tup xs] => some (.d (.int (xs.length : Nat)))
  | [.lst xs] => some (.d (.int (xs.length : Nat)))
  | [.scr ns] => some (.d (.int (ns.length : Nat)))
  | _ => none
theorem prLen : PrL K (rLenQ K) gLen := by
  intro F H vs ds s Q sm r eg hq
  unfold gLen at eg
  split at eg
  · cases eg
    obtain ⟨u, rfl, ru⟩ := RpA.one r
    obtain ⟨a, us, rfl, h1, h2⟩ := ru.tup_inv
    exact ⟨a, us, rfl, .inr (sqT_of (sm _ _ h1)), by rw [h2.len]; exact hq.here sm (.int _)⟩
  · cases eg
    obtain ⟨u, rfl, ru⟩ := RpA.one r
    obtain ⟨a, us, rfl, h1, h2⟩ := ru.lst_inv
    exact ⟨a, us, rfl, .inl (sqL_of (sm _ _ h1)), by rw [h2.len]; exact hq.here sm (.int _)⟩
  · cases eg
    obtain ⟨u, rfl, ru⟩ := RpA.one r
    cases ru with
    | scr sq => exact ⟨_, _, rfl, .inl (sm.seq sq), by rw [List.length_map]; exact hq.here sm (.int _)⟩
  · cases eg
@[simp] theorem gLen_tup (xs : List D) : gLen [.tup xs] = some (.d (.int (xs.length : Nat))) := rfl
@[simp] theorem gLen_lst (xs : List D) : gLen [.lst xs] = some (.d (.int (xs.length : Nat))) := rfl
@[simp] theorem gLen_scr (xs : List Int) : gLen [.scr xs] = some (.d (.int (xs.length : Nat))) := rfl
def asB : D → Option Bool
  | .bl b => some b
  | _ => none
def blsOf (ds : List D) : Option (List Bool) := ds.mapM asB
theorem bls_of : ∀ {ds : List D} {bs : List Bool}, blsOf ds = some bs → ds = bs.map .bl
  | [], bs, h => by
    have : bs = [] := by simpa [blsOf] using h.symm
    subst this; rfl
  | d :: r, bs, h => by
    unfold blsOf at h
    rw [List.mapM_cons] at h
    cases d with
    | bl b =>
      cases e : List.mapM asB r with
      | none => rw [e] at h; cases h
      | some cs =>
        rw [e] at h
        cases h
        rw [bls_of (ds := r) (bs := cs) e]
        rfl
    | _ => cases h
theorem blsOf_map : ∀ bs : List Bool, blsOf (bs.map .bl) = some bs
  | [] => rfl
  | b :: r => by
    have := blsOf_map r
    unfold blsOf at this ⊢
    rw [List.map_cons, List.mapM_cons, this]
    rfl
def gAll : List D → Option S
  | [.lst xs] => (blsOf xs).map fun bs => .d (.bl (bs.all id))
  | _ => none
def gAny : List D → Option S
  | [.lst xs] => (blsOf xs).map fun bs => .d (.bl (bs.any id))
  | _ => none
theorem prAll : PrL K (rAll K) gAll := by
  intro F H vs ds s Q sm r eg hq
  unfold gAll at eg
  split at eg
  · rename_i xs
    cases e : blsOf xs with
    | none => rw [e] at eg; cases eg
    | some bs =>
      rw [e] at eg
      cases eg
      rw [bls_of e] at r
      obtain ⟨u, rfl, ru⟩ := RpA.one r
      obtain ⟨a, us, rfl, h1, h2⟩ := ru.lst_inv
      rw [RpA.bls_inv h2] at h1
      exact ⟨a, bs, rfl, sqL_of (sm _ _ h1), hq.here sm (.bl _)⟩
  · cases eg
theorem prAny : PrL K (rAny K) gAny := by
  intro F H vs ds s Q sm r eg hq
  unfold gAny at eg
  split at eg
  · rename_i xs
    cases e : blsOf xs with
    | none => rw [e] at eg; cases eg
    | some bs =>
      rw [e] at eg
      cases eg
      rw [bls_of e] at r
      obtain ⟨u, rfl, ru⟩ := RpA.one r
      obtain ⟨a, us, rfl, h1, h2⟩ := ru.lst_inv
      rw [RpA.bls_inv h2] at h1
      exact ⟨a, bs, rfl, sqL_of (sm _ _ h1), hq.here sm (.bl _)⟩
  · cases eg
@[simp] theorem gAll_bls (bs : List Bool) : gAll [.lst (bs.map .bl)] = some (.d (.bl (bs.all id))) := by simp [gAll, blsOf_map]
@[simp] theorem gAny_bls (bs : List Bool) : gAny [.lst (bs.map .bl)] = some (.d (.bl (bs.any id))) := by simp [gAny, blsOf_map]
def intsOf (ds : List D) : Option (List Int) := ds.mapM asI
theorem ints_of : ∀ {ds : List D} {bs : List Int}, intsOf ds = some bs → ds = bs.map .int
  | [], bs, h => by
    have : bs = [] := by simpa [intsOf] using h.symm
    subst this; rfl
  | d :: r, bs, h => by
    unfold intsOf at h
    rw [List.mapM_cons] at h
    cases d with
    | int b =>
      cases e : List.mapM asI r with
      | none => rw [e] at h; cases h
      | some cs =>
        rw [e] at h
        cases h
        rw [ints_of (ds := r) (bs := cs) e]
        rfl
    | _ => cases h
theorem intsOf_map : ∀ bs : List Int, intsOf (bs.map .int) = some bs
  | [] => rfl
  | b :: r => by
    have := intsOf_map r
    unfold intsOf at this ⊢
    rw [List.map_cons, List.mapM_cons, this]
    rfl
/-- a list of ints, by its ints -/
def gLI (f : List Int → Option S) : List D → Option S
  | [.lst xs] => (intsOf xs).bind f
  | _ => none
theorem prLI {r : List V → Hp → VK → Prop} {f : List Int → Option S} (h : ∀ F H a ns s Q, Same F H → F a = some (.lst (ns.map V.int)) → f ns = some s → Res K F H s Q → r [.ref a] H Q) : PrL K r (gLI f) := by
  intro F H vs ds s Q sm r eg hq
  unfold gLI at eg
  split at eg
  · rename_i xs
    cases e : intsOf xs with
    | none => rw [e] at eg; cases eg
    | some bs =>
      rw [e] at eg
      rw [ints_of e] at r
      obtain ⟨u, rfl, ru⟩ := RpA.one r
      obtain ⟨a, us, rfl, h1, h2⟩ := ru.lst_inv
      rw [RpA.ints_inv h2] at h1
      exact h F H a bs s Q sm h1 eg hq
  · cases eg
theorem gLI_map {f : List Int → Option S} (ns : List Int) : gLI f [.lst (ns.map .int)] = f ns := by simp [gLI, intsOf_map]
def gSum : List D → Option S := gLI fun ns => some (.d (.int ns.sum))
theorem prSum : PrL K (rSum K) gSum := prLI fun F H a ns s Q sm h e hq => by cases e; exact ⟨a, ns, rfl, sqL_of (sm _ _ h), hq.here sm (.int _)⟩
@[simp] theorem gSum_ints (ns : List Int) : gSum [.lst (ns.map .int)] = some (.d (.int ns.sum)) := gLI_map ns
def maxI : List Int → Int
  | [] => 0
  | [a] => a
  | a :: r => max a (maxI r)
def minI : List Int → Int
  | [] => 0
  | [a] => a
  | a :: r => min a (minI r)
theorem maxI_ok : ∀ {ns : List Int}, 0 < ns.length → maxI ns ∈ ns ∧ ∀ y ∈ ns, y ≤ maxI ns
  | [a], _ => by simp [maxI]
  | a :: b :: r, _ => by
    obtain ⟨h1, h2⟩ := maxI_ok (ns := b :: r) (by simp)
    have e : maxI (a :: b :: r) = max a (maxI (b :: r)) := rfl
    rw [e]
    refine ⟨?_, fun y hy => ?_⟩
    · rcases Int.le_total a (maxI (b :: r)) with h | h
      · rw [Int.max_eq_right h]; exact List.mem_cons_of_mem _ h1
      · rw [Int.max_eq_left h]; exact List.mem_cons_self ..
    · rcases List.mem_cons.mp hy with rfl | hy
      · omega
      · have := h2 y hy; omega
theorem minI_ok : ∀ {ns : List Int}, 0 < ns.length → minI ns ∈ ns ∧ ∀ y ∈ ns, minI ns ≤ y
  | [a], _ => by simp [minI]
  | a :: b :: r, _ => by
    obtain ⟨h1, h2⟩ := minI_ok (ns := b :: r) (by simp)
    have e : minI (a :: b :: r) = min a (minI (b :: r)) := rfl
    rw [e]
    refine ⟨?_, fun y hy => ?_⟩
    · rcases Int.le_total a (minI (b :: r)) with h | h
      · rw [Int.min_eq_left h]; exact List.mem_cons_self ..
      · rw [Int.min_eq_right h]; exact List.mem_cons_of_mem _ h1
    · rcases List.mem_cons.mp hy with rfl | hy
      · omega
      · have := h2 y hy; omega
def gMaxL : List D → Option S := gLI fun ns => if 0 < ns.length then some (.d (.int (maxI ns))) else none
def gMinL : List D → Option S := gLI fun ns => if 0 < ns.length then some (.d (.int (minI ns))) else none
theorem prMaxL : PrL K (rMax K) gMaxL := prLI fun F H a ns s Q sm h e hq => by
  split at e
  · rename_i hl
    cases e
    refine ⟨a, ns, rfl, sqL_of (sm _ _ h), hl, fun m h1 h2 => ?_⟩
    obtain ⟨h3, h4⟩ := maxI_ok hl
    have : m = maxI ns := Int.le_antisymm (h4 m h1) (h2 _ h3)
    rw [this]
    exact hq.here sm (.int _)
  · cases e
theorem prMinL : PrL K (rMin K) gMinL := prLI fun F H a ns s Q sm h e hq => by
  split at e
  · rename_i hl
    cases e
    refine ⟨a, ns, rfl, sqL_of (sm _ _ h), hl, fun m h1 h2 => ?_⟩
    obtain ⟨h3, h4⟩ := minI_ok hl
    have : m = minI ns := Int.le_antisymm (h2 _ h3) (h4 m h1)
    rw [this]
    exact hq.here sm (.int _)
  · cases e
/-- a list of ints sorted -/
def insI (a : Int) : List Int → List Int
  | [] => [a]
  | b :: r => if a ≤ b then a :: b :: r else b :: insI a r
def sortI : List Int → List Int
  | [] => []
  | a :: r => insI a (sortI r)
theorem insI_perm (a : Int) : ∀ l : List Int, (insI a l).Perm (a :: l)
  | [] => .refl _
  | b :: r => by
    unfold insI
    split
    · exact .refl _
    · exact ((insI_perm a r).cons b).trans (.swap a b r)
theorem insI_sorted (a : Int) : ∀ {l : List Int}, l.Pairwise (· ≤ ·) → (insI a l).Pairwise (· ≤ ·)
  | [], _ => by simp [insI]
  | b :: r, h => by
    unfold insI
    obtain ⟨h1, h2⟩ := List.pairwise_cons.mp h
    split
    · rename_i hab
      refine List.pairwise_cons.mpr ⟨fun c hc => ?_, h⟩
      rcases List.mem_cons.mp hc with rfl | hc
      · exact hab
      · exact Int.le_trans hab (h1 c hc)
    · rename_i hab
      refine List.pairwise_cons.mpr ⟨fun c hc => ?_, insI_sorted a h2⟩
      rcases List.mem_cons.mp ((insI_perm a r).mem_iff.mp hc) with rfl | hc
      · omega
      · exact h1 c hc
theorem sortI_perm : ∀ l : List Int, (sortI l).Perm l
  | [] => .refl _
  | a :: r => (insI_perm a _).trans ((sortI_perm r).cons a)
theorem sortI_sorted : ∀ l : List Int, (sortI l).Pairwise (· ≤ ·)
  | [] => by simp [sortI]
  | a :: r => insI_sorted a (sortI_sorted r)
theorem sortI_uniq {l m : List Int} (h : m.Perm l) (hm : m.Pairwise (· ≤ ·)) : m = sortI l :=
  List.Perm.eq_of_pairwise (le := fun a b : Int => a ≤ b) (fun a b _ _ h1 h2 => Int.le_antisymm h1 h2) hm (sortI_sorted l) (h.trans (sortI_perm l).symm)
def gSortI : List D → Option S := gLI fun ns => some (.o (oL ((sortI ns).map .int)))
theorem prSortI : PrL K (rSortedI K) gSortI := prLI fun F H a ns s Q sm h e hq => by
  cases e
  refine ⟨a, ns, rfl, sqL_of (sm _ _ h), fun ns' p h1 h2 hp => ?_⟩
  rw [sortI_uniq h1 h2]
  exact hq.newL sm hp RpA.ints
@[simp] theorem gSortI_ints (ns : List Int) : gSortI [.lst (ns.map .int)] = some (.o (oL ((sortI ns).map .int))) := gLI_map ns
/-! tuple, list of a thing -/
def gTuple : List D → Option S
  | [.tup xs] => some (.d (.tup xs))
  | [.lst xs] => some (.d (.tup xs))
  | _ => none
theorem prTuple : PrL K (rTupQ K) gTuple := by
  intro F H vs ds s Q sm r eg hq
  unfold gTuple at eg
  split at eg
  · cases eg
    obtain ⟨u, rfl, ru⟩ := RpA.one r
    obtain ⟨a, us, rfl, h1, h2⟩ := ru.tup_inv
    exact ⟨a, us, rfl, .inr ⟨sqT_of (sm _ _ h1), hq.here sm ru⟩⟩
  · cases eg
    obtain ⟨u, rfl, ru⟩ := RpA.one r
    obtain ⟨a, us, rfl, h1, h2⟩ := ru.lst_inv
    exact ⟨a, us, rfl, .inl ⟨sqL_of (sm _ _ h1), fun l hl => hq.newT sm hl h2⟩⟩
  · cases eg
@[simp] theorem gTuple_tup (xs : List D) : gTuple [.tup xs] = some (.d (.tup xs)) := rfl
@[simp] theorem gTuple_lst (xs : List D) : gTuple [.lst xs] = some (.d (.tup xs)) := rfl
def gList : List D → Option S
  | [.tup xs] => some (.o (oL xs))
  | [.lst xs] => some (.o (oL xs))
  | [.scr ns] => some (.o (oL (ns.map .int)))
  | _ => none
theorem prList : PrL K (rLstQ K) gList := by
  intro F H vs ds s Q sm r eg hq
  unfold gList at eg
  split at eg
  · cases eg
    obtain ⟨u, rfl, ru⟩ := RpA.one r
    obtain ⟨a, us, rfl, h1, h2⟩ := ru.tup_inv
    exact ⟨a, us, rfl, .inr (sqT_of (sm _ _ h1)), fun l hl => hq.newL sm hl h2⟩
  · cases eg
    obtain ⟨u, rfl, ru⟩ := RpA.one r
    obtain ⟨a, us, rfl, h1, h2⟩ := ru.lst_inv
    exact ⟨a, us, rfl, .inl (sqL_of (sm _ _ h1)), fun l hl => hq.newL sm hl h2⟩
  · cases eg
    obtain ⟨u, rfl, ru⟩ := RpA.one r
    cases ru with
    | scr sq => exact ⟨_, _, rfl, .inl (sm.seq sq), fun l hl => hq.newL sm hl RpA.ints⟩
  · cases eg
/-! ints by built-ins -/
def gMax2 : List D → Option S
  | [.int i, .int j] => some (.d (.int (if j > i then j else i)))
  | _ => none
def gMin2 : List D → Option S
  | [.int i, .int j] => some (.d (.int (if j < i then j else i)))
  | _ => none
def gAbs : List D → Option S
  | [.int i] => some (.d (.int (if i < 0 then -i else i)))
  | _ => none
def gInt : List D → Option S
  | [.int i] => some (.d (.int i))
  | [.bl b] => some (.d (.int (if b then 1 else 0)))
  | _ => none
theorem prMax2 : PrL K (fun xs H Q => ∃ i j, xs = [.int i, .int j] ∧ Q (.int (if j > i then j else i)) H) gMax2 := by
  intro F H vs ds s Q sm r eg hq
  unfold gMax2 at eg
  split at eg
  · cases eg
    obtain ⟨u, w, rfl, ru, rw'⟩ := RpA.two r
    exact ⟨_, _, by rw [ru.int_inv, rw'.int_inv], hq.here sm (.int _)⟩
  · cases eg
theorem prMin2 : PrL K (fun xs H Q => ∃ i j, xs = [.int i, .int j] ∧ Q (.int (if j < i then j else i)) H) gMin2 := by
  intro F H vs ds s Q sm r eg hq
  unfold gMin2 at eg
  split at eg
  · cases eg
    obtain ⟨u, w, rfl, ru, rw'⟩ := RpA.two r
    exact ⟨_, _, by rw [ru.int_inv, rw'.int_inv], hq.here sm (.int _)⟩
  · cases eg
theorem prAbs : PrL K (fun xs H Q => ∃ i, xs = [.int i] ∧ Q (.int (if i < 0 then -i else i)) H) gAbs := by
  intro F H vs ds s Q sm r eg hq
  unfold gAbs at eg
  split at eg
  · cases eg
    obtain ⟨u, rfl, ru⟩ := RpA.one r
    exact ⟨_, by rw [ru.int_inv], hq.here sm (.int _)⟩
  · cases eg
theorem prInt : PrL K (fun xs H Q => (∃ i, xs = [.int i] ∧ Q (.int i) H) ∨ ∃ k, xs = [.bl k] ∧ Q (.int (if k then 1 else 0)) H) gInt := by
  intro F H vs ds s Q sm r eg hq
  unfold gInt at eg
  split at eg
  · cases eg
    obtain ⟨u, rfl, ru⟩ := RpA.one r
    exact .inl ⟨_, by rw [ru.int_inv], hq.here sm (.int _)⟩
  · cases eg
    obtain ⟨u, rfl, ru⟩ := RpA.one r
    exact .inr ⟨_, by rw [ru.bl_inv], hq.here sm (.int _)⟩
  · cases eg
@[simp] theorem gMax2_int (i j : Int) : gMax2 [.int i, .int j] = some (.d (.int (if j > i then j else i))) := rfl
@[simp] theorem gMin2_int (i j : Int) : gMin2 [.int i, .int j] = some (.d (.int (if j < i then j else i))) := rfl
@[simp] theorem gInt_int (i : Int) : gInt [.int i] = some (.d (.int i)) := rfl
@[simp] theorem gInt_bl (b : Bool) : gInt [.bl b] = some (.d (.int (if b then 1 else 0))) := rfl
@[simp] theorem gAbs_int (i : Int) : gAbs [.int i] = some (.d (.int (if i < 0 then -i else i))) := rfl
/-! isinstance -/
def tyN : D → Option String
  | .non => some "NoneType"
  | .bl _ => some "bool"
  | .int _ => some "int"
  | .str _ => some "str"
  | .tup _ => some "tuple"
  | .lst _ => some "list"
  | .scr _ => some "list"
  | .dK _ => some "dict"
  | .dT _ => some "dict"
  | .ob _ _ _ => none
theorem Rp.tyX {F H : Hp} {v : V} {d : D} {t : String} (sm : Same F H) (h : Rp K F v d) (e : tyN d = some t) : TyX K H v (.type t) := by
  cases h with
  | non => cases e; exact .base .non
  | bl b => cases e; exact .base (.bl b)
  | int i => cases e; exact .base (.int i)
  | str x => cases e; exact .base (.str x)
  | lst s a => cases e; exact .base (.lst (sm _ _ s))
  | tup s a => cases e; exact .base (.tup (sm _ _ s))
  | scr s => cases e; exact ty_D (d := dL _) (Dp.intsL (sm.seq s))
  | dK s => cases e; exact .base (.dK (sm _ _ s))
  | dT s => cases e; exact .base (.dT (sm _ _ s))
  | ob => cases e
def gIsi (T : String) (d : D) : Option S := (tyN d).bind fun t => (kitB t T).map fun b => .d (.bl b)
def dIsi (T : String) (fa : FE) : FN := dUn (gIsi T) fa
theorem dn_isi {a : Expr} {fa : FE} {p p2 pos : Pos} {x : Str} {T : String} (hg : Gl X "isinstance") (hm : X.mg "isinstance" = none) (ha : DE X K W a fa) (gx : Gl X x) (mx : X.mg x = none) (vx : bootBuiltins x = some (.type T)) (hK : X.K = K := by rfl)
    (hn : x ≠ "__name__" := by decide) (hdb : (x == ("__debug__" : Str)) = false := by decide)
    (h1 : starEach [a, .Name x p2] X.env = (false, eval a X.env) :: starEach [.Name x p2] X.env := by rfl) (h2 : starEach [.Name x p2] X.env = [(false, eval (.Name x p2) X.env)] := by rfl) (hpl : (backTo pos (starEach [.Name x p2] X.env)).any (·.1) = false := by rfl) :
    DN X K W (.Call (.Name "isinstance" p) [a, .Name x p2] [] pos) (dIsi T fa) := by
  subst hK
  have hp : PA X [a, .Name x p2] (tCons (LE X.K W fa) (tCons (tC (.ty T)) tNil)) := pa_cons ha.pe (pa_cons (pe_ty gx mx vx hn hdb) pa_nil h2) h1
  refine ⟨(pe_callB call_isi hg hm bt_isinstance hp (by decide) (by decide) h1 hpl).weak fun σ H Q ⟨F, ρ, rl, q⟩ => ?_⟩
  refine ⟨F, ρ, rl, (Post.bind q).mono fun x ρ1 F1 H1 A1 q1 v rv => ?_⟩
  dsimp only at q1
  cases eg : gIsi T x with
  | none => rw [eg] at q1; exact q1.elim
  | some s =>
    rw [eg] at q1
    unfold gIsi at eg
    cases e1 : tyN x with
    | none => rw [e1] at eg; cases eg
    | some t =>
      rw [e1] at eg
      dsimp only [Option.bind] at eg
      cases e2 : kitB t T with
      | none => rw [e2] at eg; cases eg
      | some b =>
        rw [e2] at eg
        cases eg
        refine ⟨v, .ty T, .type t, .type T, b, rfl, .ty T, rv.tyX A1.rel.sub e1, kit_ty e2, ?_⟩
        exact q1 F1 H1 (Aft.refl A1.rel) (.bl b) (.bl b) (fun _ z => nomatch z)
end
end RL

namespace RL
open PySem PySem.Spec PyProof.Rows L2
/-! what is owned is read, and stays owned -/
def frS : Option S → Option S
  | some s => some (.d s.frz)
  | none => none
def frA (ρ : Sl) : Sl := ρ.map frS
section
variable {K : PySem.W.Frag} {F H : Hp} {σ : L2.St} {ρ : Sl}
open Classical in
noncomputable def frF (F H : Hp) (σ : L2.St) (ρ : Sl) : Hp := fun q => if OwnS σ ρ q then H q else F q
theorem frF_sub (r : Rel K F H σ ρ) : Same F (frF F H σ ρ) := fun q o e => by
  unfold frF
  split
  · rename_i h
    rw [(h.there r).1] at e; cases e
  · exact e
theorem frF_le (r : Rel K F H σ ρ) : Same (frF F H σ ρ) H := fun q o e => by
  unfold frF at e
  split at e
  · exact e
  · exact r.sub q o e
theorem frA_get {i : Nat} {s : S} (h : (frA ρ)[i]? = some (some s)) : ∃ t, ρ[i]? = some (some t) ∧ s = .d t.frz := by
  unfold frA at h
  rw [List.getElem?_map] at h
  cases e : ρ[i]? with
  | none => rw [e] at h; cases h
  | some x =>
    rw [e] at h
    cases x with
    | none => cases h
    | some t => cases h; exact ⟨t, rfl, rfl⟩
theorem rp_frz {p : Addr} {o : HO} {c : OC} {F1 : Hp} (h : RO K F1 p o c) (hp : F1 p = some o) : Rp K F1 (.ref p) c.frz := by
  obtain ⟨t, c⟩ := c
  obtain ⟨_, h⟩ := h
  cases c with
  | ol xs => cases o with
    | lst vs => exact .lst hp h
    | _ => exact h.elim
  | od kvs => cases o with
    | dK k => obtain rfl : k = kvs := h; exact .dK hp
    | _ => exact h.elim
  | oT kvs => cases o with
    | dT k => obtain rfl : k = kvs := h; exact .dT hp
    | _ => exact h.elim
  | oI C ns xs => cases o with
    | ins A dx fs => obtain ⟨rfl, h1, h2⟩ := h; exact .ob hp h1 h2
    | _ => exact h.elim
theorem rel_frA (r : Rel K F H σ ρ) : Rel K (frF F H σ ρ) H σ (frA ρ) := by
  refine ⟨frF_le r, fun i s e => ?_, fun i j c c' p e1 _ _ _ => ?_, by rw [frA, List.length_map]; exact r.len⟩
  · obtain ⟨t, h1, rfl⟩ := frA_get e
    obtain ⟨v, ev, q⟩ := r.at_ i t h1
    refine ⟨v, ev, ?_⟩
    cases t with
    | d x => exact Rp.mono (frF_sub r) q
    | o c =>
      obtain ⟨p, o, rfl, g1, g2, g3⟩ := q
      refine rp_frz (g3.mono (frF_sub r)) ?_
      unfold frF
      rw [if_pos ⟨i, c, h1, ev⟩]
      exact g2
  · obtain ⟨t, _, h⟩ := frA_get e1
    cases h
theorem no_own_frA {p : Addr} (h : OwnS σ (frA ρ) p) : False := by
  obtain ⟨i, c, h1, _⟩ := h
  obtain ⟨t, _, h⟩ := frA_get h1
  cases h
theorem aft_peek {F' H' : Hp} {ρ' : Sl} (r : Rel K F H σ ρ) (a : Aft K (frF F H σ ρ) H σ (frA ρ) F' H' σ ρ') : Aft K F H σ ρ F H' σ ρ := by
  have keep : ∀ q o, H q = some o → OwnS σ ρ q → H' q = some o := fun q o e ow => by
    refine a.rel.sub q o (a.tr.ff q o ?_)
    unfold frF
    rw [if_pos ow]
    exact e
  refine ⟨⟨fun q o e => a.rel.sub q o (a.tr.ff q o (frF_sub r q o e)), fun i s e => ?_, r.dis, r.len⟩, ⟨Same.refl _, a.tr.dom, fun q o e1 e2 e3 => ⟨?_, e2⟩⟩, fun p h => .inl h⟩
  · obtain ⟨v, ev, q⟩ := r.at_ i s e
    refine ⟨v, ev, ?_⟩
    cases s with
    | d x => exact q
    | o c =>
      obtain ⟨p, o, rfl, g1, g2, g3⟩ := q
      exact ⟨p, o, rfl, g1, keep p o g2 ⟨i, c, e, ev⟩, g3⟩
  · refine (a.tr.keep q o e1 ?_ (fun z => no_own_frA z)).1
    unfold frF
    rw [if_neg e3]
    exact e2
theorem Rp.scal {F1 : Hp} {v : V} {d : D} (h : Rp K F1 v d) (f : flatD d = true) : Rp K F v d := by
  cases h with
  | non => exact .non
  | bl b => exact .bl b
  | int i => exact .int i
  | str x => exact .str x
  | _ => cases f
end
def pkE (f : FE) : FE := fun ρ => match f (frA ρ) with
  | .ok (x, _) => if flatD x = true then .ok (x, ρ) else .no
  | _ => .no
def pkT (f : FT) : FT := fun ρ => match f (frA ρ) with
  | .ok (b, _) => .ok (b, ρ)
  | _ => .no
section
variable {X : Cx} {K : PySem.W.Frag} {W : WX} {e : Expr} {es : List Expr} {fa : FE} {f : FT} {fr : FA} {pos : Pos}
theorem de_pk (h : DE X K W e fa) : DE X K W e (pkE fa) := ⟨h.pe.weak fun σ H Q ⟨F, ρ, r, q⟩ => by
  refine ⟨_, _, rel_frA r, ?_⟩
  unfold pkE at q
  cases e1 : fa (frA ρ) with
  | no => rw [e1] at q; exact q
  | er x y => rw [e1] at q; exact q.elim
  | ok x =>
    rw [e1] at q
    obtain ⟨x, ρ'⟩ := x
    dsimp only at q
    split at q
    · rename_i hx
      exact fun F' H' A v rv => q F H' (aft_peek r A) v (rv.scal hx)
    · exact q.elim⟩
theorem dt_pk (h : DT X K W e f) : DT X K W e (pkT f) := ⟨h.pt.weak fun σ H Q ⟨F, ρ, r, q⟩ => by
  refine ⟨_, _, rel_frA r, ?_⟩
  unfold pkT at q
  cases e1 : f (frA ρ) with
  | no => rw [e1] at q; exact q
  | er x y => rw [e1] at q; exact q.elim
  | ok x =>
    rw [e1] at q
    obtain ⟨x, ρ'⟩ := x
    exact fun F' H' A => q F H' (aft_peek r A)⟩
end
/-! what is owned is changed -/
section
variable {K : PySem.W.Frag} {F H F' H' : Hp} {σ : L2.St} {ρ : Sl}
theorem aft_mut {i : Nat} {p : Addr} {c c' : OC} {o' : HO} (r : Rel K F H σ ρ) (hi : ρ[i]? = some (some (.o c))) (hp : σ[i]? = some (some (.ref p))) (ho : RO K F p o' c') : Aft K F H σ ρ F (upd H p o') σ (ρ.set i (some (.o c'))) := by
  have ow : OwnS σ ρ p := ⟨i, c, hi, hp⟩
  obtain ⟨hF, o, hH⟩ := ow.there r
  refine ⟨⟨fun q x e => by rw [upd_ne (ne_of_none e hF)]; exact r.sub q x e, fun j s e => ?_, fun j k c1 c2 q e1 e2 e3 e4 => ?_, by rw [List.length_set]; exact r.len⟩, ⟨Same.refl _, fun q e => ?_, fun q x e1 e2 e3 => ?_⟩, fun q h => .inl ?_⟩
  · rcases get_set_some e with ⟨rfl, z⟩ | ⟨hj, z⟩
    · cases z
      exact ⟨_, hp, p, o', rfl, hF, upd_same, ho⟩
    · obtain ⟨w, ew, q⟩ := r.at_ j s z
      refine ⟨w, ew, ?_⟩
      cases s with
      | d x => exact q
      | o c1 =>
        obtain ⟨p', o1, rfl, g1, g2, g3⟩ := q
        have ne : p' ≠ p := fun y => hj (r.dis j i _ _ p z hi (by rw [ew, y]) hp)
        exact ⟨p', o1, rfl, g1, by rw [upd_ne ne]; exact g2, g3⟩
  · have f : ∀ {j c1}, (ρ.set i (some (.o c')))[j]? = some (some (S.o c1)) → ∃ c2 : OC, ρ[j]? = some (some (S.o c2)) := fun {j c1} e => by
      rcases get_set_some e with ⟨rfl, _⟩ | ⟨_, z⟩
      · exact ⟨c, hi⟩
      · exact ⟨c1, z⟩
    obtain ⟨d1, h1⟩ := f e1
    obtain ⟨d2, h2⟩ := f e2
    exact r.dis j k d1 d2 q h1 h2 e3 e4
  · by_cases hb : q = p
    · subst hb; rw [upd_same] at e; cases e
    · rwa [upd_ne hb] at e
  · rw [upd_ne (fun z => e3 (by rw [z]; exact ow))]
    exact ⟨e1, e2⟩
  · obtain ⟨j, c1, e1, e2⟩ := h
    rcases get_set_some e1 with ⟨rfl, _⟩ | ⟨_, z⟩
    · exact ⟨j, c, hi, e2⟩
    · exact ⟨j, c1, z, e2⟩
theorem own_at {i : Nat} {c : OC} (r : Rel K F H σ ρ) (hi : ρ[i]? = some (some (.o c))) : ∃ p o, σ[i]? = some (some (.ref p)) ∧ F p = none ∧ H p = some o ∧ RO K F p o c := by
  obtain ⟨v, ev, p, o, rfl, h1, h2, h3⟩ := r.at_ i _ hi
  exact ⟨p, o, ev, h1, h2, h3⟩
theorem RO.lst_inv {p : Addr} {o : HO} {t : Option Addr} {xs : List D} (h : RO K F p o ⟨t, .ol xs⟩) : (∀ a, t = some a → p = a) ∧ ∃ vs, o = .lst vs ∧ RpA K F vs xs := by
  obtain ⟨h1, h⟩ := h
  cases o with
  | lst vs => exact ⟨h1, vs, rfl, h⟩
  | _ => exact h.elim
end
/-- the list in a slot -/
def olAt (ρ : Sl) (i : Nat) : Option (Option Addr × List D) := match ρ[i]? with
  | some (some (.o ⟨t, .ol xs⟩)) => some (t, xs)
  | _ => none
theorem olAt_some {ρ : Sl} {i : Nat} {t : Option Addr} {xs : List D} (h : olAt ρ i = some (t, xs)) : ρ[i]? = some (some (.o ⟨t, .ol xs⟩)) := by
  unfold olAt at h
  split at h
  · rename_i e; cases h; exact e
  · cases h
/-- x.append(e), x.extend(e): u tells the new list -/
def dMutL (i : Nat) (u : List D → List D → Option (List D)) (fr : FA) : FE := fun ρ => match olAt ρ i with
  | none => .no
  | some _ => fr ρ >>= fun p => match olAt p.2 i with
    | none => .no
    | some (t, xs) => match u xs p.1 with
      | none => .no
      | some ys => .ok (.non, p.2.set i (some (.o ⟨t, .ol ys⟩)))
def uApp (xs : List D) : List D → Option (List D)
  | [d] => if xs.length < sizeLine then some (xs ++ [d]) else none
  | _ => none
def uExt (xs : List D) : List D → Option (List D)
  | [.lst ys] => if xs.length + ys.length ≤ sizeLine then some (xs ++ ys) else none
  | _ => none
def PrM (K : PySem.W.Frag) (r : V → List V → Hp → VK → Prop) (u : List D → List D → Option (List D)) : Prop := ∀ F H p vs xs us ds ys Q, Same F H → F p = none → H p = some (.lst vs) → RpA K F vs xs → RpA K F us ds → u xs ds = some ys → (∀ ws, RpA K F ws ys → Q .non (upd H p (.lst ws))) → r (.ref p) us H Q
theorem prApp {K : PySem.W.Frag} : PrM K rAppend uApp := by
  intro F H p vs xs us ds ys Q sm hF hH rx ru eu q
  unfold uApp at eu
  split at eu
  · split at eu
    · cases eu
      rename_i hl
      obtain ⟨w, rfl, rw'⟩ := RpA.one ru
      exact ⟨p, vs, w, rfl, rfl, hH, by rw [rx.len]; exact hl, q _ (rx.app (.cons rw' .nil))⟩
    · cases eu
  · cases eu
theorem prExt {K : PySem.W.Frag} : PrM K rExtend uExt := by
  intro F H p vs xs us ds ys Q sm hF hH rx ru eu q
  unfold uExt at eu
  split at eu
  · split at eu
    · cases eu
      rename_i hl
      obtain ⟨w, rfl, rw'⟩ := RpA.one ru
      obtain ⟨b, zs, rfl, h1, h2⟩ := rw'.lst_inv
      exact ⟨p, b, vs, zs, rfl, rfl, hH, sm _ _ h1, by rw [rx.len, h2.len]; exact hl, q _ (rx.app h2)⟩
    · cases eu
  · cases eu
section
variable {X : Cx} {K : PySem.W.Frag} {W : WX} {a b c e o value : Expr} {es : List Expr} {fa fb : FE} {fr : FA} {pos apos cpos : Pos}
theorem de_mutL {name : Str} {id : String} {i : Nat} {r : V → List V → Hp → VK → Prop} {u : List D → List D → Option (List D)} (hr : PrM K r u) (slot : Slot "list" name id) (hty : typeOf (.builtin id) = pure (.type "method_descriptor")) (hm : MtR X id r) (ho : PE X o (tVar i)) (ha : DA X K W (e :: es) fr)
    (hbase : attributeBase o name X.env (eval o X.env) = eval o X.env := by rfl)
    (hfew : ((backTo cpos (starEach (e :: es) X.env)).all (fun x => !x.1) && (backToKw cpos (keywordEach [] X.env)).all (fun x => x.1.isSome)
      && decide ((e :: es).length + ([] : List Keyword).length + (if ([] : List Keyword).isEmpty then 0 else 1) < 30)) = true := by rfl)
    (hl : (apos.endLine == cpos.line) = true := by rfl) (hs : starEach (e :: es) X.env = (false, eval e X.env) :: starEach es X.env := by rfl) (hp : (backTo cpos (starEach es X.env)).any (·.1) = false := by rfl) (hK : X.K = K := by rfl) :
    DE X K W (.Call (.Attribute o name apos) (e :: es) [] cpos) (dMutL i u fr) :=
  ⟨(pe_M K PySem.F.plainAttrs_list slot hty hm ho ha.pa hbase hfew hl hs hp hK).weak fun σ H Q ⟨F, ρ, rl, q⟩ => by
    unfold dMutL at q
    cases e1 : olAt ρ i with
    | none => rw [e1] at q; exact q.elim
    | some tx =>
      rw [e1] at q
      obtain ⟨t, xs⟩ := tx
      obtain ⟨p, ob, ev, g1, g2, g3⟩ := own_at rl (olAt_some e1)
      obtain ⟨_, vs, rfl, rx⟩ := g3.lst_inv
      refine ⟨.ref p, ev, .inl ⟨rfl, vs, sqL_of g2⟩, F, ρ, rl, (Post.bind q).mono fun ds ρ1 F1 H1 A1 q1 us ru => ?_⟩
      dsimp only at q1
      cases e2 : olAt ρ1 i with
      | none => rw [e2] at q1; exact q1.elim
      | some ty =>
        rw [e2] at q1
        obtain ⟨t2, xs2⟩ := ty
        obtain ⟨p2, ob2, ev2, k1, k2, k3⟩ := own_at A1.rel (olAt_some e2)
        rw [ev] at ev2
        cases ev2
        obtain ⟨kt, vs2, rfl, rx2⟩ := k3.lst_inv
        dsimp only at q1
        cases e3 : u xs2 ds with
        | none => rw [e3] at q1; exact q1.elim
        | some ys =>
          rw [e3] at q1
          exact hr F1 H1 p vs2 xs2 us ds ys Q A1.rel.sub k1 k2 rx2 ru e3 fun ws rw' => q1 F1 _ (aft_mut (c' := ⟨t2, .ol ys⟩) (o' := .lst ws) A1.rel (olAt_some e2) ev ⟨kt, rw'⟩) .non .non⟩
/-- x[k] = e, x a list -/
def sSetIx (i : Nat) (fk fv : FE) : FS := fun ρ => fv ρ >>= fun v => match olAt v.2 i with
  | none => .no
  | some _ => fk v.2 >>= fun k => match olAt k.2 i, k.1 with
    | some (t, xs), .int z => (match ixN xs.length z with
      | some j => .ok (.nx (k.2.set i (some (.o ⟨t, .ol (xs.set j v.1)⟩))))
      | none => .no)
    | _, _ => .no
theorem ds_setIx {i : Nat} {k : Expr} {fk fv : FE} {st : Stmt} (ho : PE X o (tVar i)) (hk : DE X K W k fk) (hv : DE X K W value fv)
    (hp : ∀ {to ti te : TE}, PE X o to → PE X k ti → PE X value te → PS X st (tAsg te (L2.gSub to ti rSetL))) : DS X K W st (sSetIx i fk fv) :=
  ⟨(hp ho hk.pe hv.pe).weak fun D σ H ⟨F, ρ, rl, q⟩ => by
    refine ⟨F, ρ, rl, (PostS.bind q).mono fun x ρ1 F1 H1 A1 q1 v rv => ?_⟩
    dsimp only at q1
    cases e1 : olAt ρ1 i with
    | none => rw [e1] at q1; exact q1.elim
    | some tx =>
      rw [e1] at q1
      obtain ⟨t, xs⟩ := tx
      obtain ⟨p, ob, ev, g1, g2, g3⟩ := own_at A1.rel (olAt_some e1)
      dsimp only at q1
      refine ⟨.ref p, ev, F1, ρ1, A1.rel, (PostS.bind q1).mono fun z ρ2 F2 H2 A2 q2 w rw' => ?_⟩
      dsimp only at q2
      split at q2
      · rename_i t2 xs2 zi e2
        obtain ⟨p2, ob2, ev2, k1, k2, k3⟩ := own_at A2.rel (olAt_some e2)
        rw [ev] at ev2
        cases ev2
        obtain ⟨kt, vs2, rfl, rx2⟩ := k3.lst_inv
        cases e3 : ixN xs2.length zi with
        | none => rw [e3] at q2; exact q2.elim
        | some j =>
          rw [e3] at q2
          exact ⟨p, vs2, zi, j, rfl, rw'.int_inv, k2, by rw [rx2.len]; exact e3, q2 σ F2 _ (aft_mut (c' := ⟨t2, .ol (xs2.set j x)⟩) (o' := .lst (vs2.set j v)) A2.rel (olAt_some e2) ev ⟨kt, RpA.set j rx2 (Rp.mono A2.tr.ff rv)⟩)⟩
      · exact q2.elim⟩
end
end RL

namespace RL
open PySem PySem.Spec PyProof.Rows L2
/-! fields -/
def lkN (f : Str) : List Str → List D → Option D
  | n :: ns, d :: ds => if f = n then some d else lkN f ns ds
  | _, _ => none
section
variable {K : PySem.W.Frag} {F H F' H' : Hp} {σ : L2.St} {ρ : Sl}
theorem lkN_rp {f : Str} : ∀ {fs : List (Str × V)} {ns : List Str} {ds : List D} {d : D}, fs.map Prod.fst = ns → RpA K F (fs.map Prod.snd) ds → lkN f ns ds = some d → ∃ v, fs.lookup f = some v ∧ Rp K F v d
  | [], ns, ds, d, h1, h2, h3 => by
    subst h1
    cases h3
  | (n, v) :: r, ns, ds, d, h1, h2, h3 => by
    subst h1
    cases h2 with
    | @cons _ _ e es a t =>
      have h3 : (if f = n then some e else lkN f (r.map Prod.fst) es) = some d := h3
      by_cases hf : f = n
      · rw [if_pos hf] at h3
        cases h3
        exact ⟨v, by rw [List.lookup_cons, hf]; simp, a⟩
      · rw [if_neg hf] at h3
        obtain ⟨u, e1, e2⟩ := lkN_rp (fs := r) rfl t h3
        exact ⟨u, by rw [List.lookup_cons, beq_eq_false_iff_ne.mpr hf]; exact e1, e2⟩
end
def dFld (C f : Str) (fa : FE) : FE := fun ρ => fa ρ >>= fun p => match p.1 with
  | .ob C' ns ds => if C' = C then rsO p.2 (lkN f ns ds) else .no
  | _ => .no
section
variable {X : Cx} {K : PySem.W.Frag} {W : WX} {a b c e o value : Expr} {es : List Expr} {fa fb : FE} {fr : FA} {pos pos' apos cpos p2 : Pos} {f C : Str}
theorem de_fld (he : DE X K W e fa) (cl : Cls K (He.ga K C)) (na : NoAttr K (He.ga K C) f) (hb : attributeBase e f X.env (eval e X.env) = eval e X.env := by rfl) (hK : X.K = K := by rfl) : DE X K W (.Attribute e f pos) (dFld C f fa) :=
  ⟨(pe_F K he.pe hb hK).weak fun σ H Q ⟨F, ρ, rl, q⟩ => ⟨F, ρ, rl, (Post.bind q).mono fun x ρ1 F1 H1 A1 q1 v rv => by
    dsimp only at q1
    split at q1
    · rename_i C' ns ds
      by_cases hC : C' = C
      · rw [if_pos hC] at q1
        subst hC
        cases el : lkN f ns ds with
        | none => rw [el] at q1; exact q1.elim
        | some d =>
          rw [el] at q1
          cases rv with
          | ob h1 h2 h3 =>
            obtain ⟨u, e1, e2⟩ := lkN_rp h2 h3 el
            exact ⟨_, _, _, _, u, rfl, A1.rel.sub _ _ h1, cl, na, e1, q1 F1 H1 (Aft.refl A1.rel) u e2⟩
      · rw [if_neg hC] at q1; exact q1.elim
    · exact q1.elim⟩⟩
/-! starred arguments -/
def aStar (fe : FE) (fr : FA) : FA := fun ρ => fe ρ >>= fun p => match p.1 with
  | .tup xs => fr p.2 >>= fun q => .ok (xs ++ q.1, q.2)
  | .lst xs => fr p.2 >>= fun q => .ok (xs ++ q.1, q.2)
  | _ => .no
theorem da_star (he : DE X K W e fa) (hr : DA X K W es fr) (hs : starEach (.Starred e p2 :: es) X.env = (true, eval e X.env) :: starEach es X.env := by rfl) (hK : X.K = K := by rfl) : DA X K W (.Starred e p2 :: es) (aStar fa fr) :=
  ⟨(pa_S K he.pe hr.pa hs hK).weak fun σ H Q ⟨F, ρ, rl, q⟩ => ⟨F, ρ, rl, (Post.bind q).mono fun x ρ1 F1 H1 A1 q1 v rv => by
    dsimp only at q1
    split at q1
    · rename_i xs
      obtain ⟨a, us, rfl, h1, h2⟩ := rv.tup_inv
      exact ⟨a, us, rfl, .inl (sqT_of (A1.rel.sub _ _ h1)), F1, ρ1, A1.rel, (Post.bind q1).mono fun ds ρ2 F2 H2 A2 q2 ws rws => q2 F2 H2 (Aft.refl A2.rel) _ ((RpA.mono A2.tr.ff h2).app rws)⟩
    · rename_i xs
      obtain ⟨a, us, rfl, h1, h2⟩ := rv.lst_inv
      exact ⟨a, us, rfl, .inr (sqL_of (A1.rel.sub _ _ h1)), F1, ρ1, A1.rel, (Post.bind q1).mono fun ds ρ2 F2 H2 A2 q2 ws rws => q2 F2 H2 (Aft.refl A2.rel) _ ((RpA.mono A2.tr.ff h2).app rws)⟩
    · exact q1.elim⟩⟩
/-! raise -/
def sRz (x : Str) : FS := fun ρ => .er ⟨x, []⟩ ρ
theorem ds_rz {mg : Str → Option Value} {x : Str} {p : Pos} (c : XC K mg x) (tk : Takes X W) (hK : X.K = K := by rfl) (hm : X.mg = mg := by rfl) (hc : X.calm = true := by rfl) (hg : Gl X x := by rfl)
    (hdb : (x == ("__debug__" : Str)) = false := by decide) : DS X K W (.Raise (some (.Call (.Name x p) [] [] pos)) none pos') (sRz x) :=
  ⟨(ps_rz c tk hK hm hc hg hdb).weak fun D σ H ⟨F, ρ, rl, q⟩ => q none σ F H (Aft.refl rl) rfl⟩
def sRm1 (x f : Str) (fr : FA) : FS := fun ρ => fr ρ >>= fun p => match p.1 with
  | [d] => if flatD d = true then .er ⟨x, [(f, toV d)]⟩ p.2 else .no
  | _ => .no
theorem ds_rm1 {x : Str} {p : Pos} {k j : Nat} (c : XM X.prog X.w X.K X.mg X.base k x (sp_init1 (He.ga K x) f)) (tk : Takes X W) (hr : Room j X.A) (ha : DA X K W (e :: es) fr) (hk : k + 1 ≤ j := by decide) (hK : X.K = K := by rfl) (hc : X.calm = true := by rfl) (hg : Gl X x := by rfl)
    (hdb : (x == ("__debug__" : Str)) = false := by decide) (hs : starEach (e :: es) X.env = (false, eval e X.env) :: starEach es X.env := by rfl) (hpl : (backTo pos (starEach es X.env)).any (·.1) = false := by rfl) :
    DS X K W (.Raise (some (.Call (.Name x p) (e :: es) [] pos)) none pos') (sRm1 x f fr) :=
  ⟨(ps_rm K c tk hr ha.pa hk hK hc hg hdb hs hpl).weak fun D σ H ⟨F, ρ, rl, q⟩ => ⟨F, ρ, rl, (PostS.bind q).mono fun ds ρ1 F1 H1 A1 q1 vs rv => by
    dsimp only at q1
    split at q1
    · rename_i d
      split at q1
      · rename_i hd
        obtain ⟨u, rfl, ru⟩ := RpA.one rv
        rw [(ru.flat hd).1]
        exact mkW1 fun a ha => q1 (some a) σ F1 _ (Aft.step A1.rel (.alloc ha) (Same.alloc A1.rel.sub ha)) ⟨a, rfl, upd_same⟩
      · exact q1.elim
    · exact q1.elim⟩⟩
def sRm2 (x f g : Str) (fr : FA) : FS := fun ρ => fr ρ >>= fun p => match p.1 with
  | [d, d'] => if flatD d = true ∧ flatD d' = true then .er ⟨x, [(g, toV d'), (f, toV d)]⟩ p.2 else .no
  | _ => .no
theorem ds_rm2 {x g : Str} {p : Pos} {k j : Nat} (c : XM X.prog X.w X.K X.mg X.base k x (sp_init2 (He.ga K x) f g)) (tk : Takes X W) (hr : Room j X.A) (ha : DA X K W (e :: es) fr) (hk : k + 1 ≤ j := by decide) (hK : X.K = K := by rfl) (hc : X.calm = true := by rfl) (hg : Gl X x := by rfl)
    (hdb : (x == ("__debug__" : Str)) = false := by decide) (hs : starEach (e :: es) X.env = (false, eval e X.env) :: starEach es X.env := by rfl) (hpl : (backTo pos (starEach es X.env)).any (·.1) = false := by rfl) :
    DS X K W (.Raise (some (.Call (.Name x p) (e :: es) [] pos)) none pos') (sRm2 x f g fr) :=
  ⟨(ps_rm K c tk hr ha.pa hk hK hc hg hdb hs hpl).weak fun D σ H ⟨F, ρ, rl, q⟩ => ⟨F, ρ, rl, (PostS.bind q).mono fun ds ρ1 F1 H1 A1 q1 vs rv => by
    dsimp only at q1
    split at q1
    · rename_i d d'
      split at q1
      · rename_i hd
        obtain ⟨u, w, rfl, ru, rw'⟩ := RpA.two rv
        rw [(ru.flat hd.1).1, (rw'.flat hd.2).1]
        exact mkW2 fun a ha => q1 (some a) σ F1 _ (Aft.step A1.rel (.alloc ha) (Same.alloc A1.rel.sub ha)) ⟨a, rfl, upd_same⟩
      · exact q1.elim
    · exact q1.elim⟩⟩
/-! name += e -/
def sAug (i : Nat) (h : Int → Int → Int) (fa : FE) : FS := fun ρ => match ρ[i]? with
  | some (some (.d (.int m))) => fa ρ >>= fun p => (match p.1 with
    | .int n => .ok (.nx (p.2.set i (some (.d (.int (h m n))))))
    | _ => .no)
  | _ => .no
theorem ds_aug {i : Nat} {h : Int → Int → Int} {st : Stmt} (he : DE X K W e fa) (hp : PE X e (LE K W fa) → PS X st (tAug i (LE K W fa) (ipI h))) : DS X K W st (sAug i h fa) :=
  ⟨(hp he.pe).weak fun D σ H ⟨F, ρ, rl, q⟩ => by
    unfold sAug at q
    split at q
    · rename_i m em
      obtain ⟨v, ev, rv⟩ := rl.at_ i _ em
      refine ⟨v, ev, F, ρ, rl, (PostS.bind q).mono fun x ρ1 F1 H1 A1 q1 u ru => ?_⟩
      dsimp only at q1
      cases x with
      | int n => exact ⟨m, n, Rp.int_inv rv, ru.int_inv, q1 _ F1 H1 (Rel.setD A1.rel (.int _))⟩
      | _ => exact q1.elim
    · exact q.elim⟩
end
/-! values of their own, several -/
def Dj (v : V) (s : S) : List V → List S → Prop
  | w :: ws, t :: ts => (∀ p, v = .ref p → s.own = true → t.own = true → w ≠ .ref p) ∧ Dj v s ws ts
  | _, _ => True
def RNs (K : PySem.W.Frag) (σ : L2.St) (ρ : Sl) (H F' H' : Hp) : List V → List S → Prop
  | [], [] => True
  | v :: vs, s :: ss => RN K H F' H' v s ∧ (∀ p, v = .ref p → s.own = true → ¬ OwnS σ ρ p) ∧ Dj v s vs ss ∧ RNs K σ ρ H F' H' vs ss
  | _, _ => False
abbrev FM := Sl → Rs (List S × Sl)
def LM (K : PySem.W.Frag) (W : WX) (f : FM) : TA := fun σ H Q => ∃ F ρ, Rel K F H σ ρ ∧ Post K W F H σ ρ (f ρ) fun ss ρ' F' H' => ∀ vs, RNs K σ ρ' H F' H' vs ss → Q vs H'
structure DM (X : Cx) (K : PySem.W.Frag) (W : WX) (es : List Expr) (f : FM) : Prop where
  pa : PA X es (LM K W f)
section
variable {K : PySem.W.Frag} {F H F' H' F1 H1 : Hp} {σ σ' : L2.St} {ρ ρ' : Sl}
/-- a value of its own stays over a step -/
theorem RN.over {v : V} {s : S} (h : RN K H F1 H1 v s) (n : ∀ p, v = .ref p → s.own = true → ¬ OwnS σ ρ p) (a : Aft K F1 H1 σ ρ F' H' σ' ρ') : RN K H F' H' v s ∧ ∀ p, v = .ref p → s.own = true → ¬ OwnS σ' ρ' p := by
  cases s with
  | d x => exact ⟨Rp.mono a.tr.ff h, fun _ _ z => nomatch z⟩
  | o c =>
    obtain ⟨p, o, rfl, h1, h2, h3, h4⟩ := h
    obtain ⟨b1, b2, b3⟩ := a.stays h3 h2 (n p rfl rfl)
    exact ⟨⟨p, o, rfl, h1, b2, b1, h4.mono a.tr.ff⟩, fun q e _ => by cases e; exact b3⟩
end
def mNil : FM := fun ρ => .ok ([], ρ)
def mCons (fe : FN) (fr : FM) : FM := fun ρ => fe ρ >>= fun p => fr p.2 >>= fun q => .ok (p.1 :: q.1, q.2)
section
variable {X : Cx} {K : PySem.W.Frag} {W : WX} {a b c e o value : Expr} {es : List Expr} {fa fb : FE} {fe : FN} {fr : FM} {pos pos' apos cpos p2 : Pos} {f C : Str}
def nE (fa : FE) : FN := fun ρ => fa ρ >>= fun p => .ok (.d p.1, p.2)
theorem DE.dn (h : DE X K W e fa) : DN X K W e (nE fa) := ⟨h.pe.weak fun σ H Q ⟨F, ρ, rl, q⟩ => ⟨F, ρ, rl, (Post.bind q).mono fun x ρ1 F1 H1 A1 q1 v rv => q1 F1 H1 (Aft.refl A1.rel) v rv (fun _ _ z => nomatch z)⟩⟩
theorem dm_nil : DM X K W [] mNil := ⟨pa_nil.weak fun σ H Q ⟨F, ρ, r, q⟩ => q F H (Aft.refl r) [] trivial⟩
theorem Dj.of_new {H1 : Hp} {v : V} {s : S} {F' H' : Hp} {σ : L2.St} {ρ : Sl} (hv : ∀ p, v = .ref p → s.own = true → ∃ o, H1 p = some o) : ∀ {vs : List V} {ss : List S}, RNs K σ ρ H1 F' H' vs ss → Dj v s vs ss
  | [], [], _ => trivial
  | w :: ws, t :: ts, h => ⟨fun p e1 e2 e3 e4 => (by
      obtain ⟨o, ho⟩ := hv p e1 e2
      cases t with
      | d x => cases e3
      | o c =>
        obtain ⟨p', o', e, h1, _⟩ := h.1
        rw [e4] at e
        cases e
        rw [h1] at ho; cases ho), Dj.of_new hv h.2.2.2⟩
theorem RNs.dom {H0 H1 : Hp} {F' H' : Hp} {σ : L2.St} {ρ : Sl} (d : ∀ p, H1 p = none → H0 p = none) : ∀ {vs : List V} {ss : List S}, RNs K σ ρ H1 F' H' vs ss → RNs K σ ρ H0 F' H' vs ss
  | [], [], _ => trivial
  | _ :: _, _ :: _, h => ⟨h.1.dom d, h.2.1, h.2.2.1, RNs.dom d h.2.2.2⟩
theorem dm_cons (he : DN X K W e fe) (hr : DM X K W es fr) (hs : starEach (e :: es) X.env = (false, eval e X.env) :: starEach es X.env := by rfl) : DM X K W (e :: es) (mCons fe fr) :=
  ⟨(pa_cons he.pe hr.pa hs).weak fun σ H Q ⟨F, ρ, r, q⟩ => ⟨F, ρ, r, (Post.bind q).mono fun x ρ1 F1 H1 A1 q1 v rv nv => ⟨F1, ρ1, A1.rel, (Post.bind q1).mono fun xs ρ2 F2 H2 A2 q2 vs rvs => by
    obtain ⟨r1, r2⟩ := rv.over nv A2
    refine q2 F2 H2 (Aft.refl A2.rel) _ ⟨r1, r2, Dj.of_new (fun p e1 e2 => ?_) rvs, rvs.dom A1.tr.dom⟩
    cases x with
    | d x => cases e2
    | o c =>
      obtain ⟨p', o', e, h1, h2, h3, _⟩ := rv
      rw [e1] at e
      cases e
      exact ⟨o', h3⟩⟩⟩⟩
/-- several names get values of their own -/
def putS (ρ : Sl) : List Nat → List S → Option Sl
  | [], [] => some ρ
  | i :: is, s :: ss => putS (ρ.set i (some s)) is ss
  | _, _ => none
def putV (σ : L2.St) : List Nat → List V → Option L2.St
  | [], [] => some σ
  | i :: is, s :: ss => putV (σ.set i (some s)) is ss
  | _, _ => none
theorem RNs.put {F H F' H' : Hp} {σ0 : L2.St} {ρ0 : Sl} : ∀ {is : List Nat} {vs : List V} {ss : List S} {σ : L2.St} {ρ ρ2 : Sl}, Aft K F H σ0 ρ0 F' H' σ ρ → RNs K σ ρ H F' H' vs ss → putS ρ is ss = some ρ2 → ∃ σ2, putV σ is vs = some σ2 ∧ Aft K F H σ0 ρ0 F' H' σ2 ρ2
  | [], [], [], σ, ρ, ρ2, a, _, e => by cases e; exact ⟨σ, rfl, a⟩
  | [], [], _ :: _, _, _, _, _, h, _ => h.elim
  | [], _ :: _, [], _, _, _, _, h, _ => h.elim
  | [], _ :: _, _ :: _, _, _, _, _, _, e => by cases e
  | _ :: _, [], [], _, _, _, _, _, e => by cases e
  | _ :: _, [], _ :: _, _, _, _, _, h, _ => h.elim
  | _ :: _, _ :: _, [], _, _, _, _, h, _ => h.elim
  | i :: is, v :: vs, s :: ss, σ, ρ, ρ2, a, h, e => by
    obtain ⟨h1, h2, h3, h4⟩ := h
    have A := a.setS (i := i) h1 h2
    refine RNs.put (is := is) (vs := vs) (ss := ss) (σ := σ.set i (some v)) (ρ := ρ.set i (some s)) A ?_ e
    have key : ∀ {vs : List V} {ss : List S}, Dj v s vs ss → RNs K σ ρ H F' H' vs ss → RNs K (σ.set i (some v)) (ρ.set i (some s)) H F' H' vs ss := by
      intro vs
      induction vs with
      | nil => intro ss _ h; cases ss with
        | nil => trivial
        | cons _ _ => exact h.elim
      | cons w ws ih => intro ss hd h; cases ss with
        | nil => exact h.elim
        | cons t ts =>
          refine ⟨h.1, fun p e1 e2 ow => ?_, h.2.2.1, ih hd.2 h.2.2.2⟩
          obtain ⟨j, c', q1, q2⟩ := ow
          rcases get_set_some q1 with ⟨rfl, z⟩ | ⟨hj, z⟩
          · cases z
            have hl : j < (σ.set j (some v)).length := (List.getElem?_eq_some_iff.mp q2).1
            rw [List.getElem?_set_self (by simpa using hl)] at q2
            cases q2
            exact hd.1 p rfl rfl e2 e1
          · rw [List.getElem?_set_ne (Ne.symm hj)] at q2
            exact h.2.1 p e1 e2 ⟨j, c', z, q2⟩
    exact key h3 h4
def sParM (is : List Nat) (fr : FM) : FS := fun ρ => fr ρ >>= fun p => sOf (putS p.2 is p.1)
theorem ls_par {is : List Nat} {σ : L2.St} {H : Hp} {D : Ends} {R : List V → Hp → Prop} (h : LS K W (sParM is fr) D σ H) (hR : ∀ vs H' F ρ F' ρ2 σ2, putV σ is vs = some σ2 → Aft K F H σ ρ F' H' σ2 ρ2 → (∀ σ' F'' H'', Aft K F H σ ρ F'' H'' σ' ρ2 → D.nx σ' H'') → R vs H') : LM K W fr σ H R := by
  obtain ⟨F, ρ, rl, q⟩ := h
  refine ⟨F, ρ, rl, ?_⟩
  have q : PostS K W F H σ ρ (fr ρ >>= fun p => sOf (putS p.2 is p.1)) D := q
  cases e1 : fr ρ with
  | no => rw [e1] at q; exact q
  | er x y => rw [e1] at q; exact fun d F' H' A => q d σ F' H' A
  | ok x =>
    obtain ⟨ss, ρ1⟩ := x
    rw [e1] at q
    have q : PostS K W F H σ ρ (sOf (putS ρ1 is ss)) D := q
    intro F1 H1 A1 vs rv
    cases e2 : putS ρ1 is ss with
    | none => rw [e2] at q; exact q.elim
    | some ρ2 =>
      rw [e2] at q
      obtain ⟨σ2, e3, A2⟩ := rv.put A1 e2
      exact hR vs H1 F ρ F1 ρ2 σ2 e3 A2 q
/-- a, b = x, y without a tuple -/
theorem ds_par {i j : Nat} {st : Stmt} (h : DM X K W es fr) (hp : ∀ {ta : TA}, PA X es ta → PS X st (tPar i j ta)) : DS X K W st (sParM [i, j] fr) :=
  ⟨(hp h.pa).weak fun D σ H q => ls_par q fun vs H' F ρ F' ρ2 σ2 e A k => by
    match vs, e with
    | [v, w], e => cases e; exact ⟨v, w, rfl, k _ F' H' A⟩
    | [], e => cases e
    | [_], e => cases e
    | _ :: _ :: _ :: _, e => cases e⟩
theorem ds_par3 {i j l : Nat} {st : Stmt} (h : DM X K W es fr) (hp : ∀ {ta : TA}, PA X es ta → PS X st (tPar3 i j l ta)) : DS X K W st (sParM [i, j, l] fr) :=
  ⟨(hp h.pa).weak fun D σ H q => ls_par q fun vs H' F ρ F' ρ2 σ2 e A k => by
    match vs, e with
    | [v, w, u], e => cases e; exact ⟨v, w, u, rfl, k _ F' H' A⟩
    | [], e => cases e
    | [_], e => cases e
    | [_, _], e => cases e
    | _ :: _ :: _ :: _ :: _, e => cases e⟩
theorem putV_len {is : List Nat} : ∀ {σ : L2.St} {vs : List V} {σ2 : L2.St}, putV σ is vs = some σ2 → vs.length = is.length := by
  induction is with
  | nil => intro σ vs σ2 e; cases vs with
    | nil => rfl
    | cons _ _ => cases e
  | cons i is ih => intro σ vs σ2 e; cases vs with
    | nil => cases e
    | cons v vs => have := ih (σ := σ.set i (some v)) e; simp [this]
/-- .. with one -/
theorem ds_parT {is : List Nat} {st : Stmt} {tg : TGs} (h : DM X K W es fr) (hl : is.length ≤ sizeLine) (hg : ∀ vs σ H Q σ2, putV σ is vs = some σ2 → Q σ2 H → tg vs σ H Q) (hp : ∀ {ta : TA}, PA X es ta → PS X st (tAsg (tTup ta) (gTup K is.length tg))) : DS X K W st (sParM is fr) :=
  ⟨(hp h.pa).weak fun D σ H q => ls_par q fun vs H' F ρ F' ρ2 σ2 e A k => by
    have el := putV_len e
    refine ⟨by rw [el]; exact hl, fun p hp => ⟨p, vs, rfl, sqT_of upd_same, el, hg vs σ _ _ σ2 e ?_⟩⟩
    exact k _ F' _ (A.trans (Aft.step A.rel (.alloc hp) (Same.alloc A.rel.sub hp)))⟩
end
end RL

namespace RL
open PySem PySem.Spec PyProof.Rows L2
/-! defs that change their first argument -/
inductive FrO where
  | ok (s : S) (c : OB) | er (e : Ex) (c : OB) | no
def HasO (K : PySem.W.Frag) (F H : Hp) (p : Addr) (c : OB) : Prop := F p = none ∧ ∃ o, H p = some o ∧ RO0 K F o c
abbrev TrP (p : Addr) := Tr fun q => q = p
def spO (K : PySem.W.Frag) (n : Nat) (Fn : OB → List D → FrO) : Sp := fun vs H Q E => ∃ F p us c ds, Same F H ∧ vs = .ref p :: us ∧ HasO K F H p c ∧ RpA K F us ds ∧ ds.length = n ∧ match Fn c ds with
  | .ok s c' => ∀ v F' H', TrP p F H F' H' → Same F' H' → RN K H F' H' v s → HasO K F' H' p c' → Q v H'
  | .er e c' => ∀ d F' H', TrP p F H F' H' → Same F' H' → HasO K F' H' p c' → RE H' d e → E (.ref (He.ga K e.c)) d H'
  | .no => False
def ocAt (ρ : Sl) (i : Nat) : Option OC := match ρ[i]? with
  | some (some (.o c)) => some c
  | _ => none
theorem ocAt_some {ρ : Sl} {i : Nat} {c : OC} (h : ocAt ρ i = some c) : ρ[i]? = some (some (.o c)) := by
  unfold ocAt at h
  split at h
  · rename_i e; cases h; exact e
  · cases h
/-- the end of such a def: what stands in slot 0 -/
def outO (p : Addr) : Rs Flow → FrO
  | .ok (.nx ρ) => (match ocAt ρ 0 with | some ⟨t, c⟩ => if t = some p then .ok (.d .non) c else .no | _ => .no)
  | .ok (.rt s ρ) => (match ocAt ρ 0 with | some ⟨t, c⟩ => if t = some p then .ok s c else .no | _ => .no)
  | .er e ρ => (match ocAt ρ 0 with | some ⟨t, c⟩ => if t = some p then .er e c else .no | _ => .no)
  | _ => .no
def startO (n : Nat) (p : Addr) (c : OB) (ds : List D) : Sl := some (.o ⟨some p, c⟩) :: (ds.map (fun d => some (.d d)) ++ List.replicate (n - (ds.length + 1)) none)
section
variable {K : PySem.W.Frag} {F H F' H' : Hp} {σ σ' : L2.St} {ρ ρ' : Sl}
theorem has_of {p : Addr} {c : OB} (r : Rel K F H σ ρ) (h : ocAt ρ 0 = some ⟨some p, c⟩) : HasO K F H p c := by
  obtain ⟨q, o, e, h1, h2, h3⟩ := own_at r (ocAt_some h)
  have : q = p := h3.1 p rfl
  subst this
  exact ⟨h1, o, h2, h3.2⟩
theorem rel_startO {N : List Str} {us : List V} {ds : List D} {p : Addr} {c : OB} (sm : Same F H) (h : HasO K F H p c) (r : RpA K F us ds) : Rel K F H (start N (.ref p :: us)) (startO N.length p c ds) ∧ ∀ q, OwnS (start N (.ref p :: us)) (startO N.length p c ds) q → q = p := by
  have g0 : ∀ {i : Nat} {s : S}, (startO N.length p c ds)[i]? = some (some s) → (i = 0 ∧ s = .o ⟨some p, c⟩) ∨ ∃ j d, i = j + 1 ∧ ds[j]? = some d ∧ s = .d d := fun {i s} e => by
    cases i with
    | zero => cases e; exact .inl ⟨rfl, rfl⟩
    | succ j =>
      have e : (ds.map (fun d => some (S.d d)) ++ List.replicate (N.length - (ds.length + 1)) none)[j]? = some (some s) := e
      refine .inr ⟨j, ?_⟩
      by_cases hi : j < ds.length
      · rw [List.getElem?_append_left (by simpa using hi), List.getElem?_map] at e
        cases e1 : ds[j]? with
        | none => rw [e1] at e; cases e
        | some d => rw [e1] at e; cases e; exact ⟨d, rfl, rfl, rfl⟩
      · rw [List.getElem?_append_right (by simpa using hi), List.getElem?_replicate] at e
        split at e <;> cases e
  have z0 : (start N (V.ref p :: us))[0]? = some (some (.ref p)) := start_get rfl
  refine ⟨⟨sm, fun i s e => ?_, fun i j c1 c2 q e1 e2 _ _ => ?_, ?_⟩, fun q ⟨i, c1, e1, e2⟩ => ?_⟩
  · rcases g0 e with ⟨rfl, rfl⟩ | ⟨j, d, rfl, h1, rfl⟩
    · obtain ⟨h1, o, h2, h3⟩ := h
      exact ⟨_, z0, p, o, rfl, h1, h2, (fun a z => by cases z; rfl), h3⟩
    · obtain ⟨v, h2, h3⟩ := r.get' h1
      exact ⟨v, start_get (by simpa using h2), h3⟩
  · rcases g0 e1 with ⟨rfl, _⟩ | ⟨_, _, _, _, z⟩
    · rcases g0 e2 with ⟨rfl, _⟩ | ⟨_, _, _, _, z⟩
      · rfl
      · cases z
    · cases z
  · unfold L2.start startO
    have := r.len
    simp [this]
  · rcases g0 e1 with ⟨rfl, _⟩ | ⟨_, _, _, _, z⟩
    · rw [z0] at e2
      cases e2
      rfl
    · cases z
end
section
variable {P : Program} {w : World} {K : PySem.W.Frag} {mg : Str → Option Value} {base : Heap}
/-- the body's run keeps the promise -/
theorem run_spO {N : List Str} {X : Cx} {body : List Stmt} {g : FS} {E : XK} {n : Nat} {Fn : OB → List D → FrO} (hb : DSs X K (fun cls d _ H => E cls d H) body g) (hg : ∀ p c ds, Fn c ds ≠ .no → outO p (g (startO N.length p c ds)) = Fn c ds)
    {vs : List V} {H : Hp} {Q : VK} (h : spO K n Fn vs H Q E) : ∃ t, PSs X body t ∧ t { nx := fun _ H' => Q .non H', rt := Q } (start N vs) H := by
  obtain ⟨F, p, us, c, ds, sm, rfl, ho, r, hl, h⟩ := h
  refine ⟨_, hb.ps, ?_⟩
  obtain ⟨rl, no⟩ := rel_startO (N := N) sm ho r
  refine ⟨F, startO N.length p c ds, rl, ?_⟩
  have hno : Fn c ds ≠ .no := fun z => by rw [z] at h; exact h
  have hq := hg p c ds hno
  have t0 : ∀ {F' H' : Hp} {σ' : L2.St} {ρ' : Sl}, Aft K F H (start N (.ref p :: us)) (startO N.length p c ds) F' H' σ' ρ' → TrP p F H F' H' := fun a => ⟨a.tr.ff, a.tr.dom, fun q o h1 h2 h3 => a.tr.keep q o h1 h2 fun z => h3 (no q z)⟩
  cases eg : g (startO N.length p c ds) with
  | no => rw [eg] at hq; exact absurd hq.symm hno
  | er e ρ' =>
    rw [eg] at hq
    unfold outO at hq
    dsimp only at hq
    cases eo : ocAt ρ' 0 with
    | none => rw [eo] at hq; exact absurd hq.symm hno
    | some oc =>
      obtain ⟨t, c'⟩ := oc
      rw [eo] at hq
      dsimp only at hq
      by_cases ht : t = some p
      · rw [if_pos ht] at hq
        subst ht
        rw [← hq] at h
        exact fun d σ' F' H' a re => h d F' H' (t0 a) a.rel.sub (has_of a.rel eo) re
      · rw [if_neg ht] at hq; exact absurd hq.symm hno
  | ok fl =>
    rw [eg] at hq
    cases fl with
    | bk ρ' => exact absurd hq.symm hno
    | ct ρ' => exact absurd hq.symm hno
    | nx ρ' =>
      unfold outO at hq
      dsimp only at hq
      cases eo : ocAt ρ' 0 with
      | none => rw [eo] at hq; exact absurd hq.symm hno
      | some oc =>
        obtain ⟨t, c'⟩ := oc
        rw [eo] at hq
        dsimp only at hq
        by_cases ht : t = some p
        · rw [if_pos ht] at hq
          subst ht
          rw [← hq] at h
          exact fun σ' F' H' a => h .non F' H' (t0 a) a.rel.sub .non (has_of a.rel eo)
        · rw [if_neg ht] at hq; exact absurd hq.symm hno
    | rt s ρ' =>
      unfold outO at hq
      dsimp only at hq
      cases eo : ocAt ρ' 0 with
      | none => rw [eo] at hq; exact absurd hq.symm hno
      | some oc =>
        obtain ⟨t, c'⟩ := oc
        rw [eo] at hq
        dsimp only at hq
        by_cases ht : t = some p
        · rw [if_pos ht] at hq
          subst ht
          rw [← hq] at h
          exact fun v σ' F' H' a rn _ => h v F' H' (t0 a) a.rel.sub rn (has_of a.rel eo)
        · rw [if_neg ht] at hq; exact absurd hq.symm hno
theorem run_spD {N : List Str} {X : Cx} {body : List Stmt} {g : FS} {E : XK} {n : Nat} {Fn : List D → Fr} (hb : DSs X K (fun cls d _ H => E cls d H) body g) (hg : ∀ ds, Fn ds ≠ .no → out (g (startD N.length ds)) = Fn ds)
    {vs : List V} {H : Hp} {Q : VK} (h : spD K n Fn vs H Q E) : ∃ t, PSs X body t ∧ t { nx := fun _ H' => Q .non H', rt := Q } (start N vs) H := by
  obtain ⟨F, ds, sm, r, hl, h⟩ := h
  refine ⟨_, hb.ps, ?_⟩
  obtain ⟨rl, no⟩ := rel_start (N := N) sm r
  refine ⟨F, startD N.length ds, rl, ?_⟩
  have hno : Fn ds ≠ .no := fun z => by rw [z] at h; exact h
  have hq := hg ds hno
  have t0 : ∀ {F' H' : Hp} {σ' : L2.St} {ρ' : Sl}, Aft K F H (start N vs) (startD N.length ds) F' H' σ' ρ' → Tr0 F H F' H' := fun a => ⟨a.tr.ff, a.tr.dom, fun p o h1 h2 _ => a.tr.keep p o h1 h2 (no p)⟩
  cases eg : g (startD N.length ds) with
  | no => rw [eg] at hq; exact absurd hq.symm hno
  | er e ρ' =>
    rw [eg] at hq
    rw [← hq] at h
    exact fun d σ' F' H' a re => h d F' H' (t0 a) a.rel.sub re
  | ok fl =>
    rw [eg] at hq
    cases fl with
    | bk ρ' => exact absurd hq.symm hno
    | ct ρ' => exact absurd hq.symm hno
    | nx ρ' =>
      rw [← hq] at h
      exact fun σ' F' H' a => h .non F' H' (t0 a) a.rel.sub .non
    | rt s ρ' =>
      rw [← hq] at h
      exact fun v σ' F' H' a rn _ => h v F' H' (t0 a) a.rel.sub rn
structure CalO (P : Program) (w : World) (K : PySem.W.Frag) (mg : Str → Option Value) (base : Heap) (k : Nat) (x : Str) (n : Nat) (Fn : OB → List D → FrO) : Prop where
  c : Kal P w K mg base k x (spO K n Fn)
  n : ∀ c ds, Fn c ds ≠ .no → ds.length = n
theorem calO {x : Str} {st : Stmt} {N ps : List Str} {k n : Nat} {Fn : OB → List D → FrO} (g : FS) (T : TxD K mg x st) (S : FnScope N ps (defScope st)) (hn : ps.length = n + 1)
    (hbd : ∀ (dV kV doc pm : Value) (an : Option Addr) (cdv ct : Value) (us : List Value), us.length = ps.length → bindArgs (PySem.W.fnOf x x (defArgs st) (defBody st) (defScope st) .none kV doc pm an cdv ct) ⟨us, []⟩ = pure (ps.zip us))
    (hb : ∀ (f : Addr) (cdv : Value) (A : Around) (outer : List Env) (s : Shared) (H : Hp) (E : XK), Room k (A.deeper (envOfC x (defScope st) s.heap.objs.size f cdv)) →
      DSs (cxOf (L2.CX P w) P w K mg base N x (defScope st) f cdv A outer s H E) K (fun cls d _ H => E cls d H) (defBody st) g)
    (hg1 : ∀ c ds, Fn c ds ≠ .no → ds.length = n) (hg : ∀ p c ds, Fn c ds ≠ .no → outO p (g (startO N.length p c ds)) = Fn c ds) : CalO P w K mg base (k + 1) x n Fn := by
  refine ⟨kal T S (fun vs H Q E h => ?_) hbd (fun f cdv A outer s H vs Q E hr h => run_spO (hb f cdv A outer s H E hr) hg h), hg1⟩
  obtain ⟨F, p, us, c, ds, _, rfl, _, r, hl, _⟩ := h
  rw [List.length_cons, r.len, hl, hn]
/-- a def that stands elsewhere (a method, a getter) -/
structure FnD (P : Program) (w : World) (K : PySem.W.Frag) (mg : Str → Option Value) (base : Heap) (k : Nat) (a : Addr) (sp : Sp) : Prop where
  ex : ∃ (fd : FuncData) (ps : List Str), FnOk P w K mg base (L2.CX P w) k a fd ps sp ∧ Binds K fd ps []
theorem fnD {x q : Str} {st : Stmt} {N ps : List Str} {k : Nat} {a : Addr} {sp : Sp} (T : ∃ fd, FunD K x q (defArgs st) (defBody st) (defScope st) [] [] a fd) (S : FnScope N ps (defScope st))
    (hbd : ∀ (kV doc pm : Value) (an : Option Addr) (cdv ct : Value) (us : List Value), us.length = ps.length → bindArgs (PySem.W.fnOf x q (defArgs st) (defBody st) (defScope st) .none kV doc pm an cdv ct) ⟨us, []⟩ = pure (ps.zip us))
    (len : ∀ vs H Q E, sp vs H Q E → vs.length = ps.length)
    (hb : ∀ (cdv : Value) (A : Around) (outer : List Env) (s : Shared) (H : Hp) (vs : List V) (Q : VK) (E : XK), Room k (A.deeper (envOfC q (defScope st) s.heap.objs.size a cdv)) → sp vs H Q E →
      ∃ t, PSs (cxOf (L2.CX P w) P w K mg base N q (defScope st) a cdv A outer s H E) (defBody st) t ∧ t { nx := fun _ H' => Q .non H', rt := Q } (start N vs) H) : FnD P w K mg base (k + 1) a sp := by
  obtain ⟨fd, F⟩ := T
  exact ⟨fd, ps, F.ok S len hb, F.bindsN hbd⟩
theorem spO_len {n : Nat} {Fn : OB → List D → FrO} {vs : List V} {H : Hp} {Q : VK} {E : XK} (h : spO K n Fn vs H Q E) : vs.length = n + 1 := by
  obtain ⟨F, p, us, c, ds, _, rfl, _, r, hl, _⟩ := h
  rw [List.length_cons, r.len, hl]
theorem spD_len {n : Nat} {Fn : List D → Fr} {vs : List V} {H : Hp} {Q : VK} {E : XK} (h : spD K n Fn vs H Q E) : vs.length = n := by
  obtain ⟨F, ds, _, r, hl, _⟩ := h
  rw [r.len, hl]
end
/-! their calls -/
def dCallO (i : Nat) (Fn : OB → List D → FrO) (fr : FA) : FN := fun ρ => match ocAt ρ i with
  | none => .no
  | some _ => fr ρ >>= fun p => match ocAt p.2 i with
    | none => .no
    | some ⟨t, c⟩ => match Fn c p.1 with
      | .ok s c' => .ok (s, p.2.set i (some (.o ⟨t, c'⟩)))
      | .er e c' => .er e (p.2.set i (some (.o ⟨t, c'⟩)))
      | .no => .no
section
variable {K : PySem.W.Frag} {F H F' H' : Hp} {σ : L2.St} {ρ : Sl}
theorem aft_callO {i : Nat} {p : Addr} {t : Option Addr} {c c' : OB} (r : Rel K F H σ ρ) (hi : ρ[i]? = some (some (.o ⟨t, c⟩))) (hp : σ[i]? = some (some (.ref p))) (tr : TrP p F H F' H') (sm : Same F' H') (ho : HasO K F' H' p c') : Aft K F H σ ρ F' H' σ (ρ.set i (some (.o ⟨t, c'⟩))) := by
  have ow : OwnS σ ρ p := ⟨i, _, hi, hp⟩
  obtain ⟨v0, ev0, p0, o0, rfl, _, _, ht⟩ := r.at_ i _ hi
  rw [hp] at ev0
  cases ev0
  obtain ⟨hF, o', hH, ro⟩ := ho
  refine ⟨⟨sm, fun j s e => ?_, fun j k c1 c2 q e1 e2 e3 e4 => ?_, by rw [List.length_set]; exact r.len⟩, ⟨tr.ff, tr.dom, fun q x e1 e2 e3 => tr.keep q x e1 e2 fun z => e3 (by rw [z]; exact ow)⟩, fun q h => .inl ?_⟩
  · rcases get_set_some e with ⟨rfl, z⟩ | ⟨hj, z⟩
    · cases z
      exact ⟨_, hp, p, o', rfl, hF, hH, ht.1, ro⟩
    · obtain ⟨w, ew, q⟩ := r.at_ j s z
      refine ⟨w, ew, ?_⟩
      cases s with
      | d x => exact Rp.mono tr.ff q
      | o c1 =>
        obtain ⟨p', o1, rfl, g1, g2, g3⟩ := q
        have ne : p' ≠ p := fun y => hj (r.dis j i _ _ p z hi (by rw [ew, y]) hp)
        obtain ⟨k1, k2⟩ := tr.keep p' o1 g2 g1 ne
        exact ⟨p', o1, rfl, k2, k1, g3.mono tr.ff⟩
  · have f : ∀ {j c1}, (ρ.set i (some (S.o ⟨t, c'⟩)))[j]? = some (some (S.o c1)) → ∃ c2 : OC, ρ[j]? = some (some (S.o c2)) := fun {j c1} e => by
      rcases get_set_some e with ⟨rfl, _⟩ | ⟨_, z⟩
      · exact ⟨_, hi⟩
      · exact ⟨c1, z⟩
    obtain ⟨d1, h1⟩ := f e1
    obtain ⟨d2, h2⟩ := f e2
    exact r.dis j k d1 d2 q h1 h2 e3 e4
  · obtain ⟨j, c1, e1, e2⟩ := h
    rcases get_set_some e1 with ⟨rfl, _⟩ | ⟨_, z⟩
    · exact ⟨j, _, hi, e2⟩
    · exact ⟨j, c1, z, e2⟩
theorem has_own {i : Nat} {t : Option Addr} {c : OB} (r : Rel K F H σ ρ) (hi : ρ[i]? = some (some (.o ⟨t, c⟩))) : ∃ p, σ[i]? = some (some (.ref p)) ∧ HasO K F H p c := by
  obtain ⟨p, o, ev, h1, h2, h3⟩ := own_at r hi
  exact ⟨p, ev, h1, o, h2, h3.2⟩
/-- a value of its own from such a call is no slot's -/
theorem rn_callO {i : Nat} {p : Addr} {t : Option Addr} {c c' : OB} {v : V} {s : S} {H0 : Hp} (dm : ∀ q, H q = none → H0 q = none) (r : Rel K F H σ ρ) (hi : ρ[i]? = some (some (.o ⟨t, c⟩))) (hp : σ[i]? = some (some (.ref p))) (rn : RN K H F' H' v s) :
    RN K H0 F' H' v s ∧ ∀ q, v = .ref q → s.own = true → ¬ OwnS σ (ρ.set i (some (.o ⟨t, c'⟩))) q := by
  refine ⟨rn.dom dm, fun q e1 e2 ow => ?_⟩
  cases s with
  | d x => cases e2
  | o cc =>
    obtain ⟨q', o', e, h1, _⟩ := rn
    rw [e1] at e
    cases e
    obtain ⟨j, c1, z1, z2⟩ := ow
    have : OwnS σ ρ q := by
      rcases get_set_some z1 with ⟨rfl, _⟩ | ⟨_, z⟩
      · exact ⟨j, _, hi, z2⟩
      · exact ⟨j, c1, z, z2⟩
    obtain ⟨_, o, ho⟩ := this.there r
    rw [h1] at ho; cases ho
end
section
variable {X : Cx} {K : PySem.W.Frag} {W : WX} {e o : Expr} {es : List Expr} {pos p apos : Pos} {fr : FA} {x : Str} {i k j n : Nat} {Fn : OB → List D → FrO}
theorem ln_callO {σ : L2.St} {H : Hp} {Q : VK} (hn : ∀ c ds, Fn c ds ≠ .no → ds.length = n) (h : LN K W (dCallO i Fn fr) σ H Q) : tCallS (spO K n Fn) (WE W) (tCons (tVar i) (LA K W fr)) σ H Q := by
  obtain ⟨F, ρ, r, q⟩ := h
  unfold dCallO at q
  cases e1 : ocAt ρ i with
  | none => rw [e1] at q; exact q.elim
  | some oc =>
    rw [e1] at q
    obtain ⟨p, ev, _⟩ := has_own r (ocAt_some e1)
    refine ⟨.ref p, ev, F, ρ, r, (Post.bind q).mono fun ds ρ1 F1 H1 A1 q1 vs rv => ?_⟩
    dsimp only at q1
    cases e2 : ocAt ρ1 i with
    | none => rw [e2] at q1; exact q1.elim
    | some oc2 =>
      rw [e2] at q1
      obtain ⟨t, c⟩ := oc2
      dsimp only at q1
      obtain ⟨p2, ev2, ho⟩ := has_own A1.rel (ocAt_some e2)
      rw [ev] at ev2
      cases ev2
      refine ⟨F1, p, vs, c, ds, A1.rel.sub, rfl, ho, rv, hn c ds (fun z => by rw [z] at q1; exact q1), ?_⟩
      cases e3 : Fn c ds with
      | no => rw [e3] at q1; exact q1
      | er x c' => rw [e3] at q1; exact fun d F' H' tr s ho' re => q1 d F' H' (aft_callO A1.rel (ocAt_some e2) ev tr s ho') re
      | ok s c' =>
        rw [e3] at q1
        intro v F' H' tr sm rn ho'
        obtain ⟨r1, r2⟩ := rn_callO (c' := c') (H0 := H) (fun q h => A1.tr.dom q h) A1.rel (ocAt_some e2) ev rn
        exact q1 F' H' (aft_callO A1.rel (ocAt_some e2) ev tr sm ho') v r1 r2
/-- f(x, e, ..), x changed -/
theorem dn_callO (c : CalO X.prog X.w K X.mg X.base k x n Fn) (hr : Room j X.A) (tk : Takes X W) (ho : PE X o (tVar i)) (ha : DA X K W es fr) (hk : k ≤ j := by decide) (hg : Gl X x := by rfl)
    (hdb : (x == ("__debug__" : Str)) = false := by decide) (he : starEach (o :: es) X.env = (false, eval o X.env) :: starEach es X.env := by rfl) (hpl : (backTo pos (starEach es X.env)).any (·.1) = false := by rfl) (hK : X.K = K := by rfl) :
    DN X K W (.Call (.Name x p) (o :: es) [] pos) (dCallO i Fn fr) := by
  subst hK
  exact ⟨(pe_ks c.c hr tk (pa_cons ho ha.pa he) hk hg hdb he hpl).weak fun _ _ _ h => ln_callO c.n h⟩
/-- .. where nothing is let out -/
def dCallO0 (i : Nat) (Fn : OB → List D → FrO) (fr : FA) : FN := fun ρ => match ocAt ρ i with
  | none => .no
  | some _ => fr ρ >>= fun p => match ocAt p.2 i with
    | none => .no
    | some ⟨t, c⟩ => match Fn c p.1 with
      | .ok s c' => .ok (s, p.2.set i (some (.o ⟨t, c'⟩)))
      | _ => .no
theorem ln_callO0 {σ : L2.St} {H : Hp} {Q : VK} (hn : ∀ c ds, Fn c ds ≠ .no → ds.length = n) (h : LN K W (dCallO0 i Fn fr) σ H Q) : tCall (spO K n Fn) [] E0 (tCons (tVar i) (LA K W fr)) σ H Q := by
  obtain ⟨F, ρ, r, q⟩ := h
  unfold dCallO0 at q
  cases e1 : ocAt ρ i with
  | none => rw [e1] at q; exact q.elim
  | some oc =>
    rw [e1] at q
    obtain ⟨p, ev, _⟩ := has_own r (ocAt_some e1)
    refine ⟨.ref p, ev, F, ρ, r, (Post.bind q).mono fun ds ρ1 F1 H1 A1 q1 vs rv => ?_⟩
    dsimp only at q1
    cases e2 : ocAt ρ1 i with
    | none => rw [e2] at q1; exact q1.elim
    | some oc2 =>
      rw [e2] at q1
      obtain ⟨t, c⟩ := oc2
      dsimp only at q1
      obtain ⟨p2, ev2, ho⟩ := has_own A1.rel (ocAt_some e2)
      rw [ev] at ev2
      cases ev2
      refine ⟨F1, p, vs, c, ds, A1.rel.sub, by simp, ho, rv, hn c ds (fun z => by rw [z] at q1; exact q1), ?_⟩
      cases e3 : Fn c ds with
      | no => rw [e3] at q1; exact q1
      | er x c' => rw [e3] at q1; exact q1.elim
      | ok s c' =>
        rw [e3] at q1
        intro v F' H' tr sm rn ho'
        obtain ⟨r1, r2⟩ := rn_callO (c' := c') (H0 := H) (fun q h => A1.tr.dom q h) A1.rel (ocAt_some e2) ev rn
        exact q1 F' H' (aft_callO A1.rel (ocAt_some e2) ev tr sm ho') v r1 r2
theorem dn_callO0 (c : CalO X.prog X.w K X.mg X.base k x n Fn) (hr : Room j X.A) (ho : PE X o (tVar i)) (ha : DA X K W es fr) (hk : k ≤ j := by decide) (hg : Gl X x := by rfl)
    (hdb : (x == ("__debug__" : Str)) = false := by decide) (he : starEach (o :: es) X.env = (false, eval o X.env) :: starEach es X.env := by rfl) (hpl : (backTo pos (starEach es X.env)).any (·.1) = false := by rfl) (hK : X.K = K := by rfl) :
    DN X K W (.Call (.Name x p) (o :: es) [] pos) (dCallO0 i Fn fr) := by
  subst hK
  exact ⟨(pe_k c.c hr (pa_cons ho ha.pa he) hk hg hdb he hpl).weak fun _ _ _ h => ln_callO0 c.n h⟩
end
end RL

namespace RL
open PySem PySem.Spec PyProof.Rows L2
/-! objects are made -/
section
variable {X : Cx} {CX : CXT} {k : Nat} {C f : Addr} {fd : FuncData} {ps : List Str} {sp : Sp} {E : XK}
theorem made {pins : List (Addr × Obj)} {σ : L2.St} {H : Hp} {s : Shared} {Q : VK} {us : List Value} {vs : List V} (M : Mk X.K C f) (F : FnOk X.prog X.w X.K X.mg X.base CX k f fd ps sp) (hr : Room (k + 1) X.A) (hb : Binds X.K fd ps []) (hx : PassesAt CX X σ E) (I : Inv X pins σ H s) (r : Vals vs us)
    (h : ∀ y dy, H y = none → H dy = none → dy ≠ y → sp (.ref y :: vs) (upd (upd H dy (.own y)) y (.ins C dy [])) (fun v H2 => v = .non ∧ Q (.ref y) H2) E) : wpAny (model X.prog X.w) X.A (call (.ref C) us) (EP X pins σ Q) X.xe s := by
  have hq := h (s.heap.objs.size + 1) s.heap.objs.size (I.hok.fresh (by omega)) (I.hok.fresh (by omega)) (Ne.symm (Nat.succ_ne_self _))
  have J := Inv.made (C := C) I
  have rr : Vals (V.ref (s.heap.objs.size + 1) :: vs) (Value.ref (s.heap.objs.size + 1) :: us) := .cons rfl r
  have hl : (Value.ref (s.heap.objs.size + 1) :: us ++ []).length = ps.length := by
    rw [List.append_nil, ← rr.length]
    exact F.len _ _ _ _ hq
  have go := F.run _ X.stack _ _ ⟨Value.ref (s.heap.objs.size + 1) :: us, []⟩ (Value.ref (s.heap.objs.size + 1) :: us) _ _ E (hr.make C us []) (J.env0.make C us []) (by
    have := hb _ (Value.ref (s.heap.objs.size + 1) :: us) J.kIn hl
    rw [List.append_nil] at this
    exact this) rr hq
  refine wpAny_call (make_map (f := f) I.kIn M.makes M.init (beq_iff_eq.mp M.fn) (codeAny_mono go fun res s2 hres => ?_))
  cases res with
  | error z => exact hx pins _ _ z s2 J hres
  | ok fl =>
    cases fl with
    | ret u =>
      obtain ⟨v, H2, J2, rv, ev, q2⟩ := J.after hres
      subst ev
      exact ⟨rv, V.ref (s.heap.objs.size + 1), H2, J2, rfl, q2⟩
    | next => exact False.elim hres
    | brk => exact False.elim hres
    | cont => exact False.elim hres
end
/-- a class that may be made -/
structure MakD (P : Program) (w : World) (K : PySem.W.Frag) (mg : Str → Option Value) (base : Heap) (k : Nat) (x : Str) (n : Nat) (Fn : OB → List D → FrO) : Prop where
  g : mg x = some (.ref (He.ga K x))
  m : Mk K (He.ga K x) (He.ma K (He.ga K x) "__init__")
  f : FnD P w K mg base k (He.ma K (He.ga K x) "__init__") (spO K n Fn)
  n : ∀ c ds, Fn c ds ≠ .no → ds.length = n
def tMakeS (C : Addr) (sp : Sp) (E : L2.St → XK) (t : TA) : TE := fun σ H Q => t σ H fun vs H1 => ∀ y dy, H1 y = none → H1 dy = none → dy ≠ y → sp (.ref y :: vs) (upd (upd H1 dy (.own y)) y (.ins C dy [])) (fun v H2 => v = .non ∧ Q (.ref y) H2) (E σ)
/-- x(e, ..) -/
def dMake (C : Str) (Fn : OB → List D → FrO) (fr : FA) : FN := fun ρ => fr ρ >>= fun p => match Fn (.oI C [] []) p.1 with
  | .ok (.d .non) c => .ok (.o ⟨none, c⟩, p.2)
  | .er e _ => .er e p.2
  | _ => .no
/-- .. where nothing is let out -/
def dMake0 (C : Str) (Fn : OB → List D → FrO) (fr : FA) : FN := fun ρ => fr ρ >>= fun p => match Fn (.oI C [] []) p.1 with
  | .ok (.d .non) c => .ok (.o ⟨none, c⟩, p.2)
  | _ => .no
section
variable {X : Cx} {K : PySem.W.Frag} {W : WX} {e o value : Expr} {es : List Expr} {pos p apos pos' : Pos} {fa : FE} {fr : FA} {x f : Str} {i k j n : Nat} {Fn : OB → List D → FrO}
theorem pe_mks {sp : Sp} {t : TA} {C fA : Addr} {E : L2.St → XK} (M : Mk X.K C fA) (F : FnD X.prog X.w X.K X.mg X.base k fA sp) (hm : X.mg x = some (.ref C)) (hr : Room j X.A) (hx : ∀ σ, PassesAt (L2.CX X.prog X.w) X σ (E σ)) (ha : PA X (e :: es) t) (hk : k + 1 ≤ j := by decide) (hg : Gl X x := by rfl)
    (hdb : (x == ("__debug__" : Str)) = false := by decide) (he : starEach (e :: es) X.env = (false, eval e X.env) :: starEach es X.env := by rfl) (hpl : (backTo pos (starEach es X.env)).any (·.1) = false := by rfl) : PE X (.Call (.Name x p) (e :: es) [] pos) (tMakeS C sp E t) := by
  obtain ⟨fd, ps, F, hb⟩ := F.ex
  refine ⟨fun pins s σ H Q I h => wpAny_Call_Name_kw (ld_glob I hg hm ?_ hdb)⟩
  exact PySem.W.callWith_K (h₀ := X.base) I.ok.mod.kin M.kp (thn (ha.run pos pins s σ H _ I h) fun us s1 ⟨vs, H1, I1, r, q⟩ => ⟨I1.kIn, made M F (hr.mono hk) hb (hx σ) I1 r q⟩) he hpl
theorem made_tr {F H F' H' : Hp} {y dy : Addr} {C : Addr} (h1 : H y = none) (h2 : H dy = none) (tr : TrP y F (upd (upd H dy (.own y)) y (.ins C dy [])) F' H') : Tr0 F H F' H' := by
  refine ⟨tr.ff, fun q e => ?_, fun q ob a b _ => ?_⟩
  · have e := tr.dom q e
    by_cases hb : q = y
    · subst hb; exact h1
    · rw [upd_ne hb] at e
      by_cases hb : q = dy
      · subst hb; exact h2
      · rwa [upd_ne hb] at e
  · have ny : q ≠ y := ne_of_none a h1
    exact tr.keep q ob (by rw [upd_ne ny, upd_ne (ne_of_none a h2)]; exact a) b ny
theorem made_same {F H : Hp} {y dy : Addr} {C : Addr} (sm : Same F H) (h1 : H y = none) (h2 : H dy = none) (h3 : dy ≠ y) : Same F (upd (upd H dy (.own y)) y (.ins C dy [])) :=
  Same.alloc (Same.alloc sm h2) (by rw [upd_ne (Ne.symm h3)]; exact h1)
theorem ln_make {C : Str} {σ : L2.St} {H : Hp} {Q : VK} (hn : ∀ c ds, Fn c ds ≠ .no → ds.length = n) (h : LN K W (dMake C Fn fr) σ H Q) : tMakeS (He.ga K C) (spO K n Fn) (WE W) (LA K W fr) σ H Q := by
  obtain ⟨F, ρ, r, q⟩ := h
  refine ⟨F, ρ, r, (Post.bind q).mono fun ds ρ1 F1 H1 A1 q1 vs rv y dy h1 h2 h3 => ?_⟩
  dsimp only at q1
  have hF := none_of A1.rel.sub h1
  refine ⟨F1, y, vs, .oI C [] [], ds, made_same A1.rel.sub h1 h2 h3, rfl, ⟨hF, _, upd_same, rfl, rfl, .nil⟩, rv, hn (.oI C [] []) ds (fun z => by rw [z] at q1; exact q1), ?_⟩
  cases e3 : Fn (.oI C [] []) ds with
  | no => rw [e3] at q1; exact q1
  | er z c' => rw [e3] at q1; exact fun d F' H' tr s ho' re => q1 d F' H' (Aft.step A1.rel (made_tr h1 h2 tr) s) re
  | ok s c' =>
    rw [e3] at q1
    cases s with
    | o c => exact q1.elim
    | d dd =>
      cases dd with
      | non =>
        intro v F' H' tr sm rn ho'
        obtain ⟨g1, ob, g2, g3⟩ := ho'
        refine ⟨Rp.non_inv rn, q1 F' H' (Aft.step A1.rel (made_tr h1 h2 tr) sm) (.ref y) ⟨y, ob, rfl, A1.tr.dom y h1, g1, g2, (fun _ z => nomatch z), g3⟩ (fun q e _ ow => ?_)⟩
        cases e
        obtain ⟨_, o, ho⟩ := ow.there A1.rel
        rw [h1] at ho; cases ho
      | _ => exact q1.elim
theorem dn_make (c : MakD X.prog X.w K X.mg X.base k x n Fn) (hr : Room j X.A) (tk : Takes X W) (ha : DA X K W (e :: es) fr) (hk : k + 1 ≤ j := by decide) (hg : Gl X x := by rfl)
    (hdb : (x == ("__debug__" : Str)) = false := by decide) (he : starEach (e :: es) X.env = (false, eval e X.env) :: starEach es X.env := by rfl) (hpl : (backTo pos (starEach es X.env)).any (·.1) = false := by rfl) (hK : X.K = K := by rfl) :
    DN X K W (.Call (.Name x p) (e :: es) [] pos) (dMake x Fn fr) := by
  subst hK
  exact ⟨(pe_mks c.m c.f c.g hr (fun σ => passAt tk σ) ha.pa hk hg hdb he hpl).weak fun _ _ _ h => ln_make c.n h⟩
theorem ln_make0 {C : Str} {σ : L2.St} {H : Hp} {Q : VK} (hn : ∀ c ds, Fn c ds ≠ .no → ds.length = n) (h : LN K W (dMake0 C Fn fr) σ H Q) : tMakeS (He.ga K C) (spO K n Fn) (fun _ => E0) (LA K W fr) σ H Q := by
  obtain ⟨F, ρ, r, q⟩ := h
  refine ⟨F, ρ, r, (Post.bind q).mono fun ds ρ1 F1 H1 A1 q1 vs rv y dy h1 h2 h3 => ?_⟩
  dsimp only at q1
  have hF := none_of A1.rel.sub h1
  refine ⟨F1, y, vs, .oI C [] [], ds, made_same A1.rel.sub h1 h2 h3, rfl, ⟨hF, _, upd_same, rfl, rfl, .nil⟩, rv, hn (.oI C [] []) ds (fun z => by rw [z] at q1; exact q1), ?_⟩
  cases e3 : Fn (.oI C [] []) ds with
  | no => rw [e3] at q1; exact q1
  | er z c' => rw [e3] at q1; exact q1.elim
  | ok s c' =>
    rw [e3] at q1
    cases s with
    | o c => exact q1.elim
    | d dd =>
      cases dd with
      | non =>
        intro v F' H' tr sm rn ho'
        obtain ⟨g1, ob, g2, g3⟩ := ho'
        refine ⟨Rp.non_inv rn, q1 F' H' (Aft.step A1.rel (made_tr h1 h2 tr) sm) (.ref y) ⟨y, ob, rfl, A1.tr.dom y h1, g1, g2, (fun _ z => nomatch z), g3⟩ (fun q e _ ow => ?_)⟩
        cases e
        obtain ⟨_, o, ho⟩ := ow.there A1.rel
        rw [h1] at ho; cases ho
      | _ => exact q1.elim
theorem dn_make0 (c : MakD X.prog X.w K X.mg X.base k x n Fn) (hr : Room j X.A) (ha : DA X K W (e :: es) fr) (hk : k + 1 ≤ j := by decide) (hg : Gl X x := by rfl)
    (hdb : (x == ("__debug__" : Str)) = false := by decide) (he : starEach (e :: es) X.env = (false, eval e X.env) :: starEach es X.env := by rfl) (hpl : (backTo pos (starEach es X.env)).any (·.1) = false := by rfl) (hK : X.K = K := by rfl) :
    DN X K W (.Call (.Name x p) (e :: es) [] pos) (dMake0 x Fn fr) := by
  subst hK
  exact ⟨(pe_mks c.m c.f c.g hr (fun σ pins H s e s' I h => passL pins σ H s e s' I h) ha.pa hk hg hdb he hpl).weak fun _ _ _ h => ln_make0 c.n h⟩
/-! x.f = e, x an owned object -/
def putN (f : Str) (d : D) : List Str → List D → List Str × List D
  | n :: ns, x :: xs => if n = f then (n :: ns, d :: xs) else ((n :: (putN f d ns xs).1), (x :: (putN f d ns xs).2))
  | _, _ => ([f], [d])
theorem putN_rp {F : Hp} {v : V} {d : D} (rv : Rp K F v d) : ∀ {fs : List (Str × V)} {ns : List Str} {xs : List D}, fs.map Prod.fst = ns → RpA K F (fs.map Prod.snd) xs → (putF f v fs).map Prod.fst = (putN f d ns xs).1 ∧ RpA K F ((putF f v fs).map Prod.snd) (putN f d ns xs).2
  | [], ns, xs, h1, h2 => by
    subst h1
    exact ⟨rfl, .cons rv .nil⟩
  | (g, u) :: r, ns, xs, h1, h2 => by
    subst h1
    cases h2 with
    | @cons _ _ z zs a t =>
      obtain ⟨e1, e2⟩ := putN_rp rv (fs := r) (xs := zs) rfl t
      by_cases hf : g = f
      · simp only [putF, List.map_cons, putN, if_pos hf]
        exact ⟨trivial, .cons rv t⟩
      · simp only [putF, List.map_cons, putN, if_neg hf]
        exact ⟨by rw [e1], .cons a e2⟩
theorem putF_len (f : Str) (v : V) : ∀ fs : List (Str × V), (putF f v fs).length ≤ fs.length + 1
  | [] => by simp [putF]
  | (g, u) :: r => by
    have := putF_len f v r
    unfold putF
    split
    · simp
    · simp only [List.length_cons]; omega
def sPutF (C f : Str) (i : Nat) (fa : FE) : FS := fun ρ => fa ρ >>= fun p => match ocAt p.2 i with
  | some ⟨t, .oI C' ns xs⟩ => if C' = C ∧ ns.length < 1000 then .ok (.nx (p.2.set i (some (.o ⟨t, .oI C (putN f p.1 ns xs).1 (putN f p.1 ns xs).2⟩)))) else .no
  | _ => .no
theorem ds_putF {C : Str} (ho : PE X o (tVar i)) (hv : DE X K W value fa) (cl : Cls K (He.ga K C)) (na : NoAttr K (He.ga K C) f) (hs : swapsWith value (some (.Attribute o f pos')) pos.line X.env = pure false := by rfl) (hK : X.K = K := by rfl) :
    DS X K W (.Assign [.Attribute o f pos'] value pos) (sPutF C f i fa) :=
  ⟨(ps_F K ho hv.pe hs hK).weak fun D σ H ⟨F, ρ, rl, q⟩ => ⟨F, ρ, rl, (PostS.bind q).mono fun x ρ1 F1 H1 A1 q1 v rv => by
    dsimp only at q1
    split at q1
    · rename_i t C' ns xs eo
      by_cases hC : C' = C ∧ ns.length < 1000
      · rw [if_pos hC] at q1
        obtain ⟨hC, hn⟩ := hC
        subst hC
        obtain ⟨p, ob, ev, g1, g2, g3⟩ := own_at A1.rel (ocAt_some eo)
        obtain ⟨g4, g5⟩ := g3
        cases ob with
        | ins A dx fs =>
          obtain ⟨rfl, e1, e2⟩ := g5
          have e1 : fs.map Prod.fst = ns := e1
          have hl : fs.length < 1000 := by rw [← e1, List.length_map] at hn; exact hn
          obtain ⟨k1, k2⟩ := putN_rp (f := f) rv e1 e2
          exact ⟨.ref p, ev, p, _, dx, fs, rfl, g2, cl, na, hl, q1 σ F1 _ (aft_mut (c' := ⟨t, .oI C' (putN f x ns xs).1 (putN f x ns xs).2⟩) (o' := .ins (He.ga K C') dx (putF f v fs)) A1.rel (ocAt_some eo) ev ⟨g4, rfl, k1, k2⟩)⟩
        | _ => exact g5.elim
      · rw [if_neg hC] at q1; exact q1.elim
    · exact q1.elim⟩⟩
/-! e.f, a property -/
def dProp (C : Str) (Fn : List D → Fr) (fa : FE) : FN := fun ρ => fa ρ >>= fun p => match p.1 with
  | .ob C' ns xs => if C' = C then (match Fn [.ob C' ns xs] with | .ok s => .ok (s, p.2) | _ => .no) else .no
  | _ => .no
theorem dn_prop {C : Str} {pA gA : Addr} {Fn : List D → Fr} (he : DE X K W e fa) (cl : Cls K (He.ga K C)) (hp : PropOf K (He.ga K C) f pA gA) (G : FnD X.prog X.w K X.mg X.base k gA (spD K 1 Fn)) (hr : Room j X.A) (hk : k + 1 ≤ j := by decide)
    (hab : attributeBase e f X.env (eval e X.env) = eval e X.env := by rfl) (hK : X.K = K := by rfl) : DN X K W (.Attribute e f pos) (dProp C Fn fa) := by
  subst hK
  obtain ⟨fd, ps, F, hb⟩ := G.ex
  refine ⟨(pe_prop he.pe cl hp F (hr.mono hk) hb .nil (passL (X := X.nox)) hab).weak fun σ H Q ⟨F, ρ, rl, q⟩ => ⟨F, ρ, rl, (Post.bind q).mono fun x ρ1 F1 H1 A1 q1 v rv => ?_⟩⟩
  dsimp only at q1
  split at q1
  · rename_i C' ns xs
    by_cases hC : C' = C
    · rw [if_pos hC] at q1
      subst hC
      have rv' := rv
      cases rv with
      | ob h1 h2 h3 =>
        refine ⟨_, _, _, rfl, A1.rel.sub _ _ h1, F1, [.ob C' ns xs], A1.rel.sub, .cons rv' .nil, rfl, ?_⟩
        cases e1 : Fn [.ob C' ns xs] with
        | no => rw [e1] at q1; exact q1
        | er z => rw [e1] at q1; exact q1.elim
        | ok s => rw [e1] at q1; exact res_of A1.rel (fun p hp => A1.tr.dom p hp) fun F' H' A => q1 F' H' A
    · rw [if_neg hC] at q1; exact q1.elim
  · exact q1.elim
end
end RL

namespace RL
open PySem PySem.Spec PyProof.Rows L2
def gNs : List Nat → TGs
  | [] => gNil
  | i :: is => gCons (gName i) (gNs is)
theorem gNs_put {is : List Nat} : ∀ (vs : List V) (σ : L2.St) (H : Hp) (Q : L2.St → Hp → Prop) (σ2 : L2.St), putV σ is vs = some σ2 → Q σ2 H → gNs is vs σ H Q := by
  induction is with
  | nil => intro vs σ H Q σ2 e q; cases vs with
    | nil => cases e; exact ⟨rfl, q⟩
    | cons _ _ => cases e
  | cons i is ih => intro vs σ H Q σ2 e q; cases vs with
    | nil => cases e
    | cons v vs => exact ⟨v, vs, rfl, ih vs (σ.set i (some v)) H Q σ2 e q⟩
end RL
namespace RL
open PySem PySem.Spec PyProof.Rows L2
/-! kinds -/
def isOb : D → Bool
  | .ob _ _ _ => true
  | _ => false
def isIntD : D → Bool
  | .int _ => true
  | .bl _ => true
  | _ => false
def isBlD : D → Bool
  | .bl _ => true
  | _ => false
def isTupD : D → Bool
  | .tup _ => true
  | _ => false
def isLstD : D → Bool
  | .lst _ => true
  | .scr _ => true
  | _ => false
def isStrD : D → Bool
  | .str _ => true
  | _ => false
theorem gIsi_int (d : D) : gIsi "int" d = if isOb d = true then none else some (.d (.bl (isIntD d))) := by cases d <;> (simp only [gIsi, tyN, isOb, isIntD, Option.bind, if_true, Bool.false_eq_true, if_false]; try (first | decide +kernel | rfl))
theorem gIsi_bool (d : D) : gIsi "bool" d = if isOb d = true then none else some (.d (.bl (isBlD d))) := by cases d <;> (simp only [gIsi, tyN, isOb, isBlD, Option.bind, if_true, Bool.false_eq_true, if_false]; try (first | decide +kernel | rfl))
theorem gIsi_tuple (d : D) : gIsi "tuple" d = if isOb d = true then none else some (.d (.bl (isTupD d))) := by cases d <;> (simp only [gIsi, tyN, isOb, isTupD, Option.bind, if_true, Bool.false_eq_true, if_false]; try (first | decide +kernel | rfl))
theorem gIsi_list (d : D) : gIsi "list" d = if isOb d = true then none else some (.d (.bl (isLstD d))) := by cases d <;> (simp only [gIsi, tyN, isOb, isLstD, Option.bind, if_true, Bool.false_eq_true, if_false]; try (first | decide +kernel | rfl))
theorem gIsi_str (d : D) : gIsi "str" d = if isOb d = true then none else some (.d (.bl (isStrD d))) := by cases d <;> (simp only [gIsi, tyN, isOb, isStrD, Option.bind, if_true, Bool.false_eq_true, if_false]; try (first | decide +kernel | rfl))
end RL

namespace RL
open PySem PySem.Spec PyProof.Rows L2
/-! the law itself: nothing is let out -/
abbrev CXF : CXT := fun _ _ _ _ _ _ => False
theorem run_law {K : PySem.W.Frag} {N : List Str} {X : Cx} {body : List Stmt} {g : FS} {n : Nat} {Fn : List D → Fr} (hb : DSs X K W0 body g) (hg : ∀ ds, Fn ds ≠ .no → out (g (startD N.length ds)) = Fn ds)
    {vs : List V} {H : Hp} {Q : VK} {E : XK} (hE : ∀ ds e, Fn ds ≠ .er e) (h : spD K n Fn vs H Q E) : ∃ t, PSs X body t ∧ t { nx := fun _ H' => Q .non H', rt := Q } (start N vs) H := by
  obtain ⟨F, ds, sm, r, hl, h⟩ := h
  refine ⟨_, hb.ps, ?_⟩
  obtain ⟨rl, no⟩ := rel_start (N := N) sm r
  refine ⟨F, startD N.length ds, rl, ?_⟩
  have hno : Fn ds ≠ .no := fun z => by rw [z] at h; exact h
  have hq := hg ds hno
  have t0 : ∀ {F' H' : Hp} {σ' : L2.St} {ρ' : Sl}, Aft K F H (start N vs) (startD N.length ds) F' H' σ' ρ' → Tr0 F H F' H' := fun a => ⟨a.tr.ff, a.tr.dom, fun p o h1 h2 _ => a.tr.keep p o h1 h2 (no p)⟩
  cases eg : g (startD N.length ds) with
  | no => rw [eg] at hq; exact absurd hq.symm hno
  | er e ρ' =>
    rw [eg] at hq
    exact absurd hq.symm (hE ds e)
  | ok fl =>
    rw [eg] at hq
    cases fl with
    | bk ρ' => exact absurd hq.symm hno
    | ct ρ' => exact absurd hq.symm hno
    | nx ρ' =>
      rw [← hq] at h
      exact fun σ' F' H' a => h .non F' H' (t0 a) a.rel.sub .non
    | rt s ρ' =>
      rw [← hq] at h
      exact fun v σ' F' H' a rn _ => h v F' H' (t0 a) a.rel.sub rn
def FLaw : List D → Fr
  | [.scr ns] => if ns.length ≤ 63 then .ok (.d (.bl true)) else .no
  | _ => .no
theorem lawE {P : Program} {w : World} {K : PySem.W.Frag} {mg : Str → Option Value} {st : Stmt} {N : List Str} {x : Str} {k : Nat} {fa : Addr} {h : Heap} (g : FS) (T : TxD K mg "law" st) (S : FnScope N [x] (defScope st))
    (hbd : ∀ (kV doc pm : Value) (an : Option Addr) (cdv ct : Value) (us : List Value), us.length = [x].length → bindArgs (PySem.W.fnOf "law" "law" (defArgs st) (defBody st) (defScope st) .none kV doc pm an cdv ct) ⟨us, []⟩ = pure ([x].zip us))
    (hb : ∀ (base : Heap) (f : Addr) (cdv : Value) (A : Around) (outer : List Env) (s : Shared) (H : Hp) (E : XK), Room k (A.deeper (envOfC "law" (defScope st) s.heap.objs.size f cdv)) →
      DSs (cxOf CXF P w K mg base N "law" (defScope st) f cdv A outer s H E) K W0 (defBody st) g)
    (hg : ∀ ns : List Int, ns.length ≤ 63 → out (g (startD N.length [.scr ns])) = .ok (.d (.bl true))) (hmg : mg "law" = some (.ref fa)) (KX : K.In h) :
    ∃ (K : PySem.W.Frag) (fd : FuncData) (sp : Sp), K.In h ∧ (∀ (s : Shared) (u : Value), BindsTo s fd ⟨[u], []⟩ [(x, u)]) ∧
      (∀ (H : Hp) (a : Addr) (ns : List Int), ns.length ≤ 63 → Only H → SqL K H a (ns.map V.int) → sp [.ref a] H (fun v _ => v = .bl true) fun _ _ _ => False) ∧
      ∀ base : Heap, K.In base → base.Ns mainGlobals mg → FnOk P w K mg base CXF (k + 1) fa fd [x] sp := by
  obtain ⟨f, fd, hm, F⟩ := T.ex
  rw [hmg] at hm
  cases hm
  have hg2 : ∀ ds, FLaw ds ≠ .no → out (g (startD N.length ds)) = FLaw ds := fun ds hd => by
    unfold FLaw at hd ⊢
    split at hd
    · split at hd
      · rename_i hl
        rw [hg _ hl, if_pos hl]
      · exact absurd rfl hd
    · exact absurd rfl hd
  have hE : ∀ ds e, FLaw ds ≠ .er e := fun ds e z => by
    unfold FLaw at z
    split at z
    · split at z <;> cases z
    · cases z
  refine ⟨K, fd, spD K 1 FLaw, KX, ?_, fun H a ns hl _ sq => ⟨H, [.scr ns], Same.refl _, .cons (.scr sq) .nil, rfl, ?_⟩, fun base _ _ => F.ok S (fun vs H Q E hs => spD_len hs) fun cdv A outer s H vs Q E hr hs => run_law (N := N) (hb base fa cdv A outer s H E hr) hg2 hE hs⟩
  · exact fun s u => F.bindsA (ps := [x]) hbd s [u] rfl
  · have e : FLaw [.scr ns] = .ok (.d (.bl true)) := by simp [FLaw, hl]
    rw [e]
    exact fun v F' H' _ _ rn => Rp.bl_inv rn
end RL

namespace RL
open PySem PySem.Spec PyProof.Rows L2
/-! how the functions over data run -/
theorem lcL_pure {g : FG} {ft : FT} {fe : FE} {vs : List Nat} {α : Type} (enc : α → D) (b : α → Bool) (y : α → D) (ρ : Sl) : ∀ (items : List α) (acc : List D), acc.length + items.length ≤ sizeLine →
    (∀ a ∈ items, ∃ ρ1 ρ2, g (enc a) ρ = some ρ1 ∧ ft ρ1 = .ok (b a, ρ2) ∧ (b a = true → ∃ ρ3, fe ρ2 = .ok (y a, ρ3) ∧ wipeD ρ3 vs = ρ) ∧ (b a = false → wipeD ρ2 vs = ρ)) →
    lcL g ft fe vs (items.map enc) ρ acc = .ok (acc ++ (items.filter b).map y, ρ)
  | [], acc, _, _ => by simp [lcL]
  | a :: r, acc, hl, h => by
    obtain ⟨ρ1, ρ2, h1, h2, h3, h4⟩ := h a (by simp)
    rw [List.map_cons]
    unfold lcL
    rw [h1]
    dsimp only
    rw [h2]
    dsimp only
    have hl2 : acc.length + (r.length + 1) ≤ sizeLine := by simpa using hl
    cases hb : b a with
    | true =>
      obtain ⟨ρ3, h5, h6⟩ := h3 hb
      simp only [h5, h6, if_true]
      rw [if_pos (by omega), lcL_pure enc b y ρ r _ (by simp; omega) (fun x hx => h x (by simp [hx]))]
      simp [hb]
    | false =>
      simp only [h4 hb, Bool.false_eq_true, if_false]
      rw [lcL_pure enc b y ρ r acc (by omega) (fun x hx => h x (by simp [hx]))]
      simp [hb]
/-- without a test -/
theorem lcL_map {g : FG} {fe : FE} {vs : List Nat} {α : Type} (enc : α → D) (y : α → D) (ρ : Sl) (items : List α) (hl : items.length ≤ sizeLine)
    (h : ∀ a ∈ items, ∃ ρ1 ρ3, g (enc a) ρ = some ρ1 ∧ fe ρ1 = .ok (y a, ρ3) ∧ wipeD ρ3 vs = ρ) : lcL g tYesD fe vs (items.map enc) ρ [] = .ok (items.map y, ρ) := by
  have := lcL_pure (g := g) (ft := tYesD) (fe := fe) (vs := vs) enc (fun _ => true) y ρ items [] (by simpa using hl) fun a ha => by
    obtain ⟨ρ1, ρ3, h1, h2, h3⟩ := h a ha
    exact ⟨ρ1, ρ1, h1, rfl, fun _ => ⟨ρ3, h2, h3⟩, fun z => nomatch z⟩
  rw [List.filter_eq_self.mpr (fun _ _ => rfl)] at this
  simpa using this
theorem rg1_int {j : Int} (h : -(2 ^ 62) ≤ j ∧ j < 2 ^ 62) : rg1 [.int j] = some (rangeD 0 j.toNat) := if_pos h
theorem rg2_int {i j : Int} (h : -(2 ^ 62) ≤ i ∧ i < 2 ^ 62 ∧ -(2 ^ 62) ≤ j ∧ j < 2 ^ 62) : rg2 [.int i, .int j] = some (rangeD i (j - i).toNat) := if_pos h
theorem sSeq_nx {f g : FS} {ρ ρ1 : Sl} (h : f ρ = .ok (.nx ρ1)) : sSeq f g ρ = g ρ1 := by
  unfold sSeq
  rw [h]
theorem forL_cons {g : FG} {fb : FS} {x : D} {r : List D} {ρ ρ1 ρ2 : Sl} (h1 : g x ρ = some ρ1) (h2 : fb ρ1 = .ok (.nx ρ2)) : forL g fb (x :: r) ρ = forL g fb r ρ2 := by
  rw [forL, h1]
  dsimp only
  rw [h2]
theorem forL_ret {g : FG} {fb : FS} {x : D} {r : List D} {ρ ρ1 ρ2 : Sl} {s : S} (h1 : g x ρ = some ρ1) (h2 : fb ρ1 = .ok (.rt s ρ2)) : forL g fb (x :: r) ρ = .ok (.rt s ρ2) := by
  rw [forL, h1]
  dsimp only
  rw [h2]
theorem forL_er {g : FG} {fb : FS} {x : D} {r : List D} {ρ ρ1 ρ2 : Sl} {e : Ex} (h1 : g x ρ = some ρ1) (h2 : fb ρ1 = .er e ρ2) : forL g fb (x :: r) ρ = .er e ρ2 := by
  rw [forL, h1]
  dsimp only
  rw [h2]
/-- a loop whose state is told by a letter -/
theorem forL_st {g : FG} {fb : FS} {α β : Type} (enc : α → D) (st : β → Sl) (step : β → α → β) : ∀ (items : List α) (b : β) (Iv : β → Prop), Iv b → (∀ b a, a ∈ items → Iv b → ∃ ρ1, g (enc a) (st b) = some ρ1 ∧ fb ρ1 = .ok (.nx (st (step b a))) ∧ Iv (step b a)) →
    forL g fb (items.map enc) (st b) = .ok (.nx (st (items.foldl step b)))
  | [], b, _, _, _ => rfl
  | a :: r, b, Iv, hI, h => by
    obtain ⟨ρ1, h1, h2, h3⟩ := h b a (by simp) hI
    rw [List.map_cons, forL_cons h1 h2, forL_st enc st step r (step b a) Iv h3 fun b' a' ha' => h b' a' (by simp [ha'])]
    rfl
/-- a while by a measure, its state told by a letter -/
theorem while_st {c : FT} {fb : FS} {β : Type} (st : β → Sl) (go : β → Bool) (step : β → β) (m : β → Nat) (Iv : β → Prop) (hc : ∀ b, Iv b → c (st b) = .ok (go b, st b)) (hb : ∀ b, Iv b → go b = true → fb (st b) = .ok (.nx (st (step b))) ∧ Iv (step b) ∧ m (step b) < m b) :
    ∀ (n : Nat) (b : β), m b ≤ n → Iv b → ∃ b', sWhile c fb (st b) = .ok (.nx (st b')) ∧ Iv b' ∧ go b' = false ∧ whileN c fb (n + 1) (st b) = .ok (.nx (st b'))
  | 0, b, hm, hI => by
    have hg : go b = false := by
      cases h : go b with
      | false => rfl
      | true =>
        have := (hb b hI h).2.2
        omega
    have e : whileN c fb 1 (st b) = .ok (.nx (st b)) := by
      rw [whileN, hc b hI, hg]
      rfl
    exact ⟨b, sWhile_of e (by simp), hI, hg, e⟩
  | n + 1, b, hm, hI => by
    cases h : go b with
    | false =>
      have e : whileN c fb (n + 1 + 1) (st b) = .ok (.nx (st b)) := by
        rw [whileN, hc b hI, h]
        rfl
      exact ⟨b, sWhile_of e (by simp), hI, h, e⟩
    | true =>
      obtain ⟨h1, h2, h3⟩ := hb b hI h
      obtain ⟨b', _, h5, h6, h7⟩ := while_st st go step m Iv hc hb n (step b) (by omega) h2
      have e : whileN c fb (n + 1 + 1) (st b) = .ok (.nx (st b')) := by
        rw [whileN, hc b hI, h]
        simp only [Rs.ok_bind, if_true, h1]
        exact h7
      exact ⟨b', sWhile_of e (by simp), h5, h6, e⟩
theorem sWhile_st {c : FT} {fb : FS} {β : Type} (st : β → Sl) (go : β → Bool) (step : β → β) (m : β → Nat) (Iv : β → Prop) (b : β) (hI : Iv b) (hc : ∀ b, Iv b → c (st b) = .ok (go b, st b)) (hb : ∀ b, Iv b → go b = true → fb (st b) = .ok (.nx (st (step b))) ∧ Iv (step b) ∧ m (step b) < m b) :
    ∃ b', sWhile c fb (st b) = .ok (.nx (st b')) ∧ Iv b' ∧ go b' = false :=
  let ⟨b', h1, h2, h3, _⟩ := while_st st go step m Iv hc hb (m b) b (Nat.le_refl _) hI
  ⟨b', h1, h2, h3⟩
end RL

namespace RL
open PySem PySem.Spec PyProof.Rows L2
/-! bars over data -/
/-- no objects to a depth -/
def noOb : Nat → D → Bool
  | n + 1, .tup xs => xs.all (noOb n)
  | n + 1, .lst xs => xs.all (noOb n)
  | _, d => !isOb d
theorem noOb_ob {n : Nat} {d : D} (h : noOb n d = true) : isOb d = false := by
  cases d with
  | ob C ns xs => cases n <;> simp [noOb, isOb] at h
  | _ => rfl
def isFromD (d : D) (lo hi : Int) : Bool := match d with
  | .int i => decide (lo ≤ i) && decide (i ≤ hi)
  | _ => false
def asID : D → Int
  | .int i => i
  | _ => 0
def areRestsD (m : Int) : D → Bool
  | .tup ds => decide (ds.length ≤ 60) && (ds.all (fun d => isFromD d 0 (m - 1)) && asc (ds.map asID))
  | _ => false
def isBarD : D → Bool
  | .tup [a, b] => isFromD a 1 1000000 && areRestsD (asID a) b
  | _ => false
theorem isFromD_int {d : D} {lo hi : Int} (h : isFromD d lo hi = true) : d = .int (asID d) ∧ lo ≤ asID d ∧ asID d ≤ hi := by
  cases d with
  | int i => simp only [isFromD, Bool.and_eq_true, decide_eq_true_eq] at h; exact ⟨rfl, h⟩
  | _ => cases h
theorem isFromD_of {i lo hi : Int} (h1 : lo ≤ i) (h2 : i ≤ hi) : isFromD (.int i) lo hi = true := by simp [isFromD, h1, h2]
theorem intsD_of : ∀ {ds : List D} {lo hi : Int}, ds.all (fun d => isFromD d lo hi) = true → ds = (ds.map asID).map .int ∧ ∀ i ∈ ds.map asID, lo ≤ i ∧ i ≤ hi
  | [], _, _, _ => ⟨rfl, fun _ h => nomatch h⟩
  | d :: r, lo, hi, h => by
    rw [List.all_cons, Bool.and_eq_true] at h
    obtain ⟨h1, h2⟩ := isFromD_int h.1
    obtain ⟨h3, h4⟩ := intsD_of h.2
    refine ⟨by rw [List.map_cons, List.map_cons, ← h1, ← h3], fun i hi => ?_⟩
    rcases List.mem_cons.mp hi with rfl | hi
    · exact h2
    · exact h4 i hi
theorem mapID_int (ns : List Int) : (ns.map D.int).map asID = ns := by
  rw [List.map_map]
  have : asID ∘ D.int = id := rfl
  rw [this, List.map_id]
theorem areRests_int {m : Int} {ns : List Int} (h1 : ns.length ≤ 60) (h2 : ∀ t ∈ ns, 0 ≤ t ∧ t < m) (h3 : ns.Pairwise (· < ·)) : areRestsD m (tI ns) = true := by
  have e1 : (ns.map D.int).all (fun d => isFromD d 0 (m - 1)) = true := by
    rw [List.all_map, List.all_eq_true]
    intro t ht
    have := h2 t ht
    exact isFromD_of this.1 (by omega)
  show (decide ((ns.map D.int).length ≤ 60) && ((ns.map D.int).all (fun d => isFromD d 0 (m - 1)) && RL.asc ((ns.map D.int).map asID))) = true
  rw [e1, mapID_int, pairwise_asc h3, List.length_map]
  simp [h1]
theorem rests_of {m : Int} {d : D} (h : areRestsD m d = true) : ∃ ns : List Int, d = tI ns ∧ ns.length ≤ 60 ∧ (∀ t ∈ ns, 0 ≤ t ∧ t < m) ∧ ns.Pairwise (· < ·) := by
  cases d with
  | tup ds =>
    have h2 : (decide (ds.length ≤ 60) && (ds.all (fun d => isFromD d 0 (m - 1)) && RL.asc (ds.map asID))) = true := h
    simp only [Bool.and_eq_true, decide_eq_true_eq] at h2
    obtain ⟨h3, h4, h5⟩ := h2
    obtain ⟨e1, e2⟩ := intsD_of h4
    refine ⟨ds.map asID, by show D.tup ds = .tup ((ds.map asID).map .int); rw [← e1], by rw [List.length_map]; exact h3, fun t ht => ?_, asc_pairwise h5⟩
    have := e2 t ht
    omega
  | _ => cases h
theorem isBarD_of {b : Bar} (h : BarOk b) : isBarD (barD b) = true := by
  have h3 := h.m0
  have h4 := h.m1
  show (isFromD (.int b.1) 1 1000000 && areRestsD b.1 (tI b.2)) = true
  rw [isFromD_of (by omega) (by omega), areRests_int h.len h.rng h.asc]
  rfl
theorem barD_of {d : D} (h : isBarD d = true) : ∃ b, d = barD b ∧ BarOk b := by
  unfold isBarD at h
  split at h
  · rename_i a b
    rw [Bool.and_eq_true] at h
    obtain ⟨e1, e2, e3⟩ := isFromD_int h.1
    obtain ⟨ns, rfl, h1, h2, h3⟩ := rests_of h.2
    refine ⟨(asID a, ns), ?_, ⟨by show 0 < asID a; omega, e3, h1, h2, h3⟩⟩
    show D.tup [a, tI ns] = .tup [.int (asID a), tI ns]
    rw [← e1]
  · cases h
theorem barsD_of : ∀ {ds : List D}, (∀ d ∈ ds, isBarD d = true) → ∃ bs : List Bar, ds = bs.map barD ∧ ∀ b ∈ bs, BarOk b
  | [], _ => ⟨[], rfl, fun _ h => nomatch h⟩
  | d :: r, h => by
    obtain ⟨b, e, hb⟩ := barD_of (h d List.mem_cons_self)
    obtain ⟨bs, e2, hbs⟩ := barsD_of (ds := r) fun x hx => h x (List.mem_cons_of_mem _ hx)
    refine ⟨b :: bs, by rw [e, e2]; rfl, fun x hx => ?_⟩
    rcases List.mem_cons.mp hx with rfl | hx
    · exact hb
    · exact hbs x hx
theorem atI_0 {α : Type} {a : α} {r : List α} : atI (a :: r) 0 = some a := by
  have := atI_nat (xs := a :: r) (j := 0) (v := a) rfl
  exact this
theorem atI_1 {α : Type} {a b : α} {r : List α} : atI (a :: b :: r) 1 = some b := atI_nat (xs := a :: b :: r) (j := 1) rfl
theorem atI_2 {α : Type} {a b c : α} {r : List α} : atI (a :: b :: c :: r) 2 = some c := atI_nat (xs := a :: b :: c :: r) (j := 2) rfl
theorem atI_3 {α : Type} {a b c d : α} {r : List α} : atI (a :: b :: c :: d :: r) 3 = some d := atI_nat (xs := a :: b :: c :: d :: r) (j := 3) rfl
theorem gIx_t0 {a : D} {r : List D} : gIx (.tup (a :: r)) (.int 0) = some (.d a) := gIx_tup atI_0
theorem gIx_t1 {a b : D} {r : List D} : gIx (.tup (a :: b :: r)) (.int 1) = some (.d b) := gIx_tup atI_1
theorem gIx_l0 {a : D} {r : List D} : gIx (.lst (a :: r)) (.int 0) = some (.d a) := gIx_lst atI_0
theorem gIx_l1 {a b : D} {r : List D} : gIx (.lst (a :: b :: r)) (.int 1) = some (.d b) := gIx_lst atI_1
theorem gIx_l2 {a b c : D} {r : List D} : gIx (.lst (a :: b :: c :: r)) (.int 2) = some (.d c) := gIx_lst atI_2
theorem gIx_l3 {a b c d : D} {r : List D} : gIx (.lst (a :: b :: c :: d :: r)) (.int 3) = some (.d d) := gIx_lst atI_3
/-! ints compared -/
theorem gEq_int (i j : Int) : gEq (.int i) (.int j) = some (.d (.bl (decide (i = j)))) := by
  have : (i == j) = decide (i = j) := rfl
  simp [gEq, plainD, eqD, toP, PyData.eqv, this]
theorem gNe_int (i j : Int) : gNe (.int i) (.int j) = some (.d (.bl (decide (i ≠ j)))) := by
  have : (i == j) = decide (i = j) := rfl
  simp [gNe, plainD, eqD, toP, PyData.eqv, this]
theorem plain_ints (n : Nat) (ns : List Int) : (ns.map D.int).all (plainD n) = true := by
  rw [List.all_map, List.all_eq_true]
  intro a _
  cases n <;> rfl
theorem eqvAll_ints : ∀ ms ns : List Int, PyData.eqvAll (toPs (ms.map D.int)) (toPs (ns.map D.int)) = decide (ms = ns)
  | [], [] => by simp [toPs, PyData.eqvAll]
  | [], _ :: _ => by simp [toPs, PyData.eqvAll]
  | _ :: _, [] => by simp [toPs, PyData.eqvAll]
  | a :: r, b :: q => by
    have : (a == b) = decide (a = b) := rfl
    simp only [List.map_cons, toPs, PyData.eqvAll, toP, PyData.eqv, eqvAll_ints r q, this]
    by_cases h1 : a = b <;> by_cases h2 : r = q <;> simp [h1, h2]
theorem gEq_tI (ms ns : List Int) : gEq (tI ms) (tI ns) = some (.d (.bl (decide (ms = ns)))) := by
  simp only [gEq, plainD, plain_ints, eqD, toP, PyData.eqv, eqvAll_ints, and_self, if_true]
theorem gNe_tI (ms ns : List Int) : gNe (tI ms) (tI ns) = some (.d (.bl (decide (ms ≠ ns)))) := by
  simp only [gNe, plainD, plain_ints, eqD, toP, PyData.eqv, eqvAll_ints, and_self, if_true]
  by_cases h : ms = ns <;> simp [h]
theorem gEq_lI (ms ns : List Int) : gEq (lI ms) (lI ns) = some (.d (.bl (decide (ms = ns)))) := by
  simp only [gEq, plainD, plain_ints, eqD, toP, PyData.eqv, eqvAll_ints, and_self, if_true]
theorem gNe_lI (ms ns : List Int) : gNe (lI ms) (lI ns) = some (.d (.bl (decide (ms ≠ ns)))) := by
  simp only [gNe, plainD, plain_ints, eqD, toP, PyData.eqv, eqvAll_ints, and_self, if_true]
  by_cases h : ms = ns <;> simp [h]
end RL

/-! 3d83c803671e78c43e3c56d64dec6ace9452826f3f8ca2be2e6b299ceed1d608 -/
namespace RL
open PySem PySem.Spec PyProof.Rows L2
/-! the inverse, by its law -/
def invI (a m : Int) : Int := (((List.range m.toNat).map Int.ofNat).find? (fun r => decide (r * a % m = 1 % m))).getD 0
theorem inv_uniq {a m r r' : Int} (hm : 0 < m) (h1 : 0 ≤ r ∧ r < m) (h2 : 0 ≤ r' ∧ r' < m) (e1 : r * a % m = 1 % m) (e2 : r' * a % m = 1 % m) : r = r' := by
  refine eq_of_cong h1.1 h1.2 h2.1 h2.2 ?_
  have d1 : m ∣ r * a - 1 := Int.dvd_of_emod_eq_zero (Int.emod_eq_emod_iff_emod_sub_eq_zero.mp e1)
  have d2 : m ∣ r' * a - 1 := Int.dvd_of_emod_eq_zero (Int.emod_eq_emod_iff_emod_sub_eq_zero.mp e2)
  have e : r - r' = r' * (r * a - 1) - r * (r' * a - 1) := by
    rw [Int.mul_sub, Int.mul_sub, Int.mul_one, Int.mul_one, ← Int.mul_assoc, ← Int.mul_assoc, Int.mul_comm r' r]
    omega
  rw [e]
  exact Int.dvd_sub (Int.dvd_mul_of_dvd_right d1) (Int.dvd_mul_of_dvd_right d2)
theorem invI_eq {a m r : Int} (hm : 0 < m) (h1 : 0 ≤ r ∧ r < m) (e : r * a % m = 1 % m) : invI a m = r := by
  unfold invI
  cases hf : ((List.range m.toNat).map Int.ofNat).find? (fun r => decide (r * a % m = 1 % m)) with
  | none =>
    have := List.find?_eq_none.mp hf r (List.mem_map.mpr ⟨r.toNat, List.mem_range.mpr (by omega), by show ((r.toNat : Nat) : Int) = r; omega⟩)
    simp [e] at this
  | some x =>
    have h2 := List.find?_some hf
    have h3 := List.mem_of_find?_eq_some hf
    obtain ⟨n, hn, rfl⟩ := List.mem_map.mp h3
    have hn := List.mem_range.mp hn
    have h2 : Int.ofNat n * a % m = 1 % m := of_decide_eq_true h2
    have hx : Int.ofNat n = ((n : Nat) : Int) := rfl
    show Int.ofNat n = r
    exact inv_uniq hm ⟨by omega, by omega⟩ h1 h2 e
/-! bars as they are told -/
def toBar : D → Bar
  | .tup [.int m, .tup ls] => (m, ls.map asID)
  | _ => (0, [])
theorem toBar_barD (b : Bar) : toBar (barD b) = b := by
  show (b.1, (b.2.map D.int).map asID) = b
  rw [mapID_int]
theorem toBars_map (bs : List Bar) : (bs.map barD).map toBar = bs := by
  rw [List.map_map]
  have : toBar ∘ barD = id := funext toBar_barD
  rw [this, List.map_id]
theorem all_isBarD {bs : List Bar} (h : ∀ b ∈ bs, BarOk b) : (bs.map barD).all isBarD = true := by
  rw [List.all_map, List.all_eq_true]
  exact fun b hb => isBarD_of (h b hb)
def enumK : Nat → List D → List D
  | _, [] => []
  | k, d :: r => .tup [.int (k : Nat), d] :: enumK (k + 1) r
theorem enumK_eq : ∀ (ds : List D) (k : Nat), enumK k ds = ((List.range' k ds.length).zip ds).map fun p => .tup [.int (p.1 : Nat), p.2]
  | [], _ => rfl
  | d :: r, k => by
    rw [enumK, enumK_eq r (k + 1), List.length_cons, List.range'_succ, List.zip_cons_cons, List.map_cons]
theorem enumD_eq (ds : List D) : enumD ds = enumK 0 ds := by
  rw [enumK_eq, enumD, List.range_eq_range']
/-- the first that is no bar -/
def badAt : Nat → List D → Option Nat
  | _, [] => none
  | k, d :: r => if isBarD d = true then badAt (k + 1) r else some k
theorem badAt_none : ∀ {ds : List D} {k : Nat}, badAt k ds = none → ∀ d ∈ ds, isBarD d = true
  | [], _, _, _, h => nomatch h
  | d :: r, k, h, x, hx => by
    unfold badAt at h
    by_cases hd : isBarD d = true
    · rw [if_pos hd] at h
      rcases List.mem_cons.mp hx with rfl | hx
      · exact hd
      · exact badAt_none h x hx
    · rw [if_neg hd] at h; cases h
theorem badAt_all : ∀ {ds : List D} {k : Nat}, (∀ d ∈ ds, isBarD d = true) → badAt k ds = none
  | [], _, _ => rfl
  | d :: r, k, h => by
    unfold badAt
    rw [if_pos (h d (by simp))]
    exact badAt_all fun x hx => h x (by simp [hx])
abbrev svN : List Str := ["rows", "whole_of", "own"]
abbrev svF (bs : List Bar) : SV := ⟨bs, wholeOf bs, ownOf bs⟩
abbrev svOf (bs : List Bar) : D := svD (svF bs)
/-- what Sieve(d) gives -/
inductive SvR where
  | ok (bs : List Bar) | er (e : Ex)
def mkSv : D → SvR
  | .tup ds => if ds.length > 6 then .er ⟨"BadBars", [("index", .non)]⟩ else match badAt 0 ds with
    | some k => .er ⟨"BadBars", [("index", .int (k : Nat))]⟩
    | none => if wholeOf (ds.map toBar) > 10 ^ 30 then .er ⟨"TooGreat", []⟩ else if manyOf (ds.map toBar) > 2000 then .er ⟨"TooMany", []⟩ else .ok (ds.map toBar)
  | _ => .er ⟨"BadBars", [("index", .non)]⟩
/-- bars that a sieve may have -/
structure BarsOk (bs : List Bar) : Prop where
  len : bs.length ≤ 6
  ok : ∀ b ∈ bs, BarOk b
  whole : wholeOf bs ≤ 10 ^ 30
  many : manyOf bs ≤ 2000
theorem mkSv_ok {bs : List Bar} (h : BarsOk bs) : mkSv (barsD bs) = .ok bs := by
  have h1 := h.len
  have h2 := h.whole
  have h3 := h.many
  unfold mkSv
  dsimp only
  rw [if_neg (by rw [List.length_map]; omega), badAt_all fun d hd => by obtain ⟨b, hb, rfl⟩ := List.mem_map.mp hd; exact isBarD_of (h.ok b hb)]
  dsimp only
  rw [toBars_map, if_neg (by omega), if_neg (by omega)]
end RL
namespace RL
open PySem PySem.Spec PyProof.Rows L2
/-! a def's function by what it is asked -/
open Classical in
noncomputable def specF {α : Type} (enc : α → List D) (pre : α → Prop) (post : α → Fr) (ds : List D) : Fr := if h : ∃ a, ds = enc a ∧ pre a then post (choose h) else .no
theorem specF_at {α : Type} {enc : α → List D} {pre : α → Prop} {post : α → Fr} (inj : ∀ a b, enc a = enc b → a = b) (a : α) (h : pre a) : specF enc pre post (enc a) = post a := by
  unfold specF
  have hx : ∃ b, enc a = enc b ∧ pre b := ⟨a, rfl, h⟩
  rw [dif_pos hx]
  have h2 := (Classical.choose_spec hx).1
  rw [← inj _ _ h2]
theorem specF_no {α : Type} {enc : α → List D} {pre : α → Prop} {post : α → Fr} {ds : List D} (h : specF enc pre post ds ≠ .no) : ∃ a, ds = enc a ∧ pre a := by
  unfold specF at h
  split at h
  · assumption
  · exact absurd rfl h
theorem specF_ok {α : Type} {enc : α → List D} {pre : α → Prop} {post : α → Fr} {g : FS} {n N : Nat} (inj : ∀ a b, enc a = enc b → a = b) (ok : ∀ a, pre a → (enc a).length = n ∧ out (g (startD N (enc a))) = post a) (ds : List D) (h : specF enc pre post ds ≠ .no) :
    ds.length = n ∧ out (g (startD N ds)) = specF enc pre post ds := by
  obtain ⟨a, rfl, ha⟩ := specF_no h
  rw [specF_at inj a ha]
  exact ok a ha
open Classical in
noncomputable def specO {α : Type} (enc : α → OB × List D) (pre : α → Prop) (post : α → FrO) (c : OB) (ds : List D) : FrO := if h : ∃ a, (c, ds) = enc a ∧ pre a then post (choose h) else .no
theorem specO_at {α : Type} {enc : α → OB × List D} {pre : α → Prop} {post : α → FrO} (inj : ∀ a b, enc a = enc b → a = b) (a : α) (h : pre a) : specO enc pre post (enc a).1 (enc a).2 = post a := by
  unfold specO
  have hx : ∃ b, ((enc a).1, (enc a).2) = enc b ∧ pre b := ⟨a, rfl, h⟩
  rw [dif_pos hx]
  have h2 := (Classical.choose_spec hx).1
  rw [← inj _ _ h2]
theorem specO_no {α : Type} {enc : α → OB × List D} {pre : α → Prop} {post : α → FrO} {c : OB} {ds : List D} (h : specO enc pre post c ds ≠ .no) : ∃ a, (c, ds) = enc a ∧ pre a := by
  unfold specO at h
  split at h
  · assumption
  · exact absurd rfl h
theorem specO_len {α : Type} {enc : α → OB × List D} {pre : α → Prop} {post : α → FrO} {n : Nat} (hn : ∀ a, (enc a).2.length = n) (c : OB) (ds : List D) (h : specO enc pre post c ds ≠ .no) : ds.length = n := by
  obtain ⟨a, e, _⟩ := specO_no h
  rw [show ds = (enc a).2 from congrArg Prod.snd e]
  exact hn a
theorem specO_ok {α : Type} {enc : α → OB × List D} {pre : α → Prop} {post : α → FrO} {g : FS} {N : Nat} (inj : ∀ a b, enc a = enc b → a = b) (ok : ∀ p a, pre a → outO p (g (startO N p (enc a).1 (enc a).2)) = post a) (p : Addr) (c : OB) (ds : List D) (h : specO enc pre post c ds ≠ .no) :
    outO p (g (startO N p c ds)) = specO enc pre post c ds := by
  obtain ⟨a, e, ha⟩ := specO_no h
  obtain rfl : c = (enc a).1 := congrArg Prod.fst e
  obtain rfl : ds = (enc a).2 := congrArg Prod.snd e
  rw [specO_at inj a ha]
  exact ok p a ha
theorem int_inj : Function.Injective D.int := fun a b h => by cases h; rfl
theorem tI_inj {a b : List Int} (h : tI a = tI b) : a = b := by
  have h : a.map D.int = b.map D.int := by injection h
  have := congrArg (List.map asID) h
  rwa [mapID_int, mapID_int] at this
theorem lI_inj {a b : List Int} (h : lI a = lI b) : a = b := by
  have h : a.map D.int = b.map D.int := by injection h
  have := congrArg (List.map asID) h
  rwa [mapID_int, mapID_int] at this
theorem barsD_inj {a b : List Bar} (h : barsD a = barsD b) : a = b := by
  have h : a.map barD = b.map barD := by injection h
  have := congrArg (List.map toBar) h
  rwa [toBars_map, toBars_map] at this
theorem svOf_inj {a b : List Bar} (h : svOf a = svOf b) : a = b := by
  injection h with _ _ h
  injection h with h _
  exact barsD_inj h
end RL
namespace RL
theorem BarsOk.w0 {bs : List Bar} (h : BarsOk bs) : 0 < wholeOf bs := (wholeOf_lt h.len fun b hb => ⟨(h.ok b hb).m0, (h.ok b hb).m1⟩).1
theorem BarsOk.w1 {bs : List Bar} (h : BarsOk bs) : wholeOf bs < 2 ^ 100 := by
  have := h.whole
  have e : (10 : Int) ^ 30 < 2 ^ 100 := by decide
  omega
theorem BarsOk.own {bs : List Bar} (h : BarsOk bs) : (ownOf bs).length ≤ 2000 := by
  have := own_take_len h.ok h.many bs.length
  rwa [List.take_length] at this
end RL

namespace RL
open PySem PySem.Spec PyProof.Rows L2
/-! try -/
section
variable {K : PySem.W.Frag} {F H F' H' : Hp} {σ σ' : L2.St} {ρ ρ' : Sl}
/-- a slot is given up -/
theorem Rel.drop {i : Nat} {v : Option V} (r : Rel K F H σ ρ) : Aft K F H σ ρ F H (σ.set i v) (ρ.set i none) := by
  have key : ∀ {j : Nat} {s : S}, (ρ.set i none)[j]? = some (some s) → j ≠ i ∧ ρ[j]? = some (some s) := fun {j s} e => by
    rcases get_set_some e with ⟨_, z⟩ | ⟨hj, z⟩
    · cases z
    · exact ⟨hj, z⟩
  refine ⟨⟨r.sub, fun j s e => ?_, fun j k c c' p e1 e2 e3 e4 => ?_, by rw [List.length_set, List.length_set]; exact r.len⟩, .refl, fun p h => .inl ?_⟩
  · obtain ⟨hj, z⟩ := key e
    obtain ⟨w, ew, q⟩ := r.at_ j s z
    exact ⟨w, by rw [List.getElem?_set_ne (Ne.symm hj)]; exact ew, q⟩
  · obtain ⟨hj, z1⟩ := key e1
    obtain ⟨hk, z2⟩ := key e2
    rw [List.getElem?_set_ne (Ne.symm hj)] at e3
    rw [List.getElem?_set_ne (Ne.symm hk)] at e4
    exact r.dis j k c c' p z1 z2 e3 e4
  · obtain ⟨j, c, e1, e2⟩ := h
    obtain ⟨hj, z⟩ := key e1
    rw [List.getElem?_set_ne (Ne.symm hj)] at e2
    exact ⟨j, c, z, e2⟩
end
/-- an except suite: e the exception of class C that slot i holds -/
def LX (K : PySem.W.Frag) (C : Str) (i : Nat) (fX : Ex → FS) (a : Addr) (cls : Value) (d : Option Addr) : TS := fun D σ H => ∃ F ρ e, Rel K F H σ ρ ∧ cls = .ref (He.ga K C) ∧ e.c = C ∧ RE H d e ∧ σ[i]? = some (some (.ref a)) ∧ PostS K W0 F H σ ρ (fX e ρ) D
structure Hnd (X : Cx) (K : PySem.W.Frag) (C : Str) (i : Nat) (b₀ : Stmt) (suite : List Stmt) (fX : Ex → FS) : Prop where
  run : ∀ (a : Addr) (oe : Obj) (cls : Value) (d : Option Addr) (pn : List (Addr × Obj)), Zc cls d oe → (∃ vs, oe.data = .fields vs) → PSs (X.suite a ((a, oe) :: pn)) (b₀ :: suite) (LX K C i fX a cls d)
/-- behind the suite its name is gone -/
def endX (i : Nat) : Rs Flow → Rs Flow
  | .ok (.nx ρ) => .ok (.nx (ρ.set i none))
  | .ok (.bk ρ) => .ok (.bk (ρ.set i none))
  | .ok (.ct ρ) => .ok (.ct (ρ.set i none))
  | .ok (.rt s ρ) => .ok (.rt s ρ)
  | _ => .no
/-- try: .. except C as e: ..; tbl: which errors the clause takes -/
def sTry (fb : FS) (C : Str) (tbl : List (Str × Bool)) (i : Nat) (fX : Ex → FS) : FS := fun ρ => match fb ρ with
  | .er e ρ1 => (match tbl.lookup e.c with
    | some true => if e.c = C ∧ i < ρ1.length then endX i (fX e (ρ1.set i none)) else .no
    | some false => .er e ρ1
    | none => .no)
  | r => r
theorem lookup_mem' {α : Type} {x : Str} {b : α} : ∀ {l : List (Str × α)}, l.lookup x = some b → (x, b) ∈ l
  | [], h => by cases h
  | (y, c) :: r, h => by
    rw [List.lookup_cons] at h
    by_cases e : x = y
    · rw [e] at h ⊢
      simp at h
      rw [h]
      exact List.mem_cons_self
    · rw [beq_eq_false_iff_ne.mpr e] at h
      exact List.mem_cons_of_mem _ (lookup_mem' h)
section
variable {X : Cx} {K : PySem.W.Frag} {W : WX} {x n C : Str} {i : Nat} {body suite : List Stmt} {b₀ : Stmt} {np pos pos' : Pos} {fb : FS} {fX : Ex → FS} {tbl : List (Str × Bool)}
theorem wx_try {F H F1 H1 : Hp} {σ σ1 : L2.St} {ρ ρ1 : Sl} {e : Ex} {d : Option Addr} {D : Ends} {a : Addr} (A : Aft K F H σ ρ F1 H1 σ1 ρ1) (re : RE H1 d e) (hC : e.c = C) (hi : i < ρ1.length) (q : PostS K W F H σ ρ (endX i (fX e (ρ1.set i none))) D) :
    LX K C i fX a (.ref (He.ga K e.c)) d { nx := fun σ' H' => D.nx (σ'.set i none) H', rt := D.rt, bk := fun σ' H' => D.bk (σ'.set i none) H', ct := fun σ' H' => D.ct (σ'.set i none) H' } (σ1.set i (some (.ref a))) H1 := by
  have B := Rel.drop (i := i) (v := some (.ref a)) A.rel
  refine ⟨F1, ρ1.set i none, e, B.rel, by rw [hC], hC, re, List.getElem?_set_self (by rw [A.rel.len]; exact hi), ?_⟩
  have AB := A.trans B
  cases ef : fX e (ρ1.set i none) with
  | no => rw [ef] at q; exact q
  | er z y => rw [ef] at q; exact q.elim
  | ok fl =>
    rw [ef] at q
    cases fl with
    | nx ρ2 => exact fun σ2 F2 H2 A2 => q _ F2 H2 ((AB.trans A2).trans (Rel.drop A2.rel))
    | bk ρ2 => exact fun σ2 F2 H2 A2 => q _ F2 H2 ((AB.trans A2).trans (Rel.drop A2.rel))
    | ct ρ2 => exact fun σ2 F2 H2 A2 => q _ F2 H2 ((AB.trans A2).trans (Rel.drop A2.rel))
    | rt s ρ2 => exact fun v σ2 F2 H2 A2 rn nn => q v σ2 F2 H2 (AB.trans A2) (rn.dom AB.tr.dom) nn
theorem ds_try (hs : X.stack = X.env :: X.outer) (hf : X.env.frame = some X.env.locals) (hN : X.N.Nodup) (hi : X.N[i]? = some n) (hln : X.env.kindOf n = some .local) (hm : X.mg C = some (.ref (He.ga K C))) (tk : Takes X W)
    (htb : ∀ p ∈ tbl, PySem.W.exmOne K (.ref (He.ga K p.1)) (.ref (He.ga K C)) = some p.2)
    (hb : ∀ (W : WX) (pn : List (Addr × Obj)) (xe : Value → Shared → Prop), Takes (X.tr pn xe) W → PassesOwn (model X.prog X.w) X.A X.env xe → DSs (X.tr pn xe) K W body fb)
    (hh : Hnd X K C i b₀ suite fX) (hg : Gl X C := by rfl) (hdb : (C == ("__debug__" : Str)) = false := by decide) (hK : X.K = K := by rfl) :
    DS X K W (.Try body [.ExceptHandler (some (.Name C np)) (some n) (b₀ :: suite) pos'] [] [] pos) (sTry fb C tbl i fX) := by
  subst hK
  refine ⟨(ps_try_as hs hf hN hi hln (c := .ref (He.ga X.K C)) ⟨hg, hdb, .inl hm⟩ tk (fun W pn xe t p => (hb W pn xe t p).ps) hh.run).weak fun D σ H ⟨F, ρ, r, q⟩ => ⟨F, ρ, r, ?_⟩⟩
  unfold sTry at q
  cases e1 : fb ρ with
  | no => rw [e1] at q; exact q
  | ok fl => rw [e1] at q; dsimp only at q; cases fl <;> exact q
  | er e ρ1 =>
    rw [e1] at q
    dsimp only at q
    intro d σ1 F1 H1 A re
    cases el : tbl.lookup e.c with
    | none => rw [el] at q; exact q.elim
    | some b =>
      rw [el] at q
      refine ⟨b, htb _ (lookup_mem' el), fun hbt a ha => ?_, fun hbf => ?_⟩
      · subst hbt
        dsimp only at q
        by_cases hc : e.c = C ∧ i < ρ1.length
        · rw [if_pos hc] at q
          exact wx_try A re hc.1 hc.2 q
        · rw [if_neg hc] at q; exact q.elim
      · subst hbf
        exact q d σ1 F1 H1 A re
end
/-! the suite x = A if isinstance(e, R) else B -/
def sSetX (j : Nat) (fa : FE) : Ex → FS := fun e ρ => match e.fs with
  | [] => sSet j fa ρ
  | _ => .no
theorem hnd_A {X : Cx} {K : PySem.W.Frag} {C R : Str} {i j : Nat} {eN a b : Expr} {st : Stmt} {fa : FE} {tb : TE} {p1 p2 p3 pI : Pos} (EC : ExcC K (He.ga K C)) (kR : PySem.W.kitOne K (.ref (He.ga K C)) (.ref (He.ga K R)) = some true)
    (hmI : X.mg "isinstance" = none) (hmR : X.mg R = some (.ref (He.ga K R)))
    (hv : ∀ (q : Addr) (oe : Obj) (pn : List (Addr × Obj)), PE (X.suite q ((q, oe) :: pn)) eN (tVar i)) (ha : ∀ (q : Addr) (oe : Obj) (pn : List (Addr × Obj)), DE (X.suite q ((q, oe) :: pn)) K W0 a fa) (hb : ∀ (q : Addr) (oe : Obj) (pn : List (Addr × Obj)), PE (X.suite q ((q, oe) :: pn)) b tb)
    (hp : ∀ (q : Addr) (oe : Obj) (pn : List (Addr × Obj)) {te : TE}, PE (X.suite q ((q, oe) :: pn)) (.IfExp (.Call (.Name "isinstance" p1) [eN, .Name R p2] [] p3) a b pI) te → PS (X.suite q ((q, oe) :: pn)) st (tAsg te (gName j)))
    (hgI : Gl X "isinstance" := by rfl) (hgR : Gl X R := by rfl) (hdR : (R == ("__debug__" : Str)) = false := by decide) (h1 : starEach [eN, .Name R p2] X.env = (false, eval eN X.env) :: starEach [.Name R p2] X.env := by rfl) (h2 : starEach [.Name R p2] X.env = [(false, eval (.Name R p2) X.env)] := by rfl)
    (hpl : (backTo p3 (starEach [.Name R p2] X.env)).any (·.1) = false := by rfl) (hT : ∀ whole, isTrue (.Call (.Name "isinstance" p1) [eN, .Name R p2] [] p3) X.env whole = (do let v ← whole; standAt (Expr.pos (.Call (.Name "isinstance" p1) [eN, .Name R p2] [] p3)); holding [v] (truthy v)) := by intro _; rfl) (hK : X.K = K := by rfl) :
    Hnd X K C i st [] (sSetX j fa) := by
  subst hK
  refine ⟨fun q oe cls d pn hz hf => ?_⟩
  by_cases hc : cls = .ref (He.ga X.K C) ∧ d = none
  · obtain ⟨rfl, rfl⟩ := hc
    have t1 := pe_callB (X := X.suite q ((q, oe) :: pn)) (x := "isinstance") (p := p1) (pos := p3) (call_isE EC hz hf) hgI hmI bt_isinstance (pa_cons (hv q oe pn) (pa_cons (pe_G (X := X.suite q ((q, oe) :: pn)) (x := R) (v := .ref (He.ga X.K R)) (pos := p2) ⟨_, hmR, rfl⟩ hgR hdR) pa_nil h2) h1) (by decide) (by decide) h1 hpl
    have t2 := hp q oe pn (pe_ifExp (pos := pI) (pt_val t1 hT) (ha q oe pn).pe (hb q oe pn))
    refine (pss_one t2).weak fun D σ H ⟨F, ρ, e, r, _, hC, re, hi, ps⟩ => ?_
    have he : e.fs = [] := by
      cases efs : e.fs with
      | nil => rfl
      | cons y ys =>
        unfold RE at re
        rw [efs] at re
        obtain ⟨_, z, _⟩ := re
        cases z
    refine ⟨_, hi, _, _, true, rfl, (fun u hu => hu), kR, true, rfl, ?_⟩
    dsimp only
    rw [if_pos rfl]
    unfold sSetX at ps
    rw [he] at ps
    exact ls_set ⟨F, ρ, r, ps⟩
  · refine ⟨fun pins s σ H D I h => ?_⟩
    obtain ⟨F, ρ, e, r, h1, hC, re, hi, ps⟩ := h
    exfalso
    unfold sSetX at ps
    cases efs : e.fs with
    | nil =>
      unfold RE at re
      rw [efs] at re
      exact hc ⟨h1, re⟩
    | cons y ys => rw [efs] at ps; exact ps
/-- what the head must say of such a class -/
def excB (x : Str) : Fct := fun K => He.eqO (PySem.W.findIn K (.ref (He.ga K x)) "__getattribute__") (some (some (.builtin "BaseException.__getattribute__"))) && (He.eqO (PySem.W.findIn K (.ref (He.ga K x)) "__getattr__") (some none) && (decide (PySem.W.subIn K (.ref (He.ga K x)) (.type "BaseException") = some true) &&
  (PySem.W.hasDictIn K (He.ga K x) && (He.eqO (PySem.W.findIn K (.ref (He.ga K x)) "__class__") (some (some (.builtin "object.__class__"))) && (He.eqO (PySem.W.specialIn K (.builtin "object.__class__") "__get__") (some (some (.builtin "getset_descriptor.__get__"))) &&
    (decide (PySem.W.takesIn K (.builtin "object.__class__") = some true) && decide (PySem.W.mroIn K (He.ga K x) (.type "object") = some true)))))))
theorem excB_ok {x : Str} {K : PySem.W.Frag} (c : excB x K = true) : ExcC K (He.ga K x) := by
  obtain ⟨c1, c⟩ := He.ba c
  obtain ⟨c2, c⟩ := He.ba c
  obtain ⟨c3, c⟩ := He.ba c
  obtain ⟨c4, c⟩ := He.ba c
  obtain ⟨c5, c⟩ := He.ba c
  obtain ⟨c6, c⟩ := He.ba c
  obtain ⟨c7, c8⟩ := He.ba c
  exact ⟨He.eqO_ok c1, He.eqO_ok c2, of_decide_eq_true c3, c4, He.eqO_ok c5, He.eqO_ok c6, of_decide_eq_true c7, of_decide_eq_true c8⟩
def kitF (x y : Str) : Fct := fun K => decide (PySem.W.kitOne K (.ref (He.ga K x)) (.ref (He.ga K y)) = some true)
theorem kitF_ok {x y : Str} {K : PySem.W.Frag} (c : kitF x y K = true) : PySem.W.kitOne K (.ref (He.ga K x)) (.ref (He.ga K y)) = some true := of_decide_eq_true c
end RL
namespace RL
open PySem PySem.Spec PyProof.Rows L2
/-- {} -/
def dDict0 : FN := fun ρ => .ok (.o ⟨none, .od []⟩, ρ)
theorem dn_dict0 {X : Cx} {K : PySem.W.Frag} {W : WX} {pos : Pos} : DN X K W (.Dict [] [] pos) dDict0 := ⟨pe_dnewK.weak fun σ H Q ⟨F, ρ, r, q⟩ => fun p hp =>
  q F _ (Aft.step r (.alloc hp) (Same.alloc r.sub hp)) (.ref p) ⟨p, _, rfl, hp, none_of r.sub hp, upd_same, (fun _ z => nomatch z), rfl⟩ (fun z e _ ow => by
    cases e
    obtain ⟨_, o, ho⟩ := ow.there r
    rw [hp] at ho; cases ho)⟩
/-! the bars that a number breaks -/
def brokenL (bs : List Bar) (n : Int) : List Int := (((List.range bs.length).zip bs).filter (fun p => !decide (n % p.2.1 ∈ p.2.2))).map fun p => ((p.1 : Nat) : Int)
theorem enumD_bars (bs : List Bar) : enumD (bs.map barD) = ((List.range bs.length).zip bs).map fun p => D.tup [.int ((p.1 : Nat) : Int), barD p.2] := by
  unfold enumD
  rw [List.length_map, List.zip_map_right, List.map_map]
  rfl
theorem brokenL_nil (bs : List Bar) (n : Int) : decide (brokenL bs n = []) = fitsB bs n := by
  have : brokenL bs n = [] ↔ fitsB bs n = true := by
    unfold brokenL
    rw [List.map_eq_nil_iff, List.filter_eq_nil_iff, fits_iff]
    constructor
    · intro h b hb
      obtain ⟨i, hi, rfl⟩ := List.getElem_of_mem hb
      have := h (i, bs[i]) (List.mem_iff_getElem?.mpr ⟨i, by rw [List.getElem?_zip_eq_some]; exact ⟨by simp [hi], by simp [hi]⟩⟩)
      simpa using this
    · rintro h ⟨i, b⟩ hb
      have hb2 := (List.of_mem_zip hb).2
      have := h b hb2
      simp [this]
  by_cases h : brokenL bs n = []
  · rw [decide_eq_true h, this.mp h]
  · rw [decide_eq_false h]
    cases e : fitsB bs n with
    | false => rfl
    | true => exact absurd (this.mpr e) h
abbrev far : Int := 1000000000000000000000000000000
theorem isFromD_ob {d : D} {lo hi : Int} (h : isFromD d lo hi = true) : isOb d = false := by
  cases d <;> first | rfl | cases h
end RL

namespace RL
open PySem PySem.Spec PyProof.Rows L2
/-! how many of some ascending numbers are below a number -/
def ltN (cs : List Int) (x : Int) : Nat := (cs.filter fun c => decide (c < x)).length
theorem ltN_le (cs : List Int) (x : Int) : ltN cs x ≤ cs.length := List.length_filter_le _ _
theorem ltN_iff : ∀ {cs : List Int} {x : Int} {m : Nat} {c : Int}, cs.Pairwise (· < ·) → cs[m]? = some c → (c < x ↔ m < ltN cs x)
  | [], x, m, c, _, h => by simp at h
  | a :: r, x, m, c, hp, h => by
    obtain ⟨h1, h2⟩ := List.pairwise_cons.mp hp
    by_cases hx : a < x
    · have e : ltN (a :: r) x = ltN r x + 1 := by simp [ltN, hx]
      rw [e]
      cases m with
      | zero => simp at h; subst h; exact ⟨fun _ => by omega, fun _ => hx⟩
      | succ m =>
        have := ltN_iff (x := x) (m := m) (c := c) h2 (by simpa using h)
        rw [this]
        omega
    · have e : ltN (a :: r) x = 0 := by
        unfold ltN
        rw [List.length_eq_zero_iff, List.filter_eq_nil_iff]
        intro y hy
        rcases List.mem_cons.mp hy with rfl | hy
        · simpa using hx
        · have := h1 y hy
          simp
          omega
      rw [e]
      have hc : c ∈ a :: r := List.mem_of_getElem? h
      rcases List.mem_cons.mp hc with rfl | hc
      · omega
      · have := h1 c hc
        omega
theorem ltN_zero {cs : List Int} {x : Int} (h : ∀ c ∈ cs, x ≤ c) : ltN cs x = 0 := by
  unfold ltN
  rw [List.length_eq_zero_iff, List.filter_eq_nil_iff]
  intro c hc
  have := h c hc
  simp
  omega
theorem ltN_all {cs : List Int} {x : Int} (h : ∀ c ∈ cs, c < x) : ltN cs x = cs.length := by
  unfold ltN
  rw [List.filter_eq_self.mpr fun c hc => by simpa using h c hc]
theorem ltN_succ : ∀ {cs : List Int} {x : Int}, cs.Pairwise (· < ·) → ltN cs (x + 1) = ltN cs x + (if x ∈ cs then 1 else 0)
  | [], x, _ => by simp [ltN]
  | a :: r, x, hp => by
    obtain ⟨h1, h2⟩ := List.pairwise_cons.mp hp
    have ih := ltN_succ (x := x) h2
    have e1 : ltN (a :: r) (x + 1) = ltN r (x + 1) + (if a < x + 1 then 1 else 0) := by
      unfold ltN
      by_cases h : a < x + 1 <;> simp [h]
    have e2 : ltN (a :: r) x = ltN r x + (if a < x then 1 else 0) := by
      unfold ltN
      by_cases h : a < x <;> simp [h]
    rw [e1, e2, ih]
    by_cases hx : x = a
    · subst hx
      have : x ∉ r := fun z => by have := h1 x z; omega
      have h3 : x < x + 1 := by omega
      simp [this, h3]
    · by_cases hm : x ∈ r
      · have := h1 x hm
        have h3 : a < x + 1 := by omega
        have h4 : a < x := by omega
        simp [hm, h3, h4]
      · by_cases h3 : a < x
        · have h4 : a < x + 1 := by omega
          simp [hm, h3, h4, hx]
        · have h4 : ¬ a < x + 1 := by omega
          simp [hm, h3, h4, hx]
/-! how many numbers from 0 on, below a number, fit -/
def belowN (bs : List Bar) (n : Int) : Int := n / wholeOf bs * ((ownOf bs).length : Int) + (ltN (ownOf bs) (n % wholeOf bs) : Int)
theorem mem_own_iff {bs : List Bar} (hw : 0 < wholeOf bs) {n : Int} : n % wholeOf bs ∈ ownOf bs ↔ fitsB bs n = true := by
  rw [mem_own]
  have h1 := Int.emod_nonneg n (Int.ne_of_gt hw)
  have h2 := Int.emod_lt_of_pos n hw
  have : fitsB bs n = fitsB bs (n % wholeOf bs) := fits_mod (dvd_sub_emod n (wholeOf bs))
  rw [this]
  exact ⟨fun h => h.2.2, fun h => ⟨h1, h2, h⟩⟩
theorem below_succ {bs : List Bar} (hw : 0 < wholeOf bs) (n : Int) : belowN bs (n + 1) = belowN bs n + (if fitsB bs n = true then 1 else 0) := by
  have hw0 := Int.ne_of_gt hw
  have h1 := Int.emod_nonneg n hw0
  have h2 := Int.emod_lt_of_pos n hw
  have h3 := Int.emod_add_mul_ediv n (wholeOf bs)
  have hs := ltN_succ (x := n % wholeOf bs) (own_asc bs)
  have hi : (if n % wholeOf bs ∈ ownOf bs then 1 else 0 : Nat) = if fitsB bs n = true then 1 else 0 := by
    by_cases h : fitsB bs n = true
    · rw [if_pos h, if_pos ((mem_own_iff hw).mpr h)]
    · rw [if_neg h, if_neg fun z => h ((mem_own_iff hw).mp z)]
  rw [hi] at hs
  unfold belowN
  by_cases hr : n % wholeOf bs + 1 < wholeOf bs
  · have e1 : (n + 1) / wholeOf bs = n / wholeOf bs ∧ (n + 1) % wholeOf bs = n % wholeOf bs + 1 := by
      rw [Int.ediv_emod_unique hw]
      omega
    rw [e1.1, e1.2, hs]
    split <;> simp <;> omega
  · have e1 : (n + 1) / wholeOf bs = n / wholeOf bs + 1 ∧ (n + 1) % wholeOf bs = 0 := by
      rw [Int.ediv_emod_unique hw, Int.mul_add]
      omega
    have e2 : ltN (ownOf bs) (n % wholeOf bs + 1) = (ownOf bs).length := ltN_all fun c hc => by
      have := (mem_own.mp hc).2.1
      omega
    have e3 : ltN (ownOf bs) 0 = 0 := ltN_zero fun c hc => (mem_own.mp hc).1
    rw [e1.1, e1.2, e3, Int.add_mul]
    rw [e2] at hs
    rw [hs]
    split <;> simp <;> omega
/-- the fitting numbers of a stretch -/
def fitL (bs : List Bar) (b : Int) : Nat → List Int
  | 0 => []
  | n + 1 => fitL bs b n ++ (if fitsB bs (b + (n : Nat)) = true then [b + (n : Nat)] else [])
theorem below_count {bs : List Bar} (hw : 0 < wholeOf bs) (b : Int) : ∀ n : Nat, belowN bs (b + (n : Nat)) - belowN bs b = ((fitL bs b n).length : Int)
  | 0 => by simp [fitL]
  | n + 1 => by
    have ih := below_count hw b n
    have e : b + ((n + 1 : Nat) : Int) = (b + (n : Nat)) + 1 := by omega
    rw [e, below_succ hw, fitL, List.length_append]
    split <;> simp <;> omega
theorem below_whole {bs : List Bar} (hw : 0 < wholeOf bs) (n k : Int) : belowN bs (n + k * wholeOf bs) = belowN bs n + k * ((ownOf bs).length : Int) := by
  unfold belowN
  rw [Int.add_mul_ediv_right _ _ (Int.ne_of_gt hw), Int.add_mul_emod_self_right, Int.add_mul]
  omega
end RL
namespace RL
open PySem PySem.Spec PyProof.Rows L2
/-! sieves moved and turned: f 1 or -1 -/
def mapB (f m : Int) (b : Bar) : Bar := (b.1, sortI (b.2.map fun t => (f * t + m) % b.1))
def mapBs (f m : Int) (bs : List Bar) : List Bar := bs.map (mapB f m)
theorem sortI_mem {l : List Int} {x : Int} : x ∈ sortI l ↔ x ∈ l := (sortI_perm l).mem_iff
theorem sortI_len (l : List Int) : (sortI l).length = l.length := (sortI_perm l).length_eq
theorem asc_of_nodup {l : List Int} (h1 : l.Pairwise (· ≤ ·)) (h2 : l.Nodup) : l.Pairwise (· < ·) := by
  have := List.pairwise_and_iff.mpr ⟨h1, h2⟩
  exact this.imp fun h => by
    have := h.1
    have := h.2
    omega
theorem sortI_asc {l : List Int} (h : l.Nodup) : (sortI l).Pairwise (· < ·) := asc_of_nodup (sortI_sorted l) ((sortI_perm l).nodup_iff.mpr h)
theorem map_nodup {f m M : Int} {l : List Int} (hf : f = 1 ∨ f = -1) (hM : 0 < M) (hr : ∀ t ∈ l, 0 ≤ t ∧ t < M) (hn : l.Nodup) : (l.map fun t => (f * t + m) % M).Nodup := by
  unfold List.Nodup at hn ⊢
  rw [List.pairwise_map]
  refine hn.imp_of_mem fun {a b} ha hb hne e => hne ?_
  have h1 := hr a ha
  have h2 := hr b hb
  have d : M ∣ (f * a + m) - (f * b + m) := Int.dvd_of_emod_eq_zero (Int.emod_eq_emod_iff_emod_sub_eq_zero.mp e)
  rcases hf with rfl | rfl
  · refine eq_of_cong h1.1 h1.2 h2.1 h2.2 ?_
    have : 1 * a + m - (1 * b + m) = a - b := by omega
    rwa [this] at d
  · refine (eq_of_cong h2.1 h2.2 h1.1 h1.2 ?_).symm
    have : -1 * a + m - (-1 * b + m) = b - a := by omega
    rwa [this] at d
theorem mapB_ok {f m : Int} {b : Bar} (hf : f = 1 ∨ f = -1) (h : BarOk b) : BarOk (mapB f m b) := by
  have hM := h.m0
  refine ⟨h.m0, h.m1, ?_, fun t ht => ?_, sortI_asc (map_nodup hf hM h.rng (asc_nodup h.asc))⟩
  · show (sortI (b.2.map fun t => (f * t + m) % b.1)).length ≤ 60
    rw [sortI_len, List.length_map]
    exact h.len
  · obtain ⟨u, _, rfl⟩ := List.mem_map.mp (sortI_mem.mp ht)
    exact ⟨Int.emod_nonneg _ (Int.ne_of_gt hM), Int.emod_lt_of_pos _ hM⟩
theorem mapBs_whole (f m : Int) (bs : List Bar) : wholeOf (mapBs f m bs) = wholeOf bs := by
  unfold wholeOf mapBs
  rw [List.foldl_map]
  rfl
theorem mapBs_many (f m : Int) (bs : List Bar) : manyOf (mapBs f m bs) = manyOf bs := by
  unfold manyOf mapBs
  rw [List.foldl_map]
  congr 1
  funext k b
  show k * mx1 (sortI (b.2.map fun t => (f * t + m) % b.1)).length = k * mx1 b.2.length
  rw [sortI_len, List.length_map]
theorem mapBs_ok {f m : Int} {bs : List Bar} (hf : f = 1 ∨ f = -1) (h : BarsOk bs) : BarsOk (mapBs f m bs) :=
  ⟨by unfold mapBs; rw [List.length_map]; exact h.len, fun b hb => by obtain ⟨c, hc, rfl⟩ := List.mem_map.mp hb; exact mapB_ok hf (h.ok c hc), by rw [mapBs_whole]; exact h.whole, by rw [mapBs_many]; exact h.many⟩
/-- n fits the moved sieve if f * (n - m) fits -/
theorem mapBs_fits {f m : Int} {bs : List Bar} (hf : f = 1 ∨ f = -1) (h : ∀ b ∈ bs, BarOk b) (n : Int) : fitsB (mapBs f m bs) n = fitsB bs (f * (n - m)) := by
  have key : ∀ b ∈ bs, (n % b.1 ∈ sortI (b.2.map fun t => (f * t + m) % b.1)) ↔ (f * (n - m)) % b.1 ∈ b.2 := fun b hb => by
    have hM := (h b hb).m0
    rw [sortI_mem, List.mem_map]
    constructor
    · rintro ⟨t, ht, e⟩
      have ht2 := (h b hb).rng t ht
      have d : b.1 ∣ n - (f * t + m) := Int.dvd_of_emod_eq_zero (Int.emod_eq_emod_iff_emod_sub_eq_zero.mp e.symm)
      have d2 : b.1 ∣ f * (n - m) - t := by
        rcases hf with rfl | rfl
        · have : 1 * (n - m) - t = n - (1 * t + m) := by omega
          rwa [this]
        · have : -1 * (n - m) - t = -(n - (-1 * t + m)) := by omega
          rw [this]
          exact Int.dvd_neg.mpr d
      rw [emod_of_dvd_sub d2, Int.emod_eq_of_lt ht2.1 ht2.2]
      exact ht
    · intro ht
      refine ⟨_, ht, ?_⟩
      have d2 := dvd_sub_emod (f * (n - m)) b.1
      generalize f * (n - m) % b.1 = t at d2
      refine (emod_of_dvd_sub ?_).symm
      rcases hf with rfl | rfl
      · have : n - (1 * t + m) = 1 * (n - m) - t := by omega
        rwa [this]
      · have : n - (-1 * t + m) = -(-1 * (n - m) - t) := by omega
        rw [this]
        exact Int.dvd_neg.mpr d2
  have iff : fitsB (mapBs f m bs) n = true ↔ fitsB bs (f * (n - m)) = true := by
    rw [fits_iff, fits_iff]
    constructor
    · intro hh b hb
      exact (key b hb).mp (hh (mapB f m b) (List.mem_map_of_mem hb))
    · intro hh b hb
      obtain ⟨c, hc, rfl⟩ := List.mem_map.mp hb
      exact (key c hc).mpr (hh c hc)
  cases e : fitsB bs (f * (n - m)) with
  | true => exact iff.mpr e
  | false =>
    cases e2 : fitsB (mapBs f m bs) n with
    | false => rfl
    | true => rw [iff.mp e2] at e; cases e
/-- as many fit -/
theorem mapBs_len {f m : Int} {bs : List Bar} (hf : f = 1 ∨ f = -1) (h : BarsOk bs) : (ownOf (mapBs f m bs)).length = (ownOf bs).length := by
  have w0 := h.w0
  have hp : (ownOf (mapBs f m bs)).Perm ((ownOf bs).map fun t => (f * t + m) % wholeOf bs) := by
    refine (List.perm_ext_iff_of_nodup (asc_nodup (own_asc _)) (map_nodup hf w0 (fun t ht => ⟨(mem_own.mp ht).1, (mem_own.mp ht).2.1⟩) (asc_nodup (own_asc bs)))).mpr fun x => ?_
    rw [mem_own, mapBs_whole, mapBs_fits hf h.ok, List.mem_map]
    constructor
    · rintro ⟨h1, h2, h3⟩
      refine ⟨(f * (x - m)) % wholeOf bs, (mem_own_iff w0).mpr h3, ?_⟩
      have d2 := dvd_sub_emod (f * (x - m)) (wholeOf bs)
      generalize f * (x - m) % wholeOf bs = t at d2
      have e : (f * t + m) % wholeOf bs = x % wholeOf bs := by
        refine (emod_of_dvd_sub ?_).symm
        rcases hf with rfl | rfl
        · have : x - (1 * t + m) = 1 * (x - m) - t := by omega
          rwa [this]
        · have : x - (-1 * t + m) = -(-1 * (x - m) - t) := by omega
          rw [this]
          exact Int.dvd_neg.mpr d2
      rw [e, Int.emod_eq_of_lt h1 h2]
    · rintro ⟨t, ht, rfl⟩
      refine ⟨Int.emod_nonneg _ (Int.ne_of_gt w0), Int.emod_lt_of_pos _ w0, ?_⟩
      have ht3 := (mem_own.mp ht).2.2
      rw [← ht3]
      refine fits_mod ?_
      have d2 := dvd_sub_emod (f * t + m) (wholeOf bs)
      generalize (f * t + m) % wholeOf bs = x at d2
      rcases hf with rfl | rfl
      · have : 1 * (x - m) - t = -(1 * t + m - x) := by omega
        rw [this]
        exact Int.dvd_neg.mpr d2
      · have : -1 * (x - m) - t = -1 * t + m - x := by omega
        rwa [this]
  rw [hp.length_eq, List.length_map]
end RL
namespace RL
/-- the fitting number with an index -/
def numAt (bs : List Bar) (i : Int) : Int := i / ((ownOf bs).length : Int) * wholeOf bs + (ownOf bs).getD (i % ((ownOf bs).length : Int)).toNat 0
end RL
namespace RL
theorem below_bd {bs : List Bar} {n : Int} (h : BarsOk bs) (hn : -far ≤ n ∧ n ≤ far) : -(2 ^ 150) < belowN bs n ∧ belowN bs n < 2 ^ 150 := by
  have w0 := h.w0
  have ho := h.own
  have hl := ltN_le (ownOf bs) (n % wholeOf bs)
  have q1 := Int.natAbs_ediv_le_natAbs n (wholeOf bs)
  have q2 : -(2 ^ 101) ≤ n / wholeOf bs ∧ n / wholeOf bs ≤ 2 ^ 101 := by unfold far at hn; omega
  unfold belowN
  generalize n / wholeOf bs = q at q2
  have a1 : q * ((ownOf bs).length : Int) ≤ 2 ^ 101 * 2000 := by
    by_cases hq : 0 ≤ q
    · exact Int.mul_le_mul q2.2 (by omega) (by omega) (by decide)
    · have := Int.mul_nonneg (a := -q) (b := ((ownOf bs).length : Int)) (by omega) (by omega)
      rw [Int.neg_mul] at this
      omega
  have a2 : -(2 ^ 101 * 2000) ≤ q * ((ownOf bs).length : Int) := by
    by_cases hq : 0 ≤ q
    · have := Int.mul_nonneg (a := q) (b := ((ownOf bs).length : Int)) (by omega) (by omega)
      omega
    · have := Int.mul_le_mul (a := -q) (b := ((ownOf bs).length : Int)) (c := 2 ^ 101) (d := 2000) (by omega) (by omega) (by omega) (by decide)
      rw [Int.neg_mul] at this
      omega
  omega
end RL
namespace RL
theorem ltN_at {cs : List Int} {m : Nat} {c : Int} (hp : cs.Pairwise (· < ·)) (h : cs[m]? = some c) : ltN cs c = m := by
  have h1 := ltN_iff (x := c) hp h
  have h2 : ltN cs c ≤ m := by omega
  by_cases h3 : ltN cs c < m
  · exfalso
    have hm := (List.getElem?_eq_some_iff.mp h).1
    have hl : ltN cs c < cs.length := by omega
    have e : cs[ltN cs c]? = some cs[ltN cs c] := List.getElem?_eq_getElem hl
    have h4 := ltN_iff (x := c) hp e
    have h5 : cs[ltN cs c] < c := by
      have := List.pairwise_iff_getElem.mp hp (ltN cs c) m hl hm h3
      rw [(List.getElem?_eq_some_iff.mp h).2] at this
      exact this
    have := h4.mp h5
    omega
  · omega
/-- the number of a fitting number is itself -/
theorem numAt_below {bs : List Bar} (hw : 0 < wholeOf bs) {n : Int} (hf : fitsB bs n = true) : numAt bs (belowN bs n) = n := by
  have hm := (mem_own_iff hw).mpr hf
  obtain ⟨m, hm2⟩ := List.mem_iff_getElem?.mp hm
  have hlt := ltN_at (own_asc bs) hm2
  have hml := (List.getElem?_eq_some_iff.mp hm2).1
  have hl : (0 : Int) < ((ownOf bs).length : Int) := by omega
  have e1 : belowN bs n / ((ownOf bs).length : Int) = n / wholeOf bs ∧ belowN bs n % ((ownOf bs).length : Int) = (m : Int) := by
    rw [Int.ediv_emod_unique hl]
    unfold belowN
    rw [hlt, Int.mul_comm]
    omega
  unfold numAt
  rw [e1.1, e1.2]
  have e2 : ((m : Nat) : Int).toNat = m := by omega
  rw [e2, List.getD_eq_getElem?_getD, hm2]
  have := Int.emod_add_mul_ediv n (wholeOf bs)
  rw [Int.mul_comm] at this
  show n / wholeOf bs * wholeOf bs + n % wholeOf bs = n
  omega
/-- the numbers of a stretch go one behind the other -/
theorem fitL_below {bs : List Bar} (hw : 0 < wholeOf bs) (b : Int) : ∀ (n k : Nat) (x : Int), (fitL bs b n)[k]? = some x → fitsB bs x = true ∧ belowN bs x = belowN bs b + k
  | 0, k, x, h => by simp [fitL] at h
  | n + 1, k, x, h => by
    unfold fitL at h
    have hc := below_count hw b n
    by_cases hk : k < (fitL bs b n).length
    · rw [List.getElem?_append_left hk] at h
      exact fitL_below hw b n k x h
    · rw [List.getElem?_append_right (by omega)] at h
      by_cases hf : fitsB bs (b + (n : Nat)) = true
      · rw [if_pos hf] at h
        have hk2 : k - (fitL bs b n).length = 0 := by
          cases e : k - (fitL bs b n).length with
          | zero => rfl
          | succ j => rw [e] at h; simp at h
        rw [hk2] at h
        simp at h
        subst h
        refine ⟨hf, ?_⟩
        omega
      · rw [if_neg hf] at h
        simp at h
theorem numAt_fitL {bs : List Bar} (hw : 0 < wholeOf bs) {b : Int} {n k : Nat} {x : Int} (h : (fitL bs b n)[k]? = some x) : numAt bs (belowN bs b + k) = x := by
  obtain ⟨h1, h2⟩ := fitL_below hw b n k x h
  rw [← h2]
  exact numAt_below hw h1
theorem numAt_whole {bs : List Bar} (h : ownOf bs ≠ []) (i k : Int) : numAt bs (i + k * ((ownOf bs).length : Int)) = numAt bs i + k * wholeOf bs := by
  have hl : (0 : Int) < ((ownOf bs).length : Int) := by
    have := List.length_pos_iff.mpr h
    omega
  unfold numAt
  rw [Int.add_mul_ediv_right _ _ (Int.ne_of_gt hl), Int.add_mul_emod_self_right, Int.add_mul]
  omega
end RL
namespace RL
theorem fitL_le (bs : List Bar) (b : Int) : ∀ n : Nat, (fitL bs b n).length ≤ n
  | 0 => by simp [fitL]
  | n + 1 => by
    have := fitL_le bs b n
    rw [fitL, List.length_append]
    split <;> simp <;> omega
theorem below_zero (bs : List Bar) : belowN bs 0 = 0 := by
  have : ltN (ownOf bs) 0 = 0 := ltN_zero fun c hc => (mem_own.mp hc).1
  simp [belowN, this]
theorem below_abs {bs : List Bar} (hw : 0 < wholeOf bs) (x : Int) : (0 ≤ x → 0 ≤ belowN bs x ∧ belowN bs x ≤ x) ∧ (x ≤ 0 → x ≤ belowN bs x ∧ belowN bs x ≤ 0) := by
  constructor
  · intro hx
    have h := below_count hw 0 x.toNat
    have e : (0 : Int) + ((x.toNat : Nat) : Int) = x := by omega
    rw [e, below_zero] at h
    have := fitL_le bs 0 x.toNat
    omega
  · intro hx
    have h := below_count hw x (-x).toNat
    have e : x + (((-x).toNat : Nat) : Int) = 0 := by omega
    rw [e, below_zero] at h
    have := fitL_le bs x (-x).toNat
    omega
end RL

namespace RL
open PySem PySem.Spec PyProof.Rows L2
/-! several clauses, each with the same name -/
abbrev ClT := Value × (Addr → Value → Option Addr → TS)
/-- what the clauses wish, one behind the other; slot i is the name's -/
def wSev (K : PySem.W.Frag) (i : Nat) (Wo : WX) (D : Ends) : List ClT → WX
  | [] => Wo
  | (c, ts) :: r => fun kl dd σ H => ∃ b, PySem.W.exmOne K kl c = some b ∧
      (b = true → ∀ ea, H ea = none → ts ea kl dd { nx := fun σ' H' => D.nx (σ'.set i none) H', rt := D.rt, bk := fun σ' H' => D.bk (σ'.set i none) H', ct := fun σ' H' => D.ct (σ'.set i none) H' } (σ.set i (some (.ref ea))) H) ∧
      (b = false → wSev K i Wo D r kl dd σ H)
inductive ClsOk (X : Cx) (n : Str) : List ExceptHandler → List ClT → Prop
  | nil : ClsOk X n [] []
  | cons {x : Str} {c : Value} {ts : Addr → Value → Option Addr → TS} {st : Stmt} {sts : List Stmt} {np hp : Pos} {hl : List ExceptHandler} {l : List ClT} (nm : Names X x c)
      (run : ∀ (ea : Addr) (oc : Obj) (kl : Value) (dd : Option Addr) (pn : List (Addr × Obj)), Zc kl dd oc → (∃ vs, oc.data = .fields vs) → PSs (X.suite ea ((ea, oc) :: pn)) (st :: sts) (ts ea kl dd)) (r : ClsOk X n hl l) :
      ClsOk X n (.ExceptHandler (some (.Name x np)) (some n) (st :: sts) hp :: hl) ((c, ts) :: l)
section
variable {X : Cx} {n : Str} {i : Nat} {body : List Stmt} {k₀ : ExceptHandler} {kl₀ : List ExceptHandler} {cl : List ClT} {pos : Pos} {tb : WX → TS} {Wo : WX}
theorem ps_trySev (hst : X.stack = X.env :: X.outer) (hfr : X.env.frame = some X.env.locals) (nd : X.N.Nodup) (hi : X.N[i]? = some n) (lc : X.env.kindOf n = some .local) (tk : Takes X Wo)
    (hb : ∀ (W : WX) (pn : List (Addr × Obj)) (xe : Value → Shared → Prop), Takes (X.tr pn xe) W → PassesOwn (model X.prog X.w) X.A X.env xe → PSs (X.tr pn xe) body (tb W)) (hc : ClsOk X n (k₀ :: kl₀) cl) :
    PS X (.Try body (k₀ :: kl₀) [] [] pos) (fun D σ H => tb (wSev X.K i Wo D cl) D σ H) := by
  refine ⟨fun pins s σ H D I hh => wpAny_Try_except ?_⟩
  have okX := I.ok
  have frames : X.A.frames = some (X.env :: X.outer) := okX.frames.trans (congrArg some hst)
  refine wpAny_mono ((hb (wSev X.K i Wo D cl) (X.pn ++ pins) (fun ev t1 => wpAny (model X.prog X.w) X.A (noteFrame ev X.env) (fun _ t2 => wpAny (model X.prog X.w) X.A (setFlight ev none) (fun _ t3 =>
    wpAny (model X.prog X.w) X.A (handleBy ev X.env (k₀ :: kl₀)) (SP X pins D) X.xe t3) X.xe t2) X.xe t1) (fun u t0 caught => ?_) PassesOwn.looking).run [] s σ H D (I.toTry _) hh) (fun fl t1 after => ?_) (fun _ _ z => z)
  · obtain ⟨ea, bb, si, ps', τ, G, kl, dd, rfl, Jt, nb, up, sky, na, osx, agx, wish⟩ := caught
    have Jx : Inv X pins τ G si := Jt.ofTry okX
    show wpAny (model X.prog X.w) X.A (noteFrame (.ref ea) X.env) _ _ _
    refine Sky.land Zc.steady frames hfr (by rw [← hst]; exact sky) fun g3 ld up3 => ?_
    have Jl : Inv X pins τ G { t0 with heap := g3 } := Jx.landed nb ld.1 (up.trans up3) osx agx
    obtain ⟨oc, fv, hoc, hzc, hfv⟩ := ld.there
    have notIn : ea ∉ frs (X.env :: X.outer) := fun hm => by
      obtain ⟨_, o2, q1, q2⟩ := ld.2.2.1.mem hm
      rw [hoc] at q1
      cases q1
      exact q2 _ hfv
    have nLoc : ea ≠ X.env.locals := fun z => notIn (List.mem_filterMap.mpr ⟨X.env, List.mem_cons_self, hfr.trans (congrArg some z.symm)⟩)
    have nFs : ea ∉ X.fs := fun hm => by
      obtain ⟨ev, q1, q2⟩ := List.mem_filterMap.mp hm
      exact notIn (List.mem_filterMap.mpr ⟨ev, List.mem_cons_of_mem _ q1, q2⟩)
    have Sx := Jl.suite hoc hfv na nLoc nFs
    have each : ∀ {hl : List ExceptHandler} {l : List ClT}, ClsOk X n hl l → wSev X.K i Wo D l kl dd τ G → wpAny (model X.prog X.w) X.A (handleBy (.ref ea) X.env hl) (SP X pins D) X.xe { t0 with heap := g3 } := by
      intro hl l ck
      induction ck with
      | nil =>
        intro ww
        refine wpAny_handleBy_nil ?_
        obtain ⟨y1, y2, y3, oy, vy, TT, oT, tsy, q1, q2, q3, q4, q5⟩ := id ld
        unfold PySem.passOn
        refine wpAny_bind (wpAny_field q1 q3 q4 ?_)
        rw [if_neg (show ¬ ((Value.ref TT == Value.none) = true) by simp)]
        have last : wpAny (model X.prog X.w) X.A (setFlight (.ref ea) X.env.frame) (fun _ t4 => wpAny (model X.prog X.w) X.A (throw (.ref ea) : Sem PySem.Flow) (SP X pins D) X.xe t4) X.xe { t0 with heap := g3 } := by
          rw [hfr]
          exact HandSPX.setFlight_upZ ld fun g4 l4 up4 => wpAny_throw (tk _ _ ⟨ea, bb, si, pins, τ, G, kl, dd, rfl, Jx, nb, (up.trans up3).trans up4, .inr (.inr (by rw [hst]; exact l4)), na, osx, agx, ww⟩)
        first
          | exact wpAny_bind (wpAny_pure (wpAny_bind last))
          | exact wpAny_bind last
      | @cons x c ts st sts np hp hl2 l2 nm run rr ih =>
        intro ww
        obtain ⟨b, qb, yes, no⟩ := ww
        refine wpAny_handleBy_cons (codeAny_handlers_test ?_) (fun z => by cases z)
        have lt : PySem.W.Looks (model X.prog X.w) g3 (typeOf (.ref ea)) kl := fun A Q E t k z => wpAny_typeOf_ref (k _ _ hoc) (by rw [hzc.1]; exact z)
        have lm := PySem.W.exm_one (M := model X.prog X.w) Jl.kIn lt qb
        have named : ∀ {Q E : Value → Shared → Prop}, Q c { t0 with heap := g3 } → wpAny (model X.prog X.w) (X.A.mark (some (.ref ea))) (eval (.Name x np) X.env) Q E { t0 with heap := g3 } := fun {Q E} z => by
          obtain ⟨n1, n2, n3 | ⟨n3, n4, n5⟩⟩ := nm
          · exact ld_glob (X := X.suite ea ((ea, oc) :: (X.pn ++ pins))) Sx n1 n3 z n2
          · exact ld_blt (X := X.suite ea ((ea, oc) :: (X.pn ++ pins))) Sx n1 n3 n4 z n5 n2
        refine named (lm.here ?_)
        cases b with
        | false =>
          show wpAny _ X.A (handleBy (.ref ea) X.env hl2) _ _ _
          exact ih (no rfl)
        | true =>
          refine codeAny_handlers_suite_as (HandSPX.lands_againZ ld fun g4 l4 up4 => ?_)
          have J4 : Inv X pins τ G { t0 with heap := g4 } := Jx.landed nb l4.1 ((up.trans up3).trans up4) osx agx
          obtain ⟨o4, v4, w4, z4, d4⟩ := l4.there
          refine store_ok (X := X.suite ea ((ea, o4) :: (X.pn ++ pins))) (v := .ref ea) (J4.suite w4 d4 na nLoc nFs) nd hi (.inl lc) rfl (fun t5 S5 => ?_) (.inr lc)
          refine wpAny_mono ((run ea o4 kl dd (X.pn ++ pins) z4 ⟨_, d4⟩).run [] t5 _ G _ S5 (yes rfl ea na)) (fun fl t6 aft => ?_) (fun _ _ z => z.elim)
          have gone : ∀ {τ6 : L2.St} {G6 : Hp} {Q : Shared → Prop}, Inv (X.suite ea ((ea, o4) :: (X.pn ++ pins))) [] τ6 G6 t6 → (∀ t7, Inv X pins (τ6.set i none) G6 t7 → Q t7) →
              wpAny (model X.prog X.w) X.A (do bindName X.env n .none; unbindBehindTheSuite X.env n hp) (fun _ t7 => Q t7) X.xe t6 := fun S6 z => gone_ok (S6.unsuite okX) nd hi lc z
          cases fl with
          | next => obtain ⟨_, _, S6, z⟩ := aft; exact gone S6 fun t7 J7 => ⟨_, _, J7, z⟩
          | brk => obtain ⟨_, _, S6, z⟩ := aft; exact gone S6 fun t7 J7 => ⟨_, _, J7, z⟩
          | cont => obtain ⟨_, _, S6, z⟩ := aft; exact gone S6 fun t7 J7 => ⟨_, _, J7, z⟩
          | ret u => obtain ⟨_, _, _, S6, r6, z⟩ := aft; exact gone S6 fun t7 J7 => ⟨_, _, _, J7, r6, z⟩
    exact each hc wish
  · cases fl with
    | next => obtain ⟨τ, G, Jt, z⟩ := after; exact wpAny_execs_nil ⟨τ, G, Jt.ofTry okX, z⟩
    | brk => obtain ⟨τ, G, Jt, z⟩ := after; exact ⟨τ, G, Jt.ofTry okX, z⟩
    | cont => obtain ⟨τ, G, Jt, z⟩ := after; exact ⟨τ, G, Jt.ofTry okX, z⟩
    | ret u => obtain ⟨v, τ, G, Jt, r, z⟩ := after; exact ⟨v, τ, G, Jt.ofTry okX, r, z⟩
end
/-! over data -/
structure Cl where
  C : Str
  tbl : List (Str × Bool)
  fX : Ex → FS
def tryGo (i : Nat) (e : Ex) (ρ1 : Sl) : List Cl → Rs Flow
  | [] => .er e ρ1
  | c :: r => (match c.tbl.lookup e.c with
    | some true => if e.c = c.C ∧ i < ρ1.length then endX i (c.fX e (ρ1.set i none)) else .no
    | some false => tryGo i e ρ1 r
    | none => .no)
def sTryS (fb : FS) (i : Nat) (cs : List Cl) : FS := fun ρ => match fb ρ with
  | .er e ρ1 => tryGo i e ρ1 cs
  | r => r
inductive ClsD (X : Cx) (K : PySem.W.Frag) (n : Str) (i : Nat) : List ExceptHandler → List Cl → Prop
  | nil : ClsD X K n i [] []
  | cons {C : Str} {tbl : List (Str × Bool)} {fX : Ex → FS} {st : Stmt} {sts : List Stmt} {np hp : Pos} {hl : List ExceptHandler} {cs : List Cl} (hm : X.mg C = some (.ref (He.ga K C))) (htb : ∀ p ∈ tbl, PySem.W.exmOne K (.ref (He.ga K p.1)) (.ref (He.ga K C)) = some p.2) (hh : Hnd X K C i st sts fX)
      (r : ClsD X K n i hl cs) (hg : Gl X C := by rfl) (hdb : (C == ("__debug__" : Str)) = false := by decide) : ClsD X K n i (.ExceptHandler (some (.Name C np)) (some n) (st :: sts) hp :: hl) (⟨C, tbl, fX⟩ :: cs)
def clT (K : PySem.W.Frag) (i : Nat) (c : Cl) : ClT := (.ref (He.ga K c.C), LX K c.C i c.fX)
section
variable {X : Cx} {K : PySem.W.Frag} {W : WX} {n : Str} {i : Nat} {body : List Stmt} {k₀ : ExceptHandler} {kl₀ : List ExceptHandler} {cs : List Cl} {pos : Pos} {fb : FS}
theorem ClsD.ok {hl : List ExceptHandler} (h : ClsD X K n i hl cs) : ClsOk X n hl (cs.map (clT K i)) := by
  induction h with
  | nil => exact .nil
  | cons hm htb hh r hg hdb ih => exact .cons ⟨hg, hdb, .inl hm⟩ hh.run ih
theorem go_wish {F H F1 H1 : Hp} {σ σ1 : L2.St} {ρ ρ1 : Sl} {e : Ex} {d : Option Addr} {D : Ends} (A : Aft K F H σ ρ F1 H1 σ1 ρ1) (re : RE H1 d e) {hl : List ExceptHandler} (h : ClsD X K n i hl cs) (q : PostS K W F H σ ρ (tryGo i e ρ1 cs) D) :
    wSev K i W D (cs.map (clT K i)) (.ref (He.ga K e.c)) d σ1 H1 := by
  induction h with
  | nil => exact q d σ1 F1 H1 A re
  | @cons C tbl fX st sts np hp hl cs hm htb hh r hg hdb ih =>
    unfold tryGo at q
    dsimp only at q
    cases el : tbl.lookup e.c with
    | none => rw [el] at q; exact q.elim
    | some b =>
      rw [el] at q
      refine ⟨b, htb _ (lookup_mem' el), fun hbt a ha => ?_, fun hbf => ?_⟩
      · subst hbt
        dsimp only at q
        by_cases hc : e.c = C ∧ i < ρ1.length
        · rw [if_pos hc] at q
          exact wx_try A re hc.1 hc.2 q
        · rw [if_neg hc] at q; exact q.elim
      · subst hbf
        exact ih q
theorem ds_tryS (hs : X.stack = X.env :: X.outer) (hf : X.env.frame = some X.env.locals) (hN : X.N.Nodup) (hi : X.N[i]? = some n) (hln : X.env.kindOf n = some .local) (tk : Takes X W)
    (hb : ∀ (W : WX) (pn : List (Addr × Obj)) (xe : Value → Shared → Prop), Takes (X.tr pn xe) W → PassesOwn (model X.prog X.w) X.A X.env xe → DSs (X.tr pn xe) K W body fb)
    (hh : ClsD X K n i (k₀ :: kl₀) cs) (hK : X.K = K := by rfl) : DS X K W (.Try body (k₀ :: kl₀) [] [] pos) (sTryS fb i cs) := by
  subst hK
  refine ⟨(ps_trySev hs hf hN hi hln tk (fun W pn xe t p => (hb W pn xe t p).ps) hh.ok).weak fun D σ H ⟨F, ρ, r, q⟩ => ⟨F, ρ, r, ?_⟩⟩
  unfold sTryS at q
  cases e1 : fb ρ with
  | no => rw [e1] at q; exact q
  | ok fl => rw [e1] at q; dsimp only at q; cases fl <;> exact q
  | er e ρ1 =>
    rw [e1] at q
    exact fun d σ1 F1 H1 A re => go_wish A re hh q
end
end RL

namespace RL
open PySem PySem.Spec PyProof.Rows L2
/-! steps through the functions over data -/
def wpS (r : Rs Flow) (Q : Flow → Prop) : Prop := ∃ fl, r = .ok fl ∧ Q fl
/-- it goes on, and Q holds of the slots -/
abbrev nxQ (Q : Sl → Prop) : Flow → Prop := fun fl => ∃ ρ, fl = .nx ρ ∧ Q ρ
/-- it gives s back -/
abbrev rtQ (s : S) : Flow → Prop := fun fl => ∃ ρ, fl = .rt s ρ
section
variable {f g h : FS} {fb : FS} {gt : FG} {fi : FI} {c : FT} {ρ ρ1 : Sl} {Q : Flow → Prop} {I : Sl → Prop} {r : Rs Flow}
theorem wp_seq (h : f ρ = .ok (.nx ρ1)) (k : wpS (g ρ1) Q) : wpS (sSeq f g ρ) Q := by
  rw [sSeq_nx h]; exact k
theorem wp_end {fl : Flow} (h : r = .ok fl) (k : Q fl) : wpS r Q := ⟨fl, h, k⟩
theorem wp_nx {P : Sl → Prop} (h : r = .ok (.nx ρ1)) (k : P ρ1) : wpS r (nxQ P) := ⟨_, h, _, rfl, k⟩
theorem wp_rt {s : S} (h : r = .ok (.rt s ρ1)) : wpS r (rtQ s) := ⟨_, h, _, rfl⟩
theorem out_wp {s : S} (h : wpS r (rtQ s)) : out r = .ok s := by
  obtain ⟨_, rfl, ρ, rfl⟩ := h
  rfl
theorem wp_seq_seq (k : wpS (sSeq f (sSeq g h) ρ) Q) : wpS (sSeq (sSeq f g) h ρ) Q := by
  obtain ⟨fl, e, q⟩ := k
  refine ⟨fl, ?_, q⟩
  rw [← e]
  unfold sSeq
  cases f ρ with
  | ok fl => cases fl <;> rfl
  | er _ _ => rfl
  | no => rfl
theorem sSeq_rt {s : S} (h : f ρ = .ok (.rt s ρ1)) : sSeq f g ρ = .ok (.rt s ρ1) := by
  unfold sSeq
  rw [h]
theorem wp_seq_rt {s : S} (h : f ρ = .ok (.rt s ρ1)) (k : Q (.rt s ρ1)) : wpS (sSeq f g ρ) Q := ⟨_, sSeq_rt h, k⟩
theorem wp_seq_nx (k : wpS (g ρ) Q) : wpS (sSeq sNx g ρ) Q := k
theorem wp_if {b : Bool} (e : c ρ = .ok (b, ρ1)) (ht : b = true → wpS (f ρ1) Q) (hf : b = false → wpS (g ρ1) Q) : wpS (sIf c f g ρ) Q := by
  have z : sIf c f g ρ = if b = true then f ρ1 else g ρ1 := by unfold sIf; rw [e]; rfl
  rw [z]
  cases b with
  | true => exact ht rfl
  | false => exact hf rfl
theorem wp_seq_if {b : Bool} (e : c ρ = .ok (b, ρ1)) (ht : b = true → wpS (sSeq f h ρ1) Q) (hf : b = false → wpS (sSeq g h ρ1) Q) : wpS (sSeq (sIf c f g) h ρ) Q := by
  have z : sIf c f g ρ = if b = true then f ρ1 else g ρ1 := by unfold sIf; rw [e]; rfl
  unfold sSeq
  rw [z]
  cases b with
  | true => exact ht rfl
  | false => exact hf rfl
/-- a test that is false, and goes on -/
theorem wp_seq_no (e : c ρ = .ok (false, ρ1)) (k : wpS (h ρ1) Q) : wpS (sSeq (sIf c f sNx) h ρ) Q := wp_seq_if e (fun z => nomatch z) fun _ => k
theorem wp_no (e : c ρ = .ok (false, ρ1)) (k : Q (.nx ρ1)) : wpS (sIf c f sNx ρ) Q := wp_if e (fun z => nomatch z) fun _ => ⟨_, rfl, k⟩
/-- a loop that keeps I -/
theorem forL_inv (I : Sl → Prop) : ∀ (items : List D) (ρ : Sl), I ρ → (∀ x ∈ items, ∀ ρ, I ρ → ∃ ρ1, gt x ρ = some ρ1 ∧ wpS (fb ρ1) (nxQ I)) → ∃ ρ', forL gt fb items ρ = .ok (.nx ρ') ∧ I ρ'
  | [], ρ, h, _ => ⟨ρ, rfl, h⟩
  | x :: r, ρ, h, hb => by
    obtain ⟨ρ1, e1, _, e2, ρ2, rfl, h2⟩ := hb x (by simp) ρ h
    obtain ⟨ρ', e3, h3⟩ := forL_inv I r ρ2 h2 fun y hy => hb y (by simp [hy])
    exact ⟨ρ', (forL_cons e1 e2).trans e3, h3⟩
theorem wp_for {items : List D} (I : Sl → Prop) (hi : fi ρ = .ok (items, ρ1)) (h0 : I ρ1) (hb : ∀ x ∈ items, ∀ ρ, I ρ → ∃ ρ1, gt x ρ = some ρ1 ∧ wpS (fb ρ1) (nxQ I)) (k : ∀ ρ, I ρ → wpS (g ρ) Q) : wpS (sSeq (sFor fi gt fb) g ρ) Q := by
  obtain ⟨ρ', e, h⟩ := forL_inv I items ρ1 h0 hb
  refine wp_seq (ρ1 := ρ') ?_ (k ρ' h)
  unfold sFor
  rw [hi]
  exact e
/-- a loop that keeps I i, i how many turns were done -/
theorem forL_ix (I : Nat → Sl → Prop) : ∀ (items : List D) (k : Nat) (ρ : Sl), I k ρ → (∀ (i : Nat) (x : D) (ρ : Sl), items[i]? = some x → I (k + i) ρ → ∃ ρ1, gt x ρ = some ρ1 ∧ wpS (fb ρ1) (nxQ (I (k + i + 1)))) → ∃ ρ', forL gt fb items ρ = .ok (.nx ρ') ∧ I (k + items.length) ρ'
  | [], k, ρ, h, _ => ⟨ρ, rfl, h⟩
  | x :: r, k, ρ, h, hb => by
    obtain ⟨ρ1, e1, _, e2, ρ2, rfl, h2⟩ := hb 0 x ρ rfl h
    obtain ⟨ρ', e3, h3⟩ := forL_ix I r (k + 1) ρ2 h2 fun i y ρ hy hI => by
      have := hb (i + 1) y ρ (by simpa using hy) (by rw [show k + (i + 1) = k + 1 + i by omega]; exact hI)
      rw [show k + (i + 1) + 1 = k + 1 + i + 1 by omega] at this
      exact this
    exact ⟨ρ', (forL_cons e1 e2).trans e3, by rw [show k + (x :: r).length = k + 1 + r.length by simp; omega]; exact h3⟩
theorem wp_forix {items : List D} (I : Nat → Sl → Prop) (hi : fi ρ = .ok (items, ρ1)) (h0 : I 0 ρ1) (hb : ∀ (i : Nat) (x : D) (ρ : Sl), items[i]? = some x → I i ρ → ∃ ρ1, gt x ρ = some ρ1 ∧ wpS (fb ρ1) (nxQ (I (i + 1)))) (k : ∀ ρ, I items.length ρ → wpS (g ρ) Q) : wpS (sSeq (sFor fi gt fb) g ρ) Q := by
  obtain ⟨ρ', e, h⟩ := forL_ix I items 0 ρ1 h0 (fun i x ρ h1 h2 => by simpa using hb i x ρ h1 (by simpa using h2))
  refine wp_seq (ρ1 := ρ') ?_ (k ρ' (by simpa using h))
  unfold sFor
  rw [hi]
  exact e
theorem wp_for0 {items : List D} (I : Sl → Prop) (hi : fi ρ = .ok (items, ρ1)) (h0 : I ρ1) (hb : ∀ x ∈ items, ∀ ρ, I ρ → ∃ ρ1, gt x ρ = some ρ1 ∧ wpS (fb ρ1) (nxQ I)) (k : ∀ ρ, I ρ → Q (.nx ρ)) : wpS (sFor fi gt fb ρ) Q := by
  obtain ⟨ρ', e, h⟩ := forL_inv I items ρ1 h0 hb
  refine ⟨_, ?_, k ρ' h⟩
  unfold sFor
  rw [hi]
  exact e
theorem wp_forix0 {items : List D} (I : Nat → Sl → Prop) (hi : fi ρ = .ok (items, ρ1)) (h0 : I 0 ρ1) (hb : ∀ (i : Nat) (x : D) (ρ : Sl), items[i]? = some x → I i ρ → ∃ ρ1, gt x ρ = some ρ1 ∧ wpS (fb ρ1) (nxQ (I (i + 1)))) (k : ∀ ρ, I items.length ρ → Q (.nx ρ)) : wpS (sFor fi gt fb ρ) Q := by
  obtain ⟨ρ', e, h⟩ := forL_ix I items 0 ρ1 h0 (fun i x ρ h1 h2 => by simpa using hb i x ρ h1 (by simpa using h2))
  refine ⟨_, ?_, k ρ' (by simpa using h)⟩
  unfold sFor
  rw [hi]
  exact e
/-- a loop with a state of its own -/
theorem forL_fold {α β : Type} (enc : α → D) (I : β → Sl → Prop) (step : β → α → β) : ∀ (items : List α) (b : β) (ρ : Sl), I b ρ → (∀ (b : β) (a : α) (ρ : Sl), a ∈ items → I b ρ → ∃ ρ1, gt (enc a) ρ = some ρ1 ∧ wpS (fb ρ1) (nxQ (I (step b a)))) → ∃ ρ', forL gt fb (items.map enc) ρ = .ok (.nx ρ') ∧ I (items.foldl step b) ρ'
  | [], b, ρ, h, _ => ⟨ρ, rfl, h⟩
  | x :: r, b, ρ, h, hb => by
    obtain ⟨ρ1, e1, _, e2, ρ2, rfl, h2⟩ := hb b x ρ (by simp) h
    obtain ⟨ρ', e3, h3⟩ := forL_fold enc I step r (step b x) ρ2 h2 fun b a ρ ha => hb b a ρ (by simp [ha])
    exact ⟨ρ', (forL_cons e1 e2).trans e3, h3⟩
theorem wp_fold {α β : Type} {items : List α} (enc : α → D) (I : β → Sl → Prop) (step : β → α → β) (b : β) (hi : fi ρ = .ok (items.map enc, ρ1)) (h0 : I b ρ1) (hb : ∀ (b : β) (a : α) (ρ : Sl), a ∈ items → I b ρ → ∃ ρ1, gt (enc a) ρ = some ρ1 ∧ wpS (fb ρ1) (nxQ (I (step b a)))) (k : ∀ ρ, I (items.foldl step b) ρ → wpS (g ρ) Q) : wpS (sSeq (sFor fi gt fb) g ρ) Q := by
  obtain ⟨ρ', e, h⟩ := forL_fold enc I step items b ρ1 h0 hb
  refine wp_seq (ρ1 := ρ') ?_ (k ρ' h)
  unfold sFor
  rw [hi]
  exact e
theorem wp_fold0 {α β : Type} {items : List α} (enc : α → D) (I : β → Sl → Prop) (step : β → α → β) (b : β) (hi : fi ρ = .ok (items.map enc, ρ1)) (h0 : I b ρ1) (hb : ∀ (b : β) (a : α) (ρ : Sl), a ∈ items → I b ρ → ∃ ρ1, gt (enc a) ρ = some ρ1 ∧ wpS (fb ρ1) (nxQ (I (step b a)))) (k : ∀ ρ, I (items.foldl step b) ρ → Q (.nx ρ)) : wpS (sFor fi gt fb ρ) Q := by
  obtain ⟨ρ', e, h⟩ := forL_fold enc I step items b ρ1 h0 hb
  refine ⟨_, ?_, k ρ' h⟩
  unfold sFor
  rw [hi]
  exact e
/-- a loop that ends at the first a with p a, giving res a back -/
theorem forL_find {α : Type} (enc : α → D) (p : α → Bool) (res : α → S) (I : Sl → Prop) : ∀ (items : List α) (ρ : Sl), I ρ → (∀ (a : α) (ρ : Sl), a ∈ items → I ρ → ∃ ρ1, gt (enc a) ρ = some ρ1 ∧ ((p a = true ∧ ∃ ρ2, fb ρ1 = .ok (.rt (res a) ρ2)) ∨ (p a = false ∧ ∃ ρ2, fb ρ1 = .ok (.nx ρ2) ∧ I ρ2))) →
    (∃ a ρ', items.find? p = some a ∧ forL gt fb (items.map enc) ρ = .ok (.rt (res a) ρ')) ∨ (items.find? p = none ∧ ∃ ρ', forL gt fb (items.map enc) ρ = .ok (.nx ρ') ∧ I ρ')
  | [], ρ, h, _ => .inr ⟨rfl, ρ, rfl, h⟩
  | x :: r, ρ, h, hb => by
    obtain ⟨ρ1, e1, ⟨e2, ρ2, e3⟩ | ⟨e2, ρ2, e3, h3⟩⟩ := hb x ρ (by simp) h
    · exact .inl ⟨x, ρ2, by rw [List.find?_cons, e2], forL_ret e1 e3⟩
    · rcases forL_find enc p res I r ρ2 h3 fun a ρ ha => hb a ρ (by simp [ha]) with ⟨a, ρ', e4, e5⟩ | ⟨e4, ρ', e5, h5⟩
      · exact .inl ⟨a, ρ', by rw [List.find?_cons, e2]; exact e4, (forL_cons e1 e3).trans e5⟩
      · exact .inr ⟨by rw [List.find?_cons, e2]; exact e4, ρ', (forL_cons e1 e3).trans e5, h5⟩
theorem foldl_app {α β : Type} (f : α → List β) : ∀ (l : List α) (b : List β), l.foldl (fun b a => b ++ f a) b = b ++ l.flatMap f
  | [], b => by simp
  | a :: r, b => by simp [foldl_app f r]
end
/-- what comes is frozen at once -/
theorem ln_of_fz {K : PySem.W.Frag} {W : WX} {f : FN} {σ : L2.St} {H : Hp} {Q : VK} (h : LE K W (fz f) σ H Q) : LN K W f σ H Q := by
  obtain ⟨F, ρ, r, q⟩ := h
  refine ⟨F, ρ, r, ?_⟩
  have q := Post.bind q
  cases e : f ρ with
  | no => rw [e] at q; exact q
  | er x ρ' => rw [e] at q; exact q
  | ok x =>
    rw [e] at q
    obtain ⟨s, ρ'⟩ := x
    intro F' H' A v rn n
    obtain ⟨F'', A', rp, sm⟩ := A.freeze rn n
    exact q F'' H' A' F'' H' (Aft.refl A'.rel) v rp
section
variable {X : Cx} {K : PySem.W.Frag} {W : WX} {tg iter elt e : Expr} {es ifs : List Expr} {pos : Pos} {fi : FI} {g : FG} {ft : FT} {fe : FE} {own : List (Str × Nat)} {scope : Scope}
theorem ds_setLcF {i : Nat} {y : Str} {py spos : Pos} (hc : X.calm = true) (hN : X.N.Nodup) (hy : X.N[i]? = some y) (hyl : X.env.scope.names.lookup y = some .local)
    (hsw : swapsWith (.ListComp elt [⟨tg, iter, ifs, 0⟩] scope pos) (some (.Name y py)) spos.line X.env = pure true) (hi : DI X K W tg iter fi) (ok : BlkOk X.N X.env.scope scope own)
    (hg : ∀ (s : Shared) (H : Hp) (C : Addr) (cl : List (Str × Addr)) (fp : List Addr), DG (X.blk s H scope (compEnvC scope cl C X.env) fp) K (own.map (·.2)) tg g) (ht : ∀ (s : Shared) (H : Hp) (C : Addr) (cl : List (Str × Addr)) (fp : List Addr), DTs (X.blk s H scope (compEnvC scope cl C X.env) fp) K W0 ifs ft)
    (he : ∀ (s : Shared) (H : Hp) (C : Addr) (cl : List (Str × Addr)) (fp : List Addr), DE (X.blk s H scope (compEnvC scope cl C X.env) fp) K W0 elt fe) (hs : ∀ x, foldedSetIterable iter X.env x = pure x := by intro _; rfl) :
    DS X K W (.Assign [.Name y py] (.ListComp elt [⟨tg, iter, ifs, 0⟩] scope pos) spos) (sSet i (fz (dLc fi g ft fe (own.map (·.2))))) :=
  ⟨(ps_setLc hc hN hy hyl hsw hi.pi ok (fun s H C cl fp => (hg s H C cl fp).pg) (fun s H C cl fp => (ht s H C cl fp).pt) (fun s H C cl fp => (he s H C cl fp).pe) hs).weak fun _ _ _ h => ln_lc (ln_of_fz (ls_set h))⟩
end
/-! equality of texts and lists, stretches -/
theorem gNe_strS (x : Str) (h : PyData.strOk x = true) : gNe (.str x) (.str x) = some (.d (.bl false)) := by
  simp [gNe, plainD, h, eqD, toP, PyData.eqv]
theorem gEq_strS (x : Str) (h : PyData.strOk x = true) : gEq (.str x) (.str x) = some (.d (.bl true)) := by
  simp [gEq, plainD, h, eqD, toP, PyData.eqv]
theorem gEq_lnil' (ns : List Int) : gEq (lI ns) (.lst []) = some (.d (.bl (decide (ns = [])))) := gEq_lI ns []
theorem fitL_filter (bs : List Bar) (b : Int) : ∀ n : Nat, ((List.range n).filter fun i : Nat => fitsB bs (b + (i : Nat))).map (fun i : Nat => b + (i : Nat)) = fitL bs b n
  | 0 => rfl
  | n + 1 => by
    rw [List.range_succ, List.filter_append, List.map_append, fitL_filter bs b n, fitL]
    by_cases h : fitsB bs (b + (n : Nat)) = true <;> simp [h]
theorem near_len {bs : List Bar} (hw : 0 < wholeOf bs) (b : Int) : (fitL bs b (wholeOf bs).toNat).length = (ownOf bs).length := by
  have h1 := below_count hw b (wholeOf bs).toNat
  have h2 := below_whole hw b 1
  have e : b + (((wholeOf bs).toNat : Nat) : Int) = b + 1 * wholeOf bs := by omega
  rw [e, h2] at h1
  omega
theorem gSl_lto (xs : List D) (k : Nat) : gSl (.lst xs) none (some (k : Int)) = some (.o (oL (xs.take k))) := by
  show some (S.o (oL (cutL xs none (some (k : Int))))) = _
  rw [cutL_to]
theorem gSl_lfrom (xs : List D) (k : Nat) : gSl (.lst xs) (some (k : Int)) none = some (.o (oL (xs.drop k))) := by
  show some (S.o (oL (cutL xs (some (k : Int)) none))) = _
  rw [cutL_from]
theorem gSl_tto (xs : List D) (k : Nat) : gSl (.tup xs) none (some (k : Int)) = some (.d (.tup (xs.take k))) := by
  show some (S.d (D.tup (cutL xs none (some (k : Int))))) = _
  rw [cutL_to]
theorem gSl_tfrom (xs : List D) (k : Nat) : gSl (.tup xs) (some (k : Int)) none = some (.d (.tup (xs.drop k))) := by
  show some (S.d (D.tup (cutL xs (some (k : Int)) none))) = _
  rw [cutL_from]
theorem flatMap_le {α β : Type} {f : α → List β} {k : Nat} : ∀ {l : List α}, (∀ x ∈ l, (f x).length ≤ k) → (l.flatMap f).length ≤ k * l.length
  | [], _ => by simp
  | a :: r, h => by
    have h1 := h a (by simp)
    have h2 := flatMap_le (l := r) (k := k) fun x hx => h x (by simp [hx])
    rw [List.flatMap_cons, List.length_append, List.length_cons, Nat.mul_succ]
    omega
theorem flatMap_take {α β : Type} {f : α → List β} {l : List α} {i : Nat} {a : α} (h : l[i]? = some a) : (l.take (i + 1)).flatMap f = (l.take i).flatMap f ++ f a := by
  rw [take_succ_of h, List.flatMap_append]
  simp
theorem map_get {α : Type} {enc : α → D} {l : List α} {i : Nat} {x : D} (h : (l.map enc)[i]? = some x) : ∃ a, l[i]? = some a ∧ x = enc a := by
  rw [List.getElem?_map] at h
  cases e : l[i]? with
  | none => rw [e] at h; cases h
  | some a => rw [e] at h; exact ⟨a, rfl, (Option.some.inj h).symm⟩
theorem uExt_l {xs ys : List D} (h : xs.length + ys.length ≤ sizeLine) : uExt xs [.lst ys] = some (xs ++ ys) := if_pos h
theorem uApp_1 {xs : List D} {d : D} (h : xs.length < sizeLine) : uApp xs [d] = some (xs ++ [d]) := if_pos h
theorem asID_int (i : Int) : asID (.int i) = i := rfl
theorem gNe_pl {d e : D} (h1 : plainD 60 d = true) (h2 : plainD 60 e = true) : gNe d e = some (.d (.bl (!eqD d e))) := by unfold gNe; rw [if_pos ⟨h1, h2⟩]
theorem gEq_pl {d e : D} (h1 : plainD 60 d = true) (h2 : plainD 60 e = true) : gEq d e = some (.d (.bl (eqD d e))) := by unfold gEq; rw [if_pos ⟨h1, h2⟩]
/-! equality, thing by thing -/
structure EqE {α : Type} [DecidableEq α] (n : Nat) (enc : α → D) : Prop where
  pl : ∀ x, plainD n (enc x) = true
  eq : ∀ x y, eqD (enc x) (enc y) = decide (x = y)
section
variable {α β : Type} [DecidableEq α] [DecidableEq β] {n : Nat} {enc : α → D} {enb : β → D}
theorem eqvAll_map (h : ∀ x y, eqD (enc x) (enc y) = decide (x = y)) : ∀ xs ys : List α, PyData.eqvAll (toPs (xs.map enc)) (toPs (ys.map enc)) = decide (xs = ys)
  | [], [] => by simp [toPs, PyData.eqvAll]
  | [], _ :: _ => by simp [toPs, PyData.eqvAll]
  | _ :: _, [] => by simp [toPs, PyData.eqvAll]
  | a :: r, b :: q => by
    have h0 : PyData.eqv (toP (enc a)) (toP (enc b)) = decide (a = b) := h a b
    simp only [List.map_cons, toPs, PyData.eqvAll, eqvAll_map h r q, h0]
    by_cases h1 : a = b <;> by_cases h2 : r = q <;> simp [h1, h2]
theorem EqE.tup (h : EqE n enc) : EqE (n + 1) (fun xs : List α => .tup (xs.map enc)) := by
  refine ⟨fun xs => ?_, fun xs ys => ?_⟩
  · simp only [plainD, List.all_map, List.all_eq_true]
    exact fun x _ => h.pl x
  · simp only [eqD, toP, PyData.eqv]
    exact eqvAll_map h.eq xs ys
theorem EqE.lst (h : EqE n enc) : EqE (n + 1) (fun xs : List α => .lst (xs.map enc)) := by
  refine ⟨fun xs => ?_, fun xs ys => ?_⟩
  · simp only [plainD, List.all_map, List.all_eq_true]
    exact fun x _ => h.pl x
  · simp only [eqD, toP, PyData.eqv]
    exact eqvAll_map h.eq xs ys
theorem EqE.pair (h : EqE n enc) (h2 : EqE n enb) : EqE (n + 1) (fun p : α × β => .tup [enc p.1, enb p.2]) := by
  refine ⟨fun p => ?_, fun p q => ?_⟩
  · simp [plainD, h.pl, h2.pl]
  · have e1 : PyData.eqv (toP (enc p.1)) (toP (enc q.1)) = decide (p.1 = q.1) := h.eq _ _
    have e2 : PyData.eqv (toP (enb p.2)) (toP (enb q.2)) = decide (p.2 = q.2) := h2.eq _ _
    obtain ⟨p1, p2⟩ := p
    obtain ⟨q1, q2⟩ := q
    simp only [eqD, toP, toPs, PyData.eqv, PyData.eqvAll] at e1 e2 ⊢
    rw [e1, e2]
    by_cases h1 : p1 = q1 <;> by_cases h2 : p2 = q2 <;> simp [h1, h2]
theorem EqE.int : EqE n D.int := ⟨fun _ => by cases n <;> rfl, fun x y => rfl⟩
theorem plainD_mono : ∀ {n m : Nat} {d : D}, n ≤ m → plainD n d = true → plainD m d = true
  | 0, 0, _, _, h => h
  | 0, m + 1, d, _, h => by cases d <;> first | rfl | exact h | simp [plainD] at h
  | n + 1, 0, _, hm, _ => by omega
  | n + 1, m + 1, d, hm, h => by
    cases d <;> first | exact h | skip
    · simp only [plainD, List.all_eq_true] at h ⊢
      exact fun x hx => plainD_mono (by omega) (h x hx)
    · simp only [plainD, List.all_eq_true] at h ⊢
      exact fun x hx => plainD_mono (by omega) (h x hx)
theorem EqE.mono {m : Nat} (h : EqE n enc) (hm : n ≤ m) : EqE m enc := ⟨fun x => plainD_mono hm (h.pl x), h.eq⟩
theorem EqE.gEq (h : EqE n enc) (x y : α) (hn : n ≤ 60 := by decide) : gEq (enc x) (enc y) = some (.d (.bl (decide (x = y)))) := by
  rw [gEq_pl (plainD_mono hn (h.pl x)) (plainD_mono hn (h.pl y)), h.eq]
theorem EqE.gNe (h : EqE n enc) (x y : α) (hn : n ≤ 60 := by decide) : gNe (enc x) (enc y) = some (.d (.bl (decide (x ≠ y)))) := by
  rw [gNe_pl (plainD_mono hn (h.pl x)) (plainD_mono hn (h.pl y)), h.eq]
  by_cases e : x = y <;> simp [e]
theorem EqE.gNeS (h : EqE n enc) (x : α) (hn : n ≤ 60 := by decide) : RL.gNe (enc x) (enc x) = some (.d (.bl false)) := by rw [h.gNe x x hn]; simp
theorem EqE.gEqS (h : EqE n enc) (x : α) (hn : n ≤ 60 := by decide) : RL.gEq (enc x) (enc x) = some (.d (.bl true)) := by rw [h.gEq x x hn]; simp
end
theorem eqBar : EqE 2 barD := (EqE.int (n := 1)).pair (EqE.int (n := 0)).tup
theorem eqBars : EqE 3 barsD := eqBar.tup
theorem gNe_barsnil (bs : List Bar) : gNe (barsD bs) (.tup []) = some (.d (.bl (decide (bs ≠ [])))) := eqBars.gNe bs []
theorem gEq_barsnil (bs : List Bar) : gEq (barsD bs) (.tup []) = some (.d (.bl (decide (bs = [])))) := eqBars.gEq bs []
theorem gMul_rep {xs : List D} {k : Nat} (h : xs.length * k ≤ sizeLine) (hk : k < 2 ^ 62) : gMul (.lst xs) (.int (k : Nat)) = some (.o (oL (List.replicate k xs).flatten)) := by
  show orE (gI cMul (fun i j => .int (i * j)) (.lst xs) (.int (k : Nat))) (gRep (.lst xs) (.int (k : Nat))) = _
  have : gRep (.lst xs) (.int (k : Nat)) = some (.o (oL (List.replicate k xs).flatten)) := if_pos ⟨by omega, by omega, h⟩
  rw [this]
  rfl
theorem wp_join {f g : FS} {ρ : Sl} {Q : Flow → Prop} {P : Sl → Prop} (h : wpS (f ρ) (nxQ P)) (k : ∀ ρ1, P ρ1 → wpS (g ρ1) Q) : wpS (sSeq f g ρ) Q := by
  obtain ⟨_, e, ρ1, rfl, hp⟩ := h
  exact wp_seq e (k ρ1 hp)
end RL

namespace RL
open PySem PySem.Spec PyProof.Rows L2
/-! the least number from 0 on, below W, of which p holds -/
def leastP (W : Int) (p : Int → Bool) : Option Int := ((List.range W.toNat).map Int.ofNat).find? p
theorem leastP_eq {W n : Int} {p : Int → Bool} (h0 : 0 ≤ n) (hW : n < W) (hp : p n = true) (hl : ∀ m, 0 ≤ m → m < n → p m = false) : leastP W p = some n := by
  obtain ⟨k, rfl⟩ : ∃ k : Nat, n = k := ⟨n.toNat, by omega⟩
  unfold leastP
  rw [List.find?_map]
  have : List.find? (p ∘ Int.ofNat) (List.range W.toNat) = some k := by
    rw [List.find?_range_eq_some]
    refine ⟨hp, by simp; omega, fun j hj => ?_⟩
    have := hl (j : Nat) (by omega) (by omega)
    simpa using this
  rw [this]
  rfl
theorem leastP_some {W n : Int} {p : Int → Bool} (h : leastP W p = some n) : 0 ≤ n ∧ n < W ∧ p n = true ∧ ∀ m, 0 ≤ m → m < n → p m = false := by
  unfold leastP at h
  rw [List.find?_map] at h
  cases e : List.find? (p ∘ Int.ofNat) (List.range W.toNat) with
  | none => rw [e] at h; cases h
  | some k =>
    rw [e] at h
    obtain rfl : ((k : Nat) : Int) = n := by simpa using h
    rw [List.find?_range_eq_some] at e
    obtain ⟨e1, e2, e3⟩ := e
    have e2 := List.mem_range.mp e2
    refine ⟨by omega, by omega, e1, fun m h0 h1 => ?_⟩
    have := e3 m.toNat (by omega)
    have hm : Int.ofNat m.toNat = m := by simp; omega
    simp only [Function.comp, hm] at this
    simpa using this
theorem leastP_none {W : Int} {p : Int → Bool} (h : leastP W p = none) : ∀ m, 0 ≤ m → m < W → p m = false := by
  intro m h0 h1
  unfold leastP at h
  rw [List.find?_eq_none] at h
  have := h m (List.mem_map.mpr ⟨m.toNat, List.mem_range.mpr (by omega), by simp; omega⟩)
  simpa using this
theorem leastP_no {W : Int} {p : Int → Bool} (h : ∀ m, 0 ≤ m → m < W → p m = false) : leastP W p = none := by
  cases e : leastP W p with
  | none => rfl
  | some n =>
    obtain ⟨h1, h2, h3, _⟩ := leastP_some e
    rw [h n h1 h2] at h3
    cases h3
def optD : Option Int → D
  | none => .non
  | some i => .int i
/-! sieves side by side -/
theorem dvd_app_l (a b : List Bar) (h : 0 ≤ wholeOf (a ++ b)) : wholeOf a ∣ wholeOf (a ++ b) := by
  have := whole_dvd (n := (wholeOf (a ++ b)).toNat) (bs := a) fun x hx => by
    rw [Int.toNat_of_nonneg h]
    exact dvd_whole (List.mem_append_left b hx)
  rwa [Int.toNat_of_nonneg h] at this
theorem dvd_app_r (a b : List Bar) (h : 0 ≤ wholeOf (a ++ b)) : wholeOf b ∣ wholeOf (a ++ b) := by
  have := whole_dvd (n := (wholeOf (a ++ b)).toNat) (bs := b) fun x hx => by
    rw [Int.toNat_of_nonneg h]
    exact dvd_whole (List.mem_append_right a hx)
  rwa [Int.toNat_of_nonneg h] at this
theorem whole_pos : ∀ {bs : List Bar}, (∀ b ∈ bs, BarOk b) → 0 < wholeOf bs := by
  intro bs h
  exact (wholeOf_bd bs.length bs rfl fun b hb => ⟨(h b hb).m0, (h b hb).m1⟩).1
def outB (a b : List Bar) (n : Int) : Bool := fitsB a n && !fitsB b n
def firstOut (a b : List Bar) : Option Int := leastP (wholeOf (a ++ b)) (outB a b)
theorem app_ok {a b : List Bar} (ha : ∀ x ∈ a, BarOk x) (hb : ∀ x ∈ b, BarOk x) : ∀ x ∈ a ++ b, BarOk x := fun x hx => (List.mem_append.mp hx).elim (ha x) (hb x)
theorem outB_mod {a b : List Bar} {n k : Int} (h0 : 0 ≤ wholeOf (a ++ b)) (h : wholeOf (a ++ b) ∣ n - k) : outB a b n = outB a b k := by
  unfold outB
  rw [fits_mod (Int.dvd_trans (dvd_app_l a b h0) h), fits_mod (Int.dvd_trans (dvd_app_r a b h0) h)]
theorem firstOut_none {a b : List Bar} (hW : 0 < wholeOf (a ++ b)) : firstOut a b = none ↔ ∀ n, outB a b n = false := by
  constructor
  · intro h n
    have := leastP_none h (n % wholeOf (a ++ b)) (Int.emod_nonneg _ (by omega)) (Int.emod_lt_of_pos _ hW)
    rw [outB_mod (by omega) (dvd_sub_emod n (wholeOf (a ++ b)))]
    exact this
  · intro h
    exact leastP_no fun m _ _ => h m
theorem firstOut_eq {a b : List Bar} (hW : 0 < wholeOf (a ++ b)) {n : Int} (h0 : 0 ≤ n) (hp : outB a b n = true) (hl : ∀ m, 0 ≤ m → outB a b m = true → n ≤ m) : firstOut a b = some n := by
  refine leastP_eq h0 ?_ hp fun m h1 h2 => ?_
  · have h3 := hl (n % wholeOf (a ++ b)) (Int.emod_nonneg _ (by omega)) (by rw [← outB_mod (by omega) (dvd_sub_emod n (wholeOf (a ++ b)))]; exact hp)
    have := Int.emod_lt_of_pos n hW
    omega
  · cases e : outB a b m with
    | false => rfl
    | true => have := hl m h1 e; omega
/-! the numbers of a class, by a bar -/
def partN (W m : Int) : Int := m / ((Int.gcd W m : Nat) : Int)
theorem lcm_part {W m : Int} (hW : 0 < W) (hm : 0 < m) : ((Int.lcm W m : Nat) : Int) = W * partN W m := by
  rw [← lcm_eq hW hm]
  unfold partN
  obtain ⟨w', hw'⟩ := Int.gcd_dvd_left W m
  obtain ⟨m', hm'⟩ := Int.gcd_dvd_right W m
  have hg : 0 < ((Int.gcd W m : Nat) : Int) := gcd_pos_of hW
  generalize ((Int.gcd W m : Nat) : Int) = g at hw' hm' hg
  rw [show W / g = w' by rw [hw', Int.mul_ediv_cancel_left _ (by omega)], show m / g = m' by rw [hm', Int.mul_ediv_cancel_left _ (by omega)], hw', hm', ← Int.mul_assoc, Int.mul_comm w' g]
theorem partN_pos {W m : Int} (hW : 0 < W) (hm : 0 < m) : 0 < partN W m := part_pos hW hm
theorem partN_le {W m : Int} (hm : 0 < m) : partN W m ≤ m := part_le hm
/-- t and u tell the same rest just where they agree by the part -/
theorem part_iff {W m d : Int} (hW : 0 < W) (hm : 0 < m) : m ∣ W * d ↔ partN W m ∣ d := by
  have hl := lcm_part hW hm
  constructor
  · intro h
    have h1 : ((Int.lcm W m : Nat) : Int) ∣ W * d := by
      have := Int.lcm_dvd (c := (W * d).natAbs) (a := W) (b := m) (by rw [Int.dvd_natAbs]; exact ⟨d, rfl⟩) (by rw [Int.dvd_natAbs]; exact h)
      rw [← Int.dvd_natAbs]
      exact Int.ofNat_dvd.mpr this
    rw [hl] at h1
    exact Int.dvd_of_mul_dvd_mul_left (by omega) h1
  · rintro ⟨k, rfl⟩
    have h1 : m ∣ W * partN W m := by rw [← hl]; exact Int.dvd_lcm_right W m
    rw [← Int.mul_assoc]
    exact Int.dvd_trans h1 ⟨k, rfl⟩
def restsL (W m c : Int) (n : Nat) : List Int := (List.range n).map fun t : Nat => (c + W * (t : Nat)) % m
theorem restsL_nodup {W m c : Int} (hW : 0 < W) (hm : 0 < m) {n : Nat} (hn : (n : Int) ≤ partN W m) : (restsL W m c n).Nodup := by
  unfold restsL
  rw [List.nodup_iff_pairwise_ne, List.pairwise_map]
  refine List.Pairwise.imp_of_mem ?_ (List.pairwise_lt_range (n := n))
  intro t u ht hu htu e
  have ht := List.mem_range.mp ht
  have hu := List.mem_range.mp hu
  have h1 : m ∣ W * ((u : Nat) - (t : Nat) : Int) := by
    have := Int.emod_eq_emod_iff_emod_sub_eq_zero.mp e.symm
    have := Int.dvd_of_emod_eq_zero this
    have e2 : c + W * (u : Nat) - (c + W * (t : Nat)) = W * ((u : Nat) - (t : Nat) : Int) := by rw [Int.mul_sub]; omega
    rwa [e2] at this
  have h2 := (part_iff hW hm).mp h1
  have := Int.le_of_dvd (by omega) h2
  omega
theorem rest_per {W m : Int} (c t : Int) (hW : 0 < W) (hm : 0 < m) : (c + W * (t % partN W m)) % m = (c + W * t) % m := by
  have h1 : m ∣ W * (t - t % partN W m) := (part_iff hW hm).mpr (dvd_sub_emod _ _)
  refine (emod_of_dvd_sub ?_).symm
  have : c + W * t - (c + W * (t % partN W m)) = W * (t - t % partN W m) := by rw [Int.mul_sub]; omega
  rw [this]
  exact h1
theorem rest_mem {W m : Int} (c : Int) {t : Int} (hW : 0 < W) (hm : 0 < m) : (c + W * t) % m ∈ restsL W m c (partN W m).toNat := by
  have hp := partN_pos hW hm
  have h0 := Int.emod_nonneg t (Int.ne_of_gt hp)
  have h1 := Int.emod_lt_of_pos t hp
  refine List.mem_map.mpr ⟨(t % partN W m).toNat, List.mem_range.mpr (by omega), ?_⟩
  rw [Int.toNat_of_nonneg h0]
  exact rest_per c t hW hm
theorem out_in {W m c : Int} {lot : List Int} (hW : 0 < W) (hm : 0 < m) {t : Nat} (ht : (c + W * (t : Nat)) % m ∉ lot) : ∃ u : Nat, (u : Int) < partN W m ∧ u ≤ lot.length ∧ (c + W * (u : Nat)) % m ∉ lot := by
  have hp := partN_pos hW hm
  by_cases hx : partN W m ≤ lot.length + 1
  · refine ⟨((t : Int) % partN W m).toNat, ?_, ?_, ?_⟩
    · have := Int.emod_lt_of_pos (t : Int) hp
      have := Int.emod_nonneg (t : Int) (Int.ne_of_gt hp)
      omega
    · have := Int.emod_lt_of_pos (t : Int) hp
      omega
    · rw [Int.toNat_of_nonneg (Int.emod_nonneg _ (Int.ne_of_gt hp)), rest_per c _ hW hm]
      exact ht
  · have h1 := restsL_nodup (c := c) hW hm (n := lot.length + 1) (by omega)
    by_cases hs : restsL W m c (lot.length + 1) ⊆ lot
    · have := List.Nodup.length_le_of_subset h1 hs
      simp [restsL] at this
      omega
    · obtain ⟨x, hx1, hx2⟩ : ∃ x, x ∈ restsL W m c (lot.length + 1) ∧ x ∉ lot := by
        by_cases hh : ∃ x, x ∈ restsL W m c (lot.length + 1) ∧ x ∉ lot
        · exact hh
        · refine absurd (fun x hx => ?_) hs
          by_cases hl : x ∈ lot
          · exact hl
          · exact absurd ⟨x, hx, hl⟩ hh
      obtain ⟨u, hu, rfl⟩ := List.mem_map.mp hx1
      have hu := List.mem_range.mp hu
      exact ⟨u, by omega, by omega, hx2⟩
/-- what first_out looks at, of one class and one bar -/
def outF (W : Int) (b : Bar) (c : Int) : List Int := (((List.range (min (partN W b.1) ((b.2.length : Int) + 1)).toNat).map fun t : Nat => c + W * (t : Nat)).filter fun x => !decide (x % b.1 ∈ b.2)).take 1
def foundO (W : Int) (own : List Int) (bs : List Bar) : List Int := own.flatMap fun c => bs.flatMap fun b => outF W b c
theorem outF_mem {W c x : Int} {b : Bar} (h : x ∈ outF W b c) : ∃ t : Nat, x = c + W * (t : Nat) ∧ x % b.1 ∉ b.2 := by
  have h := List.mem_of_mem_take h
  obtain ⟨h1, h2⟩ := List.mem_filter.mp h
  obtain ⟨t, _, rfl⟩ := List.mem_map.mp h1
  exact ⟨t, rfl, by simpa using h2⟩
theorem head_le {l : List Int} (hp : l.Pairwise (· < ·)) {x : Int} (h : x ∈ l) : ∃ y ∈ l.take 1, y ≤ x := by
  cases l with
  | nil => cases h
  | cons a r =>
    refine ⟨a, by simp, ?_⟩
    rcases List.mem_cons.mp h with rfl | h
    · omega
    · have := (List.pairwise_cons.mp hp).1 x h
      omega
theorem outF_least {W c : Int} {b : Bar} (hW : 0 < W) (hm : 0 < b.1) {t : Nat} (ht : (c + W * (t : Nat)) % b.1 ∉ b.2) : ∃ x ∈ outF W b c, x ≤ c + W * (t : Nat) := by
  obtain ⟨u, hu1, hu2, hu3⟩ := out_in hW hm ht
  have asc : (((List.range (min (partN W b.1) ((b.2.length : Int) + 1)).toNat).map fun t : Nat => c + W * (t : Nat)).filter fun x => !decide (x % b.1 ∈ b.2)).Pairwise (· < ·) := by
    refine List.Pairwise.sublist List.filter_sublist ?_
    rw [List.pairwise_map]
    refine (List.pairwise_lt_range (n := (min (partN W b.1) ((b.2.length : Int) + 1)).toNat)).imp ?_
    intro i j hij
    have := Int.mul_lt_mul_of_pos_left (show (i : Int) < (j : Int) by omega) hW
    omega
  have mem : ∀ v : Nat, (v : Int) < partN W b.1 → v ≤ b.2.length → (c + W * (v : Nat)) % b.1 ∉ b.2 → ∃ x ∈ outF W b c, x ≤ c + W * (v : Nat) := fun v h1 h2 h3 =>
    head_le asc (List.mem_filter.mpr ⟨List.mem_map.mpr ⟨v, List.mem_range.mpr (by omega), rfl⟩, by simpa using h3⟩)
  by_cases hx : (t : Int) < partN W b.1 ∧ t ≤ b.2.length
  · exact mem t hx.1 hx.2 ht
  · obtain ⟨x, h1, h2⟩ := mem u hu1 hu2 hu3
    refine ⟨x, h1, Int.le_trans h2 ?_⟩
    have hut : (u : Int) ≤ (t : Int) := by omega
    have := Int.mul_le_mul_of_nonneg_left hut (show (0 : Int) ≤ W by omega)
    omega
theorem foundO_mem {a b : List Bar} (ha : ∀ x ∈ a, BarOk x) {x : Int} (h : x ∈ foundO (wholeOf a) (ownOf a) b) : 0 ≤ x ∧ outB a b x = true := by
  have hW := whole_pos ha
  obtain ⟨c, hc, h⟩ := List.mem_flatMap.mp h
  obtain ⟨bar, hb, h⟩ := List.mem_flatMap.mp h
  obtain ⟨t, rfl, hx⟩ := outF_mem h
  obtain ⟨c0, c1, c2⟩ := mem_own.mp hc
  have ht : 0 ≤ wholeOf a * (t : Nat) := Int.mul_nonneg (by omega) (by omega)
  refine ⟨by omega, ?_⟩
  unfold outB
  rw [fits_mod (n := c + wholeOf a * (t : Nat)) (k := c) ⟨(t : Nat), by omega⟩, c2]
  cases e : fitsB b (c + wholeOf a * (t : Nat)) with
  | false => rfl
  | true => exact absurd (fits_iff.mp e bar hb) hx
theorem foundO_least {a b : List Bar} (ha : ∀ x ∈ a, BarOk x) (hb : ∀ x ∈ b, BarOk x) {n : Int} (h0 : 0 ≤ n) (h : outB a b n = true) : ∃ x ∈ foundO (wholeOf a) (ownOf a) b, x ≤ n := by
  have hW := whole_pos ha
  unfold outB at h
  rw [Bool.and_eq_true] at h
  obtain ⟨h1, h2⟩ := h
  have hn : ¬ ∀ x ∈ b, n % x.1 ∈ x.2 := fun z => by rw [fits_iff.mpr z] at h2; cases h2
  obtain ⟨bar, hbar, hx⟩ : ∃ bar ∈ b, n % bar.1 ∉ bar.2 := by
    by_cases hh : ∃ bar ∈ b, n % bar.1 ∉ bar.2
    · exact hh
    · refine absurd (fun x hx => ?_) hn
      by_cases hl : n % x.1 ∈ x.2
      · exact hl
      · exact absurd ⟨x, hx, hl⟩ hh
  have hq : 0 ≤ n / wholeOf a := Int.ediv_nonneg h0 (by omega)
  have e : n % wholeOf a + wholeOf a * ((n / wholeOf a).toNat : Nat) = n := by
    rw [Int.toNat_of_nonneg hq]
    exact Int.emod_add_mul_ediv n (wholeOf a)
  obtain ⟨x, hx1, hx2⟩ := outF_least (W := wholeOf a) (c := n % wholeOf a) (b := bar) (t := (n / wholeOf a).toNat) hW (hb bar hbar).m0 (by rw [e]; exact hx)
  rw [e] at hx2
  refine ⟨x, List.mem_flatMap.mpr ⟨n % wholeOf a, ?_, List.mem_flatMap.mpr ⟨bar, hbar, hx1⟩⟩, hx2⟩
  exact (mem_own_iff hW).mpr h1
theorem foundO_min {a b : List Bar} (ha : ∀ x ∈ a, BarOk x) (hb : ∀ x ∈ b, BarOk x) : firstOut a b = if foundO (wholeOf a) (ownOf a) b = [] then none else some (minI (foundO (wholeOf a) (ownOf a) b)) := by
  have hW := whole_pos (app_ok ha hb)
  split
  · rename_i h
    rw [firstOut_none hW]
    intro n
    rw [← outB_mod (by omega) (n := n % wholeOf (a ++ b)) (k := n) (by
      have := dvd_sub_emod n (wholeOf (a ++ b))
      have e : n % wholeOf (a ++ b) - n = -(n - n % wholeOf (a ++ b)) := by omega
      rw [e]
      exact (Int.dvd_neg).mpr this)]
    cases e : outB a b (n % wholeOf (a ++ b)) with
    | false => rfl
    | true =>
      obtain ⟨x, hx, _⟩ := foundO_least ha hb (Int.emod_nonneg n (by omega)) e
      rw [h] at hx
      cases hx
  · rename_i h
    obtain ⟨m1, m2⟩ := minI_ok (ns := foundO (wholeOf a) (ownOf a) b) (List.length_pos_iff.mpr h)
    obtain ⟨k1, k2⟩ := foundO_mem ha m1
    refine firstOut_eq hW k1 k2 fun m h1 h2 => ?_
    obtain ⟨x, hx1, hx2⟩ := foundO_least ha hb h1 h2
    have := m2 x hx1
    omega
/-! whether each number of one fits other -/
def hitN (W : Int) (b : Bar) (c : Int) : Nat := (b.2.filter fun r => decide ((r - c) % ((Int.gcd W b.1 : Nat) : Int) = 0)).length
theorem hit_iff {W c : Int} {b : Bar} (h0 : 0 ≤ c) (h1 : c < W) (hb : BarOk b) : ((hitN W b c : Nat) : Int) < partN W b.1 ↔ ∃ t : Nat, (c + W * (t : Nat)) % b.1 ∉ b.2 := by
  have hW : 0 < W := by omega
  have hm := hb.m0
  have hp := partN_pos hW hm
  have hg : 0 < ((Int.gcd W b.1 : Nat) : Int) := gcd_pos_of hW
  obtain ⟨w', hw'⟩ := Int.gcd_dvd_left W b.1
  obtain ⟨m', hm'⟩ := Int.gcd_dvd_right W b.1
  have gr : ∀ t : Nat, ((c + W * (t : Nat)) % b.1 - c) % ((Int.gcd W b.1 : Nat) : Int) = 0 := fun t => by
    refine Int.emod_eq_zero_of_dvd ?_
    have h1 : ((Int.gcd W b.1 : Nat) : Int) ∣ c + W * (t : Nat) - (c + W * (t : Nat)) % b.1 := Int.dvd_trans (Int.gcd_dvd_right W b.1) (dvd_sub_emod _ _)
    have h2 : ((Int.gcd W b.1 : Nat) : Int) ∣ W * (t : Nat) := Int.dvd_trans (Int.gcd_dvd_left W b.1) ⟨_, rfl⟩
    have := Int.dvd_sub h2 h1
    have e : W * (t : Nat) - (c + W * (t : Nat) - (c + W * (t : Nat)) % b.1) = (c + W * (t : Nat)) % b.1 - c := by omega
    rwa [e] at this
  constructor
  · intro h
    refine Classical.byContradiction fun hn => ?_
    have all : ∀ t : Nat, (c + W * (t : Nat)) % b.1 ∈ b.2 := fun t => Classical.byContradiction fun z => hn ⟨t, z⟩
    have h1 := restsL_nodup (c := c) hW hm (n := (partN W b.1).toNat) (by omega)
    have h2 : restsL W b.1 c (partN W b.1).toNat ⊆ b.2.filter fun r => decide ((r - c) % ((Int.gcd W b.1 : Nat) : Int) = 0) := fun x hx => by
      obtain ⟨t, _, rfl⟩ := List.mem_map.mp hx
      exact List.mem_filter.mpr ⟨all t, by simpa using gr t⟩
    have := List.Nodup.length_le_of_subset h1 h2
    have e : (restsL W b.1 c (partN W b.1).toNat).length = (partN W b.1).toNat := by simp [restsL]
    unfold hitN at h
    omega
  · rintro ⟨t, ht⟩
    -- all rests that agree with c by the common measure
    have nd : (b.2.filter fun r => decide ((r - c) % ((Int.gcd W b.1 : Nat) : Int) = 0)).Nodup := List.Nodup.sublist List.filter_sublist (asc_nodup hb.asc)
    have sub : b.2.filter (fun r => decide ((r - c) % ((Int.gcd W b.1 : Nat) : Int) = 0)) ⊆ (restsL W b.1 c (partN W b.1).toNat).erase ((c + W * (t : Nat)) % b.1) := fun x hx => by
      obtain ⟨h1, h2⟩ := List.mem_filter.mp hx
      have h2 : (x - c) % ((Int.gcd W b.1 : Nat) : Int) = 0 := by simpa using h2
      have hx0 := hb.rng x h1
      have ne : x ≠ (c + W * (t : Nat)) % b.1 := fun z => ht (z ▸ h1)
      refine (List.mem_erase_of_ne ne).mpr ?_
      have h60 := hb.m1
      obtain ⟨_, _, ⟨k, hk⟩, d2⟩ := crt (c := c) (w := W) (t := x) (m := b.1) h0 ‹c < W› hm (by omega) (Int.dvd_of_emod_eq_zero h2)
      have e : (c + W * k) % b.1 = x := by
        have e1 : c + W * k = jn c W x b.1 := by omega
        rw [e1, emod_of_dvd_sub d2]
        exact Int.emod_eq_of_lt hx0.1 hx0.2
      rw [← e]
      exact rest_mem c hW hm
    have hl := List.Nodup.length_le_of_subset nd sub
    rw [List.length_erase_of_mem (rest_mem c hW hm)] at hl
    have e : (restsL W b.1 c (partN W b.1).toNat).length = (partN W b.1).toNat := by simp [restsL]
    unfold hitN
    omega
/-- the bars of b that some number of class c breaks -/
def brkL (W : Int) (b : List Bar) (c : Int) : List Int := (((List.range b.length).zip b).filter fun p => decide (((hitN W p.2 c : Nat) : Int) < partN W p.2.1)).map fun p => ((p.1 : Nat) : Int)
def hasAll (a b : List Bar) : Bool := (ownOf a).all fun c => decide (brkL (wholeOf a) b c = [])
theorem brkL_nil {W c : Int} {b : List Bar} (h0 : 0 ≤ c) (h1 : c < W) (hb : ∀ x ∈ b, BarOk x) : brkL W b c = [] ↔ ∀ t : Nat, fitsB b (c + W * (t : Nat)) = true := by
  unfold brkL
  rw [List.map_eq_nil_iff, List.filter_eq_nil_iff]
  constructor
  · intro h t
    rw [fits_iff]
    intro x hx
    obtain ⟨i, hi, rfl⟩ := List.getElem_of_mem hx
    have := h (i, b[i]) (List.mem_iff_getElem?.mpr ⟨i, by rw [List.getElem?_zip_eq_some]; exact ⟨by simp [hi], by simp [hi]⟩⟩)
    have : ¬ ((hitN W b[i] c : Nat) : Int) < partN W b[i].1 := by simpa using this
    rw [hit_iff h0 h1 (hb _ hx)] at this
    exact Classical.byContradiction fun z => this ⟨t, z⟩
  · rintro h ⟨i, x⟩ hx
    have hx2 := (List.of_mem_zip hx).2
    have : ¬ ((hitN W x c : Nat) : Int) < partN W x.1 := by
      rw [hit_iff h0 h1 (hb _ hx2)]
      rintro ⟨t, ht⟩
      exact ht (fits_iff.mp (h t) x hx2)
    simpa using this
theorem hasAll_iff {a b : List Bar} (ha : ∀ x ∈ a, BarOk x) (hb : ∀ x ∈ b, BarOk x) : hasAll a b = true ↔ ∀ n, outB a b n = false := by
  have hW := whole_pos ha
  unfold hasAll
  rw [List.all_eq_true]
  constructor
  · intro h n
    unfold outB
    cases e : fitsB a n with
    | false => rfl
    | true =>
      have hW2 := whole_pos (app_ok ha hb)
      have hm := (mem_own_iff hW).mpr e
      obtain ⟨c0, c1, _⟩ := mem_own.mp hm
      have h2 := (brkL_nil c0 c1 hb).mp (of_decide_eq_true (h _ hm))
      -- a number from 0 on that agrees with n
      have hk : wholeOf b ∣ (n % wholeOf a + wholeOf a * (((n / wholeOf a) % wholeOf b).toNat : Nat)) - n := by
        have p := whole_pos hb
        rw [Int.toNat_of_nonneg (Int.emod_nonneg _ (by omega))]
        have e1 := Int.emod_add_mul_ediv n (wholeOf a)
        have e2 : n % wholeOf a + wholeOf a * (n / wholeOf a % wholeOf b) - n = wholeOf a * (n / wholeOf a % wholeOf b - n / wholeOf a) := by rw [Int.mul_sub]; omega
        rw [e2]
        have e3 : n / wholeOf a % wholeOf b - n / wholeOf a = -(n / wholeOf a - n / wholeOf a % wholeOf b) := by omega
        rw [e3]
        exact Int.dvd_trans (Int.dvd_neg.mpr (dvd_sub_emod _ _)) ⟨wholeOf a, by rw [Int.mul_comm]⟩
      rw [← fits_mod hk, h2]
      rfl
  · intro h c hc
    obtain ⟨c0, c1, c2⟩ := mem_own.mp hc
    refine decide_eq_true ((brkL_nil c0 c1 hb).mpr fun t => ?_)
    have := h (c + wholeOf a * (t : Nat))
    unfold outB at this
    rw [fits_mod (n := c + wholeOf a * (t : Nat)) (k := c) ⟨(t : Nat), by omega⟩, c2] at this
    simpa using this
theorem hasAll_out {a b : List Bar} (ha : ∀ x ∈ a, BarOk x) (hb : ∀ x ∈ b, BarOk x) : hasAll a b = decide (firstOut a b = none) := by
  have h1 := hasAll_iff ha hb
  have h2 := firstOut_none (whole_pos (app_ok ha hb))
  by_cases h : firstOut a b = none
  · rw [decide_eq_true h, h1.mpr (h2.mp h)]
  · rw [decide_eq_false h]
    cases e : hasAll a b with
    | false => rfl
    | true => exact absurd (h2.mpr (h1.mp e)) h
/-! few small bars -/
theorem bar_len {b : Bar} (h : BarOk b) : (b.2.length : Int) ≤ b.1 := by
  have h1 := h.m0
  have hs : b.2 ⊆ (List.range b.1.toNat).map Int.ofNat := fun x hx => by
    obtain ⟨x0, x1⟩ := h.rng x hx
    exact List.mem_map.mpr ⟨x.toNat, List.mem_range.mpr (by omega), by simp; omega⟩
  have := List.Nodup.length_le_of_subset (asc_nodup h.asc) hs
  simp at this
  omega
theorem many_top {top : Int} (ht : 1 ≤ top) : ∀ (n : Nat) (bs : List Bar), bs.length = n → (∀ b ∈ bs, BarOk b ∧ b.1 ≤ top) → 1 ≤ manyOf bs ∧ manyOf bs ≤ top ^ n := by
  intro n
  induction n with
  | zero => intro bs h _; rw [List.length_eq_zero_iff.mp h]; exact ⟨by decide, by rw [Int.pow_zero]; exact Int.le_refl _⟩
  | succ n ih =>
    intro bs h hb
    have hne : bs ≠ [] := fun z => by rw [z] at h; cases h
    have e : bs = bs.dropLast ++ [bs.getLast hne] := (List.dropLast_concat_getLast hne).symm
    obtain ⟨h1, h2⟩ := ih bs.dropLast (by rw [List.length_dropLast]; omega) fun b hb' => hb b (List.dropLast_subset _ hb')
    obtain ⟨h3, h4⟩ := hb _ (List.getLast_mem hne)
    have h5 := bar_len h3
    have h6 : 1 ≤ mx1 (bs.getLast hne).2.length ∧ mx1 (bs.getLast hne).2.length ≤ top := by unfold mx1; split <;> omega
    rw [e, manyOf_app, Int.pow_succ]
    refine ⟨?_, Int.mul_le_mul h2 h6.2 (by omega) (by omega)⟩
    have := Int.mul_le_mul h1 h6.1 (by omega) (by omega)
    omega
theorem whole_topM {top : Int} (ht : 1 ≤ top) : ∀ (n : Nat) (bs : List Bar), bs.length = n → (∀ b ∈ bs, 0 < b.1 ∧ b.1 ≤ top) → 0 < wholeOf bs ∧ wholeOf bs ≤ top ^ n := by
  intro n
  induction n with
  | zero => intro bs h _; rw [List.length_eq_zero_iff.mp h]; exact ⟨by decide, by rw [Int.pow_zero]; exact Int.le_refl _⟩
  | succ n ih =>
    intro bs h hb
    have hne : bs ≠ [] := fun z => by rw [z] at h; cases h
    have e : bs = bs.dropLast ++ [bs.getLast hne] := (List.dropLast_concat_getLast hne).symm
    obtain ⟨h1, h2⟩ := ih bs.dropLast (by rw [List.length_dropLast]; omega) fun b hb' => hb b (List.dropLast_subset _ hb')
    obtain ⟨h3, h4⟩ := hb _ (List.getLast_mem hne)
    rw [e, wholeOf_app]
    have h5 := lcm_le_mul h1 h3
    have h6 := lcm_pos' h1 h3
    refine ⟨h6, Int.le_trans h5 ?_⟩
    rw [Int.pow_succ]
    exact Int.mul_le_mul h2 h4 (Int.le_of_lt h3) (Int.le_trans (Int.le_of_lt h1) h2)
theorem pow_mono {t : Int} (ht : 1 ≤ t) {a b : Nat} (h : a ≤ b) : t ^ a ≤ t ^ b := by
  obtain ⟨k, rfl⟩ : ∃ k, b = a + k := ⟨b - a, by omega⟩
  rw [Int.pow_add]
  have h1 : (0 : Int) < t ^ k := Int.pow_pos (by omega)
  have h2 : (0 : Int) ≤ t ^ a := Int.pow_nonneg (by omega)
  have := Int.mul_le_mul_of_nonneg_left (show (1 : Int) ≤ t ^ k by omega) h2
  omega
theorem whole_small {top : Int} {n : Nat} {bs : List Bar} (ht : 1 ≤ top) (hl : bs.length ≤ n) (hb : ∀ b ∈ bs, BarOk b ∧ b.1 ≤ top) : wholeOf bs ≤ top ^ n :=
  Int.le_trans (whole_topM ht bs.length bs rfl fun b h => ⟨(hb b h).1.m0, (hb b h).2⟩).2 (pow_mono ht hl)
theorem bars_small {top : Int} {n : Nat} {bs : List Bar} (ht : 1 ≤ top) (hn : n ≤ 6) (hp : top ^ n ≤ 2000) (hl : bs.length ≤ n) (hb : ∀ b ∈ bs, BarOk b ∧ b.1 ≤ top) : BarsOk bs := by
  refine ⟨by omega, fun b h => (hb b h).1, ?_, ?_⟩
  · have := whole_small ht hl hb
    omega
  · exact Int.le_trans (Int.le_trans (many_top ht bs.length bs rfl hb).2 (pow_mono ht hl)) hp
end RL

namespace RL
open PySem PySem.Spec PyProof.Rows L2
section
variable {X : Cx} {K : PySem.W.Frag} {W : WX} {a b e : Expr} {fa fb : FE} {p pos p2 pos2 : Pos}
/-! (x, ..) * n -/
noncomputable def gRepT : D → D → Option S
  | .tup xs, .int k => @ite _ (xs ≠ [] ∧ 2 ≤ k ∧ k ≤ 1000 ∧ xs.length ≤ 1000) (Classical.propDecidable _) (some (.d (.tup (List.replicate k.toNat xs).flatten))) none
  | _, _ => none
theorem prRepT : Pr2 K (rRepT K) gRepT := by
  intro F H x y d e s Q sm rx ry eg hq
  unfold gRepT at eg
  split at eg
  · rename_i xs k
    split at eg
    · cases eg
      rename_i h
      obtain ⟨l, us, rfl, h1, h2⟩ := rx.tup_inv
      exact ⟨l, k, us, rfl, ry.int_inv, sqT_of (sm _ _ h1), fun z => h.1 (by subst z; cases h2; rfl), h.2.1, h.2.2.1, by rw [h2.len]; exact h.2.2.2, fun q hp => hq.newT sm hp (h2.rep _)⟩
    · cases eg
  · cases eg
theorem q_repT (K : PySem.W.Frag) (hK : X.K = K := by rfl) : OpR X (binaryOp .Mult) (rRepT K) := by subst hK; exact op_repT
theorem gRepT_tup {xs : List D} {k : Int} (h : xs ≠ []) (h1 : 2 ≤ k) (h2 : k ≤ 1000) (h3 : xs.length ≤ 1000) : gRepT (.tup xs) (.int k) = some (.d (.tup (List.replicate k.toNat xs).flatten)) := if_pos ⟨h, h1, h2, h3⟩
/-! tuple(range(..)), list(range(..)) -/
theorem ln_un {r : V → Hp → VK → Prop} {g : D → Option S} (hp : Pr1 K r g) {σ : L2.St} {H : Hp} {Q : VK} (h : LN K W (dUn g fa) σ H Q) : tUn r (LE K W fa) σ H Q := by
  obtain ⟨F, ρ, rl, q⟩ := h
  refine ⟨F, ρ, rl, (Post.bind q).mono fun x ρ1 F1 H1 A1 q1 v rv => ?_⟩
  dsimp only at q1
  cases eg : g x with
  | none => rw [eg] at q1; exact q1.elim
  | some s =>
    rw [eg] at q1
    exact hp F1 H1 v x s Q A1.rel.sub rv eg (res_of A1.rel (fun p hp => A1.tr.dom p hp) fun F' H' A => q1 F' H' A)
theorem rgV_rp {F : Hp} (i j : Int) : RpA K F (rgV i j) (rangeD i (j - i).toNat) := by
  unfold rgV rangeD
  generalize (j - i).toNat = n
  have : ∀ l : List Nat, RpA K F (l.map fun t : Nat => V.int (i + (t : Nat))) (l.map fun t : Nat => D.int (i + (t : Nat))) := fun l => by
    induction l with
    | nil => exact .nil
    | cons x r ih => exact .cons (.int _) ih
  exact this _
noncomputable def rgD (mk : List D → S) (i j : Int) : Option S := @ite _ (RgOk i j) (Classical.propDecidable _) (some (mk (rangeD i (j - i).toNat))) none
noncomputable def gTR1 : D → Option S
  | .int n => rgD (fun l => .d (.tup l)) 0 n
  | _ => none
noncomputable def gTR2 : D → D → Option S
  | .int i, .int j => rgD (fun l => .d (.tup l)) i j
  | _, _ => none
noncomputable def gLR1 : D → Option S
  | .int n => rgD (fun l => .o (oL l)) 0 n
  | _ => none
theorem rgD_of {mk : List D → S} {i j : Int} (h : RgOk i j) : rgD mk i j = some (mk (rangeD i (j - i).toNat)) := if_pos h
theorem rgD_ok {mk : List D → S} {i j : Int} {s : S} (h : rgD mk i j = some s) : RgOk i j ∧ s = mk (rangeD i (j - i).toNat) := by
  unfold rgD at h
  split at h
  · rename_i hk; exact ⟨hk, (Option.some.inj h).symm⟩
  · cases h
theorem prTR1 : Pr1 K (fun x H Q => ∃ n, x = .int n ∧ RgOk 0 n ∧ ∀ q, H q = none → Q (.ref q) (upd H q (.tup (rgV 0 n)))) gTR1 := by
  intro F H x d s Q sm rx eg hq
  cases d with
  | int n =>
    obtain ⟨h1, rfl⟩ := rgD_ok (show rgD (fun l => .d (.tup l)) 0 n = some s from eg)
    exact ⟨n, rx.int_inv, h1, fun q hp => hq.newT sm hp (rgV_rp 0 n)⟩
  | _ => cases eg
theorem prLR1 : Pr1 K (fun x H Q => ∃ n, x = .int n ∧ RgOk 0 n ∧ ∀ q, H q = none → Q (.ref q) (upd H q (.lst (rgV 0 n)))) gLR1 := by
  intro F H x d s Q sm rx eg hq
  cases d with
  | int n =>
    obtain ⟨h1, rfl⟩ := rgD_ok (show rgD (fun l => .o (oL l)) 0 n = some s from eg)
    exact ⟨n, rx.int_inv, h1, fun q hp => hq.newL sm hp (rgV_rp 0 n)⟩
  | _ => cases eg
theorem prTR2 : Pr2 K (fun x y H Q => ∃ i j, x = .int i ∧ y = .int j ∧ RgOk i j ∧ ∀ q, H q = none → Q (.ref q) (upd H q (.tup (rgV i j)))) gTR2 := by
  intro F H x y d e s Q sm rx ry eg hq
  cases d with
  | int i => cases e with
    | int j =>
      obtain ⟨h1, rfl⟩ := rgD_ok (show rgD (fun l => .d (.tup l)) i j = some s from eg)
      exact ⟨i, j, rx.int_inv, ry.int_inv, h1, fun q hp => hq.newT sm hp (rgV_rp i j)⟩
    | _ => cases eg
  | _ => cases eg
theorem dn_tr1 (hg : Gl X "tuple") (hm : X.mg "tuple" = none) (hg2 : Gl X "range") (hm2 : X.mg "range" = none) (ha : DE X K W a fa) (hc : X.calm = true := by rfl) (na : starEach [a] X.env = (false, eval a X.env) :: starEach [] X.env := by rfl)
    (na2 : starEach [.Call (.Name "range" p2) [a] [] pos2] X.env = (false, eval (.Call (.Name "range" p2) [a] [] pos2) X.env) :: starEach [] X.env := by rfl) : DN X K W (.Call (.Name "tuple" p) [.Call (.Name "range" p2) [a] [] pos2] [] pos) (dUn gTR1 fa) :=
  ⟨(pe_tupRg hc hg hm (prg_1 hg2 hm2 ha.pe na) na2).weak fun _ _ _ h => ln_un prTR1 h⟩
theorem dn_lr1 (hg : Gl X "list") (hm : X.mg "list" = none) (hg2 : Gl X "range") (hm2 : X.mg "range" = none) (ha : DE X K W a fa) (hc : X.calm = true := by rfl) (na : starEach [a] X.env = (false, eval a X.env) :: starEach [] X.env := by rfl)
    (na2 : starEach [.Call (.Name "range" p2) [a] [] pos2] X.env = (false, eval (.Call (.Name "range" p2) [a] [] pos2) X.env) :: starEach [] X.env := by rfl) : DN X K W (.Call (.Name "list" p) [.Call (.Name "range" p2) [a] [] pos2] [] pos) (dUn gLR1 fa) :=
  ⟨(pe_listRg hc hg hm (prg_1 hg2 hm2 ha.pe na) na2).weak fun _ _ _ h => ln_un prLR1 h⟩
theorem dn_tr2 (hg : Gl X "tuple") (hm : X.mg "tuple" = none) (hg2 : Gl X "range") (hm2 : X.mg "range" = none) (ha : DE X K W a fa) (hb : DE X K W b fb) (hc : X.calm = true := by rfl) (na : starEach [a, b] X.env = (false, eval a X.env) :: starEach [b] X.env := by rfl)
    (nb : starEach [b] X.env = (false, eval b X.env) :: starEach [] X.env := by rfl) (hpl : (backTo pos2 (starEach [b] X.env)).any (·.1) = false := by rfl)
    (na2 : starEach [.Call (.Name "range" p2) [a, b] [] pos2] X.env = (false, eval (.Call (.Name "range" p2) [a, b] [] pos2) X.env) :: starEach [] X.env := by rfl) : DN X K W (.Call (.Name "tuple" p) [.Call (.Name "range" p2) [a, b] [] pos2] [] pos) (dOp gTR2 fa fb) :=
  ⟨(pe_tupRg hc hg hm (prg_2 hg2 hm2 ha.pe hb.pe na nb hpl) na2).weak fun _ _ _ h => ln_op prTR2 h⟩
end
/-! sieves that are too great, or have too many choices -/
theorem mkSv_bars {bs : List Bar} (hl : bs.length ≤ 6) (hb : ∀ b ∈ bs, BarOk b) : mkSv (barsD bs) = if wholeOf bs > 10 ^ 30 then .er ⟨"TooGreat", []⟩ else if manyOf bs > 2000 then .er ⟨"TooMany", []⟩ else .ok bs := by
  unfold mkSv
  dsimp only
  rw [if_neg (by rw [List.length_map]; omega), badAt_all fun d hd => by obtain ⟨b, hb', rfl⟩ := List.mem_map.mp hd; exact isBarD_of (hb b hb')]
  dsimp only
  rw [toBars_map]
theorem gPow30 : gPow (.int 10) (.int 30) = some (.d (.int (10 ^ 30))) := by rfl
/-! 0, 1, .. -/
def zr (n : Nat) : List Int := (List.range n).map Int.ofNat
theorem zr_range (n : Nat) : rangeD 0 n = (zr n).map .int := by
  unfold rangeD zr
  rw [List.map_map]
  apply List.map_congr_left
  intro a _
  show D.int (0 + (a : Int)) = D.int (Int.ofNat a)
  rw [Int.zero_add]
  rfl
theorem zr_asc (n : Nat) : (zr n).Pairwise (· < ·) := by
  unfold zr
  rw [List.pairwise_map]
  exact List.pairwise_lt_range.imp fun h => by show (_ : Int) < _; exact Int.ofNat_lt.mpr h
theorem mem_zr {n : Nat} {t : Int} : t ∈ zr n ↔ 0 ≤ t ∧ t < n := by
  unfold zr
  rw [List.mem_map]
  constructor
  · rintro ⟨a, ha, rfl⟩
    have := List.mem_range.mp ha
    exact ⟨Int.natCast_nonneg a, Int.ofNat_lt.mpr this⟩
  · rintro ⟨h1, h2⟩
    exact ⟨t.toNat, List.mem_range.mpr (by omega), Int.toNat_of_nonneg h1⟩
theorem zr_len (n : Nat) : (zr n).length = n := by simp [zr]
end RL

namespace RL
open PySem PySem.Spec PyProof.Rows L2
section
variable {P : Program} {w : World} {A : Around} {E : Value → Shared → Prop} {s : Shared}
abbrev setNew (w : World) : Obj := { cls := .type "set", dict := none, data := .set #[] 0 (.fresh 0 0 (!w.params.followText "set-order")) }
/-- set.__init__ of a new set: what updateFrom does -/
theorem set_init_by {x : Value} {R : PySem.Fin → Shared → Prop} {S : Addr} (hS : s.heap.get? S = some (setNew w))
    (hu : wpAny (model P w) A (Builtin.Frozenset.updateFrom "set.__init__" S x) (fun _ s2 => R (.done (.ret .none)) s2) E s) :
    wpAny (model P w) A (Builtin.«set.__init__» ⟨[.ref S, x], []⟩) R E s := by
  unfold Builtin.«set.__init__» noKeywords
  generalize Builtin.Frozenset.updateFrom = U at hu ⊢
  obtain ⟨hp, g, d, tk, os⟩ := s
  wp_walk
  exact wpAny_mono hu (fun _ s2 h2 => wpAny_pure h2) fun _ _ z => z
/-- set(x) -/
theorem set_by {x : Value} {Q : Value → Shared → Prop}
    (hu : wpAny (model P w) A.in1.in1 (Builtin.Frozenset.updateFrom "set.__init__" s.heap.objs.size x) (fun _ s2 => Q (.ref s.heap.objs.size) s2) E { s with heap := s.heap.push (setNew w) }) :
    wpAny (model P w) A (call (.type "set") [x]) Q E s := by
  obtain ⟨c, tl, m1⟩ := PySem.F.called_set.mro
  have m2 := And.intro PySem.F.called_set.made (And.intro PySem.F.called_set.sub (And.intro PySem.F.called_set.notType (And.intro PySem.F.called_set.canCreate (PySem.F.typeCall_set_1 x))))
  obtain ⟨m3, m4, m5, m6, m7⟩ := m2
  refine wpAny_call (codeAny_of_tree ?_)
  show wpAny _ _ (callAny (.type "set") _) _ _ _
  refine wpAny_pure ⟨Code.quiet_builtin _ (by decide +kernel), codeAny_builtin F.entry_type_call ?_⟩
  rw [Around.under_plain (weight_type_call_type "set" [x] []) rfl]
  repeat (any_goals (first | assumption | wp_step))
  refine codeAny_mono (code_set_led1 x (E := E) (Q₁ := fun y s1 => y = .ref s.heap.objs.size ∧ s1 = { s with heap := s.heap.push (setNew w) }) ⟨rfl, rfl⟩) fun r s1 hr => ?_
  match r, hr with
  | .error e, hr => exact hr
  | .ok (.ret y), hr =>
    obtain ⟨ey, es⟩ := hr
    subst ey
    subst es
    have at_ : (s.heap.push (setNew w)).get? s.heap.objs.size = some (setNew w) := Heap.get?_push_size _ rfl
    have ty : Shared.TypeIs { s with heap := s.heap.push (setNew w) } (.ref s.heap.objs.size) "set" := ⟨_, at_, rfl⟩
    have i1 := PySem.F.called_set.init.lookup
    have i2 := PySem.F.called_set.init.bind (.ref s.heap.objs.size)
    repeat (any_goals (first | assumption | wp_step))
    refine codeAny_mono (codeAny_call_builtin (R := wants (fun v s2 => v = .none ∧ Q (.ref s.heap.objs.size) s2) E) PySem.F.called_set.init.plain PySem.F.entry_set_init (check_set_init_1 ty (set_init_by at_ (wpAny_mono hu (fun _ s2 q => ⟨rfl, q⟩) fun _ _ z => z)))) fun r2 s2 h2 => ?_
    match r2, h2 with
    | .error e, h2 => exact h2
    | .ok (.ret v), h2 =>
      obtain ⟨ev, q⟩ := h2
      subst ev
      repeat (any_goals (first | assumption | wp_step))
    | .ok .next, h2 => exact h2.elim
    | .ok .brk, h2 => exact h2.elim
    | .ok .cont, h2 => exact h2.elim
  | .ok .next, hr => exact hr.elim
  | .ok .brk, hr => exact hr.elim
  | .ok .cont, hr => exact hr.elim
/-- the ints of a list come into a new set -/
theorem upd_list {l S : Addr} {its : Array Value} (ks : List Int) {Q : Unit → Shared → Prop} (hh : A.handled = none) (hl : s.heap.IsList l its) (hi : IntsAre its.toList ks) (hb : ks.length + 1 < scanBound) (hS : s.heap.get? S = some (setNew w)) (hne : l ≠ S)
    (h : ∀ (h' : Heap) (tk c : Nat), SetR w h' S (fun j => decide (j ∈ ks)) c → c ≤ ks.length → (∀ b o, b ≠ S → s.heap.get? b = some o → h'.get? b = some o) → Q () { s with heap := h', toks := tk }) :
    wpAny (model P w) A (Builtin.Frozenset.updateFrom "set.__init__" S (.ref l)) Q E s := by
  have hlen : its.size = ks.length := by rw [← Array.length_toList, IntsAre.length hi]
  obtain ⟨ob, g1, g2, nb, g3⟩ := id hl
  have k1 := PySem.F.sub_list_set
  have k2 := PySem.F.sub_list_frozenset
  have k3 : (Value.type "list" == Value.type "dict") = false := by decide
  have hT : s.TypeIs (.ref l) "list" := ⟨ob, g1, g2⟩
  unfold Builtin.Frozenset.updateFrom
  generalize eP : pyIter = PI
  repeat (any_goals (first | assumption | wp_step))
  subst eP
  refine wpAny_pyIter_list hl ?_
  have hlt : l < s.heap.objs.size := Heap.lt_size g1
  have hSt : S < s.heap.objs.size := Heap.lt_size hS
  have ix : ∀ (i : Nat) (v : Value), its[i]? = some v → ∃ k t, ks[i]? = some k ∧ v = .int k t := fun i v hv => by
    have hik : i < ks.length := by rw [← hlen]; exact (Array.getElem?_eq_some_iff.mp hv).1
    obtain ⟨t, e⟩ := PyProof.Rows.IntsAre.int_at hi i v (by rwa [Array.getElem?_toList])
    have e2 : ks.getD i 0 = ks[i] := by simp [hik]
    exact ⟨ks[i], t, List.getElem?_eq_getElem hik, by rw [e, e2]⟩
  refine wpAny_bind (wpAny_runValue (set_update_ints (A := A) ((Walks.list (A := A.in1) (by simp [hh]) s.heap.objs.size l (Nat.ne_of_lt hlt) its).toS) S (by simp; exact ⟨Nat.ne_of_lt hSt, Ne.symm hne⟩) ks hlen hb ix (its.size - 0) 0 _ rfl (Nat.zero_le _)
    ⟨⟨_, Heap.get?_push_size _ rfl, rfl, rfl⟩, hl.push _⟩ ⟨0, Nat.le_refl _, setR_new_at (Heap.get?_push_of_some _ hS)⟩ fun s2 c mv hc R2 => ?_))
  obtain ⟨h2, gn, dr, tk, os⟩ := s2
  obtain rfl : gn = s.gens := mv.gens
  obtain rfl : dr = s.drawn := mv.drawn
  obtain rfl : os = s.os := mv.os
  rw [hlen] at hc
  exact wpAny_pure (h h2 tk c R2 hc fun b o hb e => mv.heap b o (by
    have := Heap.lt_size e
    simp only [List.mem_cons, List.not_mem_nil, or_false, not_or]
    exact ⟨hb, Nat.ne_of_lt this⟩) (Heap.get?_push_of_some _ e))
/-- sorted(v), v giving ints one by one: Cd tells what came, and how all stands then -/
theorem sorted_by {v : Value} {Q : Value → Shared → Prop} (Cd : List Value → Shared → Prop) (hc : ∀ (E' : Value → Shared → Prop) (R : List Value → Shared → Prop), (∀ vs s1, Cd vs s1 → R vs s1) → wpAny (model P w) A.in1 (collect v) R E' s)
    (hI : ∀ vs s1, Cd vs s1 → ∃ ns : List Int, IntsAre vs ns ∧ vs.length ≤ sizeLine ∧ ∀ (out : List Value) (ns' : List Int) (c : Nat) (h2 : Heap), IntsAre out ns' → ns'.Perm ns → ns'.Pairwise (· ≤ ·) → h2.get? s1.heap.objs.size = some (seqObj "list" out.toArray c) →
      (∀ b o, s1.heap.get? b = some o → h2.get? b = some o) → Q (.ref s1.heap.objs.size) { s1 with heap := h2 }) :
    wpAny (model P w) A (call (.builtin "sorted") [v]) Q E s := by
  refine Calls.call_function_entry kind_sorted plain_sorted entry_sorted (args_sorted1 _) ?_
  unfold Builtin.«sorted»
  refine wpAny_bind (m := checkCount "sorted" 1 1 _) (wpAny_pure (wpAny_bind (hc _ _ fun vs s1 cd => ?_)))
  obtain ⟨ns, i1, i2, i3⟩ := hI vs s1 cd
  refine wpAny_bind (wpAny_newList ?_ i2)
  have here : (s1.heap.push (seqObj "list" vs.toArray 0)).get? s1.heap.objs.size = some (seqObj "list" vs.toArray 0) := Heap.get?_push_size _ rfl
  show wpAny _ _ _ _ _ { s1 with heap := s1.heap.push (seqObj "list" vs.toArray 0) }
  refine wpAny_bind (wpAny_holding (wpAny_call_entry slot_list_sort ⟨_, here, rfl⟩ entry_list_sort (SrtO.list_sort_ord SrtO.swo_int here i2 (fun h2 => SrtO.ints_sortable i1 h2) fun out o1 o2 => ⟨.none, rfl, wpAny_pure ⟨_, rfl, ?_⟩⟩) (args_list_sort _)))
  obtain ⟨j1, j2, j3⟩ := SrtO.ints_out i1 o1 o2
  obtain ⟨c, hc2⟩ := sortedHeap_at (vs := vs) (out := out.toArray) here
  refine i3 out _ c _ j1 j2 j3 hc2 fun b o e => ?_
  have hb := Heap.lt_size e
  rw [sortedHeap_old (Nat.ne_of_lt hb) (by rw [size_push']; exact Nat.lt_succ_of_lt hb)]
  exact Heap.get?_push_of_some _ e
end
section
variable {X : Cx}
/-- set(xs), a list of ints -/
def rSetL (K : PySem.W.Frag) (w : World) : List V → Hp → VK → Prop := fun vs H Q => ∃ (l : Addr) (ns : List Int), vs = [V.ref l] ∧ SqL K H l (ns.map V.int) ∧ ns.length + 1 < scanBound ∧ ∀ p c, H p = none → c ≤ ns.length → Q (.ref p) (upd H p (SetO w p (fun j => decide (j ∈ ns)) c))
theorem cr_setL (hc : X.calm = true) : CallR X (.type "set") (rSetL X.K X.w) := by
  intro pins s σ H vs us Q I r h
  obtain ⟨l, ns, rfl, hs, hb, q⟩ := h
  obtain ⟨its, rv, hl, hz⟩ := I.list hs
  rw [Vals.ref1 r]
  obtain ⟨ob, e0, e1, n0, e2⟩ := id hl.isList
  have hlt := Heap.lt_size e0
  refine set_by (upd_list ns (by simpa using I.ok.hd hc) (hl.isList.push _) (by simpa using rv.ints) hb (Heap.get?_push_size _ rfl) (Nat.ne_of_lt hlt) fun h' tk c R hcn keep => ?_)
  have old : ∀ b o, s.heap.get? b = some o → h'.get? b = some o := fun b o e => keep b o (Nat.ne_of_lt (Heap.lt_size e)) (Heap.get?_push_of_some _ e)
  exact ⟨.ref s.heap.objs.size, _, I.laid (t' := tk) old (Nat.le_refl _) (setO_new R), rfl, q _ c (I.hok.fresh (Nat.le_refl _)) hcn⟩
/-- sorted(s), a set of ints -/
def rSortS (w : World) : List V → Hp → VK → Prop := fun vs H Q => ∃ (a : Addr) (S : Int → Bool) (n : Nat), vs = [V.ref a] ∧ H a = some (SetO w a S n) ∧ ∀ (ns : List Int) (p : Addr), ns.Pairwise (· < ·) → (∀ k : Int, k ∈ ns ↔ S k = true) → H p = none → Q (.ref p) (upd H p (.lst (ns.map V.int)))
theorem cr_sortS (hc : X.calm = true) : CallR X (.builtin "sorted") (rSortS X.w) := by
  intro pins s σ H vs us Q I r h
  obtain ⟨a, S, n, rfl, ha, q⟩ := h
  have R := setO_get I ha
  rw [Vals.ref1 r]
  obtain ⟨o, es, ep, t, ho, hex, hd, hg, nd, hm, hbd, hf, hn, hr, hl⟩ := R
  refine sorted_by (fun vs s1 => (∀ b o, s.heap.get? b = some o → s1.heap.get? b = some o) ∧ s.heap.objs.size ≤ s1.heap.objs.size ∧ s1.gens = s.gens ∧ s1.os = s.os ∧ vs.Perm (es.toList.map (·.2)))
    (fun E' R hR => collect_set (A := X.A.in1) (by simpa using I.ok.hd hc) ⟨o, ho, hex.1, hd⟩ hf hbd hr hl fun s1 out k1 k2 k3 k4 k5 => hR out s1 ⟨k1, k2, k3, k4, k5⟩) fun vs s1 hcd => ?_
  obtain ⟨k1, k2, k3, k4, pm⟩ := hcd
  have iv : ∀ v ∈ vs, ∃ i t, v = Value.int i t := fun v hv => by
    obtain ⟨e, he, rfl⟩ := List.mem_map.mp (pm.mem_iff.mp hv)
    obtain ⟨k, tk, g1, _⟩ := hg e he
    exact ⟨k, tk, g1⟩
  have kv : vs.map SrtO.iv = vs.map Builtin.Re.reRawOf := List.map_congr_left fun v hv => by
    obtain ⟨i, t, rfl⟩ := iv v hv
    rfl
  have pk : (vs.map SrtO.iv).Perm (es.toList.map keyOf) := by
    rw [kv]
    have := pm.map Builtin.Re.reRawOf
    rwa [List.map_map] at this
  have hvl : vs.length ≤ sizeLine := by
    rw [pm.length_eq, List.length_map, Array.length_toList]
    exact Nat.le_trans (Nat.le_of_lt hbd) (by decide)
  refine ⟨vs.map SrtO.iv, SrtO.ints_iv iv, hvl, fun out ns' c h2 o1 o2 o3 o4 o5 => ?_⟩
  have pn := o2.trans pk
  have nn : ns'.Nodup := pn.nodup_iff.mpr nd
  have fresh : H s1.heap.objs.size = none := I.hok.fresh k2
  have len : (ns'.map V.int).length ≤ sizeLine := by rw [List.length_map, o2.length_eq, List.length_map]; exact hvl
  have old : ∀ b u, s.heap.get? b = some u → h2.get? b = some u := fun b u e => o5 b u (k1 b u e)
  have J : Inv X pins σ (upd H s1.heap.objs.size (.lst (ns'.map V.int))) { s with heap := h2, gens := s1.gens, drawn := s1.drawn, toks := s1.toks } :=
    I.call (ch := []) (Un.laid old k2 fresh) (I.hok.laid old k2 ⟨len, out, c, vals_of_ints o1, o4⟩) (by rw [k3]; exact I.bare) (fun _ z => nomatch z)
  have e : ({ s1 with heap := h2 } : Shared) = { s with heap := h2, gens := s1.gens, drawn := s1.drawn, toks := s1.toks } := by rw [← k4]
  rw [e]
  exact ⟨.ref s1.heap.objs.size, _, J, rfl, q ns' _ (asc_of_nodup o3 nn) (fun k => by rw [pn.mem_iff, ← hm k]) fresh⟩
end
/-! sorted(set(xs)) over data -/
def dedup : List Int → List Int
  | [] => []
  | a :: r => if a ∈ r then dedup r else a :: dedup r
theorem mem_dedup {x : Int} : ∀ {l : List Int}, x ∈ dedup l ↔ x ∈ l
  | [] => Iff.rfl
  | a :: r => by
    unfold dedup
    split
    · rename_i h
      rw [mem_dedup (l := r), List.mem_cons]
      exact ⟨.inr, fun z => z.elim (fun e => e ▸ h) id⟩
    · rw [List.mem_cons, mem_dedup (l := r), List.mem_cons]
theorem dedup_nodup : ∀ l : List Int, (dedup l).Nodup
  | [] => by simp [dedup]
  | a :: r => by
    unfold dedup
    split
    · exact dedup_nodup r
    · rename_i h
      exact List.nodup_cons.mpr ⟨fun z => h (mem_dedup.mp z), dedup_nodup r⟩
/-- the unlike ones, ascending -/
def uniq (l : List Int) : List Int := sortI (dedup l)
theorem mem_uniq {l : List Int} {x : Int} : x ∈ uniq l ↔ x ∈ l := sortI_mem.trans mem_dedup
theorem uniq_asc (l : List Int) : (uniq l).Pairwise (· < ·) := sortI_asc (dedup_nodup l)
theorem asc_ext : ∀ {l m : List Int}, l.Pairwise (· < ·) → m.Pairwise (· < ·) → (∀ x, x ∈ l ↔ x ∈ m) → l = m
  | [], [], _, _, _ => rfl
  | [], b :: m, _, _, h => absurd ((h b).mpr (by simp)) (by simp)
  | a :: l, [], _, _, h => absurd ((h a).mp (by simp)) (by simp)
  | a :: l, b :: m, h1, h2, h => by
    obtain ⟨a1, a2⟩ := List.pairwise_cons.mp h1
    obtain ⟨b1, b2⟩ := List.pairwise_cons.mp h2
    have e : a = b := by
      rcases List.mem_cons.mp ((h a).mp (by simp)) with e | e
      · exact e
      · rcases List.mem_cons.mp ((h b).mpr (by simp)) with e' | e'
        · exact e'.symm
        · have := b1 a e
          have := a1 b e'
          omega
    subst e
    rw [asc_ext a2 b2 fun x => ?_]
    constructor
    · intro hx
      rcases List.mem_cons.mp ((h x).mp (List.mem_cons_of_mem _ hx)) with e | e
      · have := a1 x hx; omega
      · exact e
    · intro hx
      rcases List.mem_cons.mp ((h x).mpr (List.mem_cons_of_mem _ hx)) with e | e
      · have := b1 x hx; omega
      · exact e
theorem uniq_eq {l m : List Int} (h1 : m.Pairwise (· < ·)) (h2 : ∀ x, x ∈ m ↔ x ∈ l) : uniq l = m := asc_ext (uniq_asc l) h1 fun x => by rw [mem_uniq, h2]
theorem uniq_len (l : List Int) : (uniq l).length ≤ l.length := by
  refine List.Nodup.length_le_of_subset (asc_nodup (uniq_asc l)) fun x hx => mem_uniq.mp hx
noncomputable def gSortSet : List D → Option S := gLI fun ns => @ite _ (ns.length + 1 < scanBound) (Classical.propDecidable _) (some (.o (oL ((uniq ns).map .int)))) none
theorem gSortSet_int {ns : List Int} (h : ns.length < 4000) : gSortSet [lI ns] = some (.o (oL ((uniq ns).map .int))) := by
  have : ns.length + 1 < scanBound := by unfold scanBound; omega
  exact (gLI_map ns).trans (if_pos this)
theorem prSortSet {K : PySem.W.Frag} {w : World} : PrL K (fun vs H Q => rSetL K w vs H fun x H2 => rSortS w [x] H2 Q) gSortSet := prLI fun F H a ns s Q sm h e hq => by
  split at e
  · cases e
    rename_i hn
    refine ⟨a, ns, rfl, sqL_of (sm _ _ h), hn, fun p c hp _ => ⟨p, _, c, rfl, upd_same, fun ns' p' h1 h2 h3 => ?_⟩⟩
    obtain rfl : uniq ns = ns' := uniq_eq h1 fun x => by rw [h2]; exact decide_eq_true_iff
    have hp' : H p' = none := by
      by_cases z : p' = p
      · rw [z]; exact hp
      · rwa [upd_ne z] at h3
    exact hq _ F _ (Tr0.trans (Tr0.alloc hp) (Tr0.alloc h3)) (Same.alloc (Same.alloc sm hp) h3) ⟨p', _, rfl, hp', none_of sm hp', upd_same, (fun _ z => nomatch z), RpA.ints⟩
  · cases e
theorem bt_set : bootBuiltins "set" = some (.type "set") := by decide +kernel
section
variable {X : Cx} {K : PySem.W.Frag} {W : WX} {a : Expr} {fr : FA} {p pos p2 pos2 : Pos}
theorem dn_sortset (hg : Gl X "sorted") (hm : X.mg "sorted" = none) (hg2 : Gl X "set") (hm2 : X.mg "set" = none) (ha : DA X K W [a] fr) (hc : X.calm = true := by rfl) (hK : X.K = K := by rfl)
    (n1 : starEach [a] X.env = (false, eval a X.env) :: starEach [] X.env := by rfl) (n2 : starEach [.Call (.Name "set" p2) [a] [] pos2] X.env = (false, eval (.Call (.Name "set" p2) [a] [] pos2) X.env) :: starEach [] X.env := by rfl)
    (n3 : (backTo pos2 (starEach [] X.env)).any (·.1) = false := by rfl) (n4 : (backTo pos (starEach [] X.env)).any (·.1) = false := by rfl) :
    DN X K W (.Call (.Name "sorted" p) [.Call (.Name "set" p2) [a] [] pos2] [] pos) (dLs gSortSet fr) := by
  subst hK
  exact ⟨(pe_callB (cr_sortS hc) hg hm bt_sorted (pa_cons (pe_callTy (cr_setL hc) hg2 hm2 bt_set ha.pa (by decide) (by decide) n1 n3) pa_nil n2) (by decide) (by decide) n2 n4).weak fun σ H Q h => ln_ls (prSortSet (w := X.w)) h⟩
end
end RL

namespace RL
open PySem PySem.Spec PyProof.Rows L2
/-! some of the bars -/
theorem flatMap_if {α β : Type} (c : α → Bool) (g : α → β) : ∀ l : List α, (l.flatMap fun p => if c p = true then [g p] else []) = (l.filter c).map g
  | [] => rfl
  | a :: r => by
    rw [List.flatMap_cons, flatMap_if c g r]
    by_cases h : c a = true <;> simp [h]
theorem many_foldl : ∀ (bs : List Bar) (k : Int), bs.foldl (fun k b => k * mx1 b.2.length) k = k * manyOf bs
  | [], k => by simp [manyOf]
  | b :: r, k => by
    unfold manyOf
    rw [List.foldl_cons, List.foldl_cons, many_foldl r, many_foldl r (1 * _), Int.one_mul, Int.mul_assoc]
theorem manyOf_cons (b : Bar) (bs : List Bar) : manyOf (b :: bs) = mx1 b.2.length * manyOf bs := by
  show bs.foldl _ (1 * mx1 b.2.length) = _
  rw [many_foldl, Int.one_mul]
theorem mx1_pos (n : Nat) : 1 ≤ mx1 n := by unfold mx1; split <;> omega
theorem many_pos : ∀ bs : List Bar, 1 ≤ manyOf bs
  | [] => by decide
  | b :: r => by
    rw [manyOf_cons]
    have := Int.mul_le_mul (mx1_pos b.2.length) (many_pos r) (by decide) (Int.le_trans (by decide) (mx1_pos b.2.length))
    omega
theorem many_sub : ∀ {l m : List Bar}, List.Sublist l m → manyOf l ≤ manyOf m
  | _, _, .slnil => Int.le_refl _
  | _, _, .cons (l₂ := m) b h => by
    rw [manyOf_cons]
    have h1 := many_sub h
    have h2 := mx1_pos b.2.length
    have h4 := many_pos m
    have h3 := Int.mul_le_mul_of_nonneg_right h2 (show 0 ≤ manyOf m by omega)
    rw [Int.one_mul] at h3
    exact Int.le_trans h1 h3
  | _, _, .cons_cons b h => by
    rw [manyOf_cons, manyOf_cons]
    exact Int.mul_le_mul_of_nonneg_left (many_sub h) (Int.le_trans (by decide) (mx1_pos _))
theorem whole_sub {l m : List Bar} (hb : ∀ b ∈ m, BarOk b) (h : ∀ b ∈ l, b ∈ m) : wholeOf l ≤ wholeOf m := by
  have hm := whole_pos hb
  have := whole_dvd (n := (wholeOf m).toNat) (bs := l) fun x hx => by
    rw [Int.toNat_of_nonneg (by omega)]
    exact dvd_whole (h x hx)
  rw [Int.toNat_of_nonneg (by omega)] at this
  exact Int.le_of_dvd hm this
theorem BarsOk.sub {l m : List Bar} (hm : BarsOk m) (h : List.Sublist l m) : BarsOk l := by
  refine ⟨Nat.le_trans h.length_le hm.len, fun b hb => hm.ok b (h.subset hb), Int.le_trans (whole_sub hm.ok fun b hb => h.subset hb) hm.whole, Int.le_trans (many_sub h) hm.many⟩
def pickBs (a : List Bar) (is : List Int) : List Bar := is.map fun i => a.getD i.toNat (1, [])
theorem pick_sub_aux (a : List Bar) : ∀ (is : List Int) (k : Nat), is.Pairwise (· < ·) → (∀ i ∈ is, (k : Int) ≤ i ∧ i < a.length) → List.Sublist (pickBs a is) (a.drop k)
  | [], k, _, _ => by simp [pickBs]
  | i :: r, k, h, hr => by
    obtain ⟨h1, h2⟩ := List.pairwise_cons.mp h
    obtain ⟨i0, i1⟩ := hr i (by simp)
    have ih := pick_sub_aux a r (i.toNat + 1) h2 fun j hj => by
      have := h1 j hj
      exact ⟨by omega, (hr j (by simp [hj])).2⟩
    have hi : i.toNat < a.length := by omega
    have e : a.drop i.toNat = a.getD i.toNat (1, []) :: a.drop (i.toNat + 1) := by
      rw [List.drop_eq_getElem_cons hi]
      congr 1
      simp [hi]
    have s1 : List.Sublist (pickBs a (i :: r)) (a.drop i.toNat) := by
      rw [e]
      exact ih.cons_cons _
    have s2 : List.Sublist (a.drop i.toNat) (a.drop k) := by
      have : a.drop i.toNat = (a.drop k).drop (i.toNat - k) := by rw [List.drop_drop]; congr 1; omega
      rw [this]
      exact List.drop_sublist _ _
    exact s1.trans s2
structure IxOk (n : Nat) (is : List Int) : Prop where
  asc : is.Pairwise (· < ·)
  rng : ∀ i ∈ is, 0 ≤ i ∧ i < n
theorem pick_sub {a : List Bar} {is : List Int} (h : IxOk a.length is) : List.Sublist (pickBs a is) a := by
  have := pick_sub_aux a is 0 h.asc fun i hi => ⟨(h.rng i hi).1, (h.rng i hi).2⟩
  simpa using this
theorem zr_take {a : List Bar} (k : Nat) (h : k ≤ a.length) : (List.range k).map (fun i => a.getD i (1, [])) = a.take k := by
  apply List.ext_getElem?
  intro i
  by_cases hi : i < k
  · rw [List.getElem?_map, List.getElem?_range hi, List.getElem?_take_of_lt hi]
    have : i < a.length := by omega
    simp [this]
  · rw [List.getElem?_eq_none (by simp; omega), List.getElem?_eq_none (by simp; omega)]
theorem zr_drop {a : List Bar} (k : Nat) : (List.range' k (a.length - k)).map (fun i => a.getD i (1, [])) = a.drop k := by
  apply List.ext_getElem?
  intro i
  by_cases hi : i < a.length - k
  · rw [List.getElem?_map, List.getElem?_range' hi, List.getElem?_drop]
    have : k + i < a.length := by omega
    simp [this]
  · rw [List.getElem?_eq_none (by simp; omega), List.getElem?_eq_none (by simp; omega)]
/-- all indexes but k -/
def butK (n k : Nat) : List Int := (zr n).filter fun j => decide (j ≠ (k : Nat))
theorem butK_ok (n k : Nat) : IxOk n (butK n k) := ⟨(zr_asc n).sublist List.filter_sublist, fun i hi => mem_zr.mp (List.mem_filter.mp hi).1⟩
theorem butK_eq {n k : Nat} (h : k < n) : butK n k = zr k ++ (List.range' (k + 1) (n - (k + 1))).map Int.ofNat := by
  have e : List.range n = List.range k ++ (k :: List.range' (k + 1) (n - (k + 1))) := by
    rw [List.range_eq_range', List.range_eq_range', show (k :: List.range' (k + 1) (n - (k + 1))) = List.range' k (n - k) by
      obtain ⟨m, hm⟩ : ∃ m, n - k = m + 1 := ⟨n - k - 1, by omega⟩
      rw [hm, List.range'_succ]
      congr 2
      omega]
    have := List.range'_append (s := 0) (m := k) (n := n - k) (step := 1)
    simp only [Nat.one_mul, Nat.zero_add] at this
    rw [this]
    congr 1
    omega
  unfold butK zr
  rw [e, List.map_append, List.filter_append, List.map_cons, List.filter_cons]
  have h1 : (Int.ofNat k ≠ (k : Nat)) = False := by simp
  rw [if_neg (by simp)]
  rw [List.filter_eq_self.mpr, List.filter_eq_self.mpr]
  · intro x hx
    obtain ⟨i, hi, rfl⟩ := List.mem_map.mp hx
    have := List.mem_range'_1.mp hi
    have : (Int.ofNat i : Int) ≠ (k : Nat) := by
      show ((i : Nat) : Int) ≠ (k : Nat)
      omega
    simpa using this
  · intro x hx
    obtain ⟨i, hi, rfl⟩ := List.mem_map.mp hx
    have := List.mem_range.mp hi
    have : (Int.ofNat i : Int) ≠ (k : Nat) := by
      show ((i : Nat) : Int) ≠ (k : Nat)
      omega
    simpa using this
theorem pick_but {a : List Bar} {k : Nat} (h : k < a.length) : pickBs a (butK a.length k) = a.take k ++ a.drop (k + 1) := by
  rw [butK_eq h]
  unfold pickBs zr
  rw [List.map_append, List.map_map, List.map_map, ← zr_take k (by omega), ← zr_drop (a := a) (k + 1)]
  rfl
/-- without bar k -/
def dropB (a : List Bar) (k : Nat) : List Bar := a.take k ++ a.drop (k + 1)
theorem dropB_sub (a : List Bar) (k : Nat) : List.Sublist (dropB a k) a := by
  unfold dropB
  have := (List.Sublist.refl (a.take k)).append (List.drop_sublist 1 (a.drop k))
  rw [List.drop_drop] at this
  rwa [List.take_append_drop] at this
end RL

namespace RL
open PySem PySem.Spec PyProof.Rows L2
/-! a def's function is what its code does -/
noncomputable def autoF (n N : Nat) (G : FS) (ds : List D) : Fr := if ds.length = n then out (G (startD N ds)) else .no
theorem autoF_ok {n N : Nat} {G : FS} (ds : List D) (h : autoF n N G ds ≠ .no) : ds.length = n ∧ out (G (startD N ds)) = autoF n N G ds := by
  unfold autoF at h ⊢
  split at h
  · rename_i hl; exact ⟨hl, (if_pos hl).symm⟩
  · exact absurd rfl h
theorem autoF_at {n N : Nat} {G : FS} {ds : List D} (hl : ds.length = n := by rfl) : autoF n N G ds = out (G (startD N ds)) := if_pos hl
theorem autoF_wp {n N : Nat} {G : FS} {ds : List D} {s : S} (h : wpS (G (startD N ds)) (rtQ s)) (hl : ds.length = n := by rfl) : autoF n N G ds = .ok s := (autoF_at hl).trans (out_wp h)
open Classical in
noncomputable def autoO (n N : Nat) (G : FS) (c : OB) (ds : List D) : FrO := if h : ds.length = n ∧ ∃ r, r ≠ .no ∧ ∀ p, outO p (G (startO N p c ds)) = r then choose h.2 else .no
theorem autoO_len {n N : Nat} {G : FS} (c : OB) (ds : List D) (h : autoO n N G c ds ≠ .no) : ds.length = n := by
  unfold autoO at h
  split at h
  · rename_i hh; exact hh.1
  · exact absurd rfl h
theorem autoO_ok {n N : Nat} {G : FS} (p : Addr) (c : OB) (ds : List D) (h : autoO n N G c ds ≠ .no) : outO p (G (startO N p c ds)) = autoO n N G c ds := by
  unfold autoO at h ⊢
  split at h
  · rename_i hh
    rw [dif_pos hh]
    exact (Classical.choose_spec hh.2).2 p
  · exact absurd rfl h
theorem autoO_eq {n N : Nat} {G : FS} {c : OB} {ds : List D} {r : FrO} (hr : r ≠ .no) (h : ∀ p, outO p (G (startO N p c ds)) = r) (hl : ds.length = n := by rfl) : autoO n N G c ds = r := by
  have hh : ds.length = n ∧ ∃ r, r ≠ .no ∧ ∀ p, outO p (G (startO N p c ds)) = r := ⟨hl, r, hr, h⟩
  unfold autoO
  rw [dif_pos hh]
  exact ((Classical.choose_spec hh.2).2 0).symm.trans (h 0)
/-- it gives s back, the first slot holding c -/
theorem outO_wp {p : Addr} {r : Rs Flow} {s : S} {c : OB} (h : wpS r fun fl => ∃ ρ, fl = .rt s (some (.o ⟨some p, c⟩) :: ρ)) : outO p r = .ok s c := by
  obtain ⟨_, rfl, ρ, rfl⟩ := h
  simp [outO, ocAt]
/-! comprehensions that change the row -/
theorem lcL_st {g : FG} {fe : FE} {vs : List Nat} {β : Type} (st : β → Sl) (Iv : β → Prop) (P : D → Prop) : ∀ (items : List D) (b : β) (acc : List D), Iv b → acc.length + items.length ≤ sizeLine →
    (∀ (b : β) (x : D), x ∈ items → Iv b → ∃ ρ1 y ρ3 b1, g x (st b) = some ρ1 ∧ fe ρ1 = .ok (y, ρ3) ∧ wipeD ρ3 vs = st b1 ∧ Iv b1 ∧ P y) →
    ∃ ys b', lcL g tYesD fe vs items (st b) acc = .ok (acc ++ ys, st b') ∧ Iv b' ∧ ys.length = items.length ∧ ∀ y ∈ ys, P y
  | [], b, acc, hI, _, _ => ⟨[], b, by simp [lcL], hI, rfl, fun _ z => nomatch z⟩
  | x :: r, b, acc, hI, hl, h => by
    obtain ⟨ρ1, y, ρ3, b1, h1, h2, h3, h4, h5⟩ := h b x (by simp) hI
    have hl2 : acc.length + (r.length + 1) ≤ sizeLine := by simpa using hl
    obtain ⟨ys, b', e, e1, e2, e3⟩ := lcL_st st Iv P r b1 (acc ++ [y]) h4 (by simp; omega) fun b x hx => h b x (by simp [hx])
    refine ⟨y :: ys, b', ?_, e1, by simp [e2], fun z hz => ?_⟩
    · unfold lcL
      rw [h1]
      dsimp only [tYesD]
      rw [if_pos rfl, h2]
      dsimp only
      rw [if_pos (by omega), h3, e]
      simp
    · rcases List.mem_cons.mp hz with rfl | hz
      · exact h5
      · exact e3 z hz
theorem lcL_sub {g : FG} {ft : FT} {fe : FE} {vs : List Nat} {α β : Type} (enc : α → D) (st : β → Sl) (Iv : β → Prop) : ∀ (items : List α) (b : β) (acc : List D), Iv b → acc.length + items.length ≤ sizeLine →
    (∀ (b : β) (a : α), a ∈ items → Iv b → ∃ ρ1 t ρ2 b1, g (enc a) (st b) = some ρ1 ∧ ft ρ1 = .ok (t, ρ2) ∧ (t = true → ∃ ρ3, fe ρ2 = .ok (enc a, ρ3) ∧ wipeD ρ3 vs = st b1) ∧ (t = false → wipeD ρ2 vs = st b1) ∧ Iv b1) →
    ∃ (l : List α) (b' : β), lcL g ft fe vs (items.map enc) (st b) acc = .ok (acc ++ l.map enc, st b') ∧ Iv b' ∧ List.Sublist l items
  | [], b, acc, hI, _, _ => ⟨[], b, by simp [lcL], hI, List.Sublist.slnil⟩
  | a :: r, b, acc, hI, hl, h => by
    obtain ⟨ρ1, t, ρ2, b1, h1, h2, h3, h4, h5⟩ := h b a (by simp) hI
    have hl2 : acc.length + (r.length + 1) ≤ sizeLine := by simpa using hl
    cases t with
    | true =>
      obtain ⟨ρ3, h6, h7⟩ := h3 rfl
      obtain ⟨l, b', e, e1, e2⟩ := lcL_sub enc st Iv r b1 (acc ++ [enc a]) h5 (by simp; omega) fun b x hx => h b x (by simp [hx])
      refine ⟨a :: l, b', ?_, e1, e2.cons_cons a⟩
      rw [List.map_cons]
      unfold lcL
      rw [h1]
      dsimp only
      rw [h2]
      dsimp only
      rw [if_pos rfl, h6]
      dsimp only
      rw [if_pos (by omega), h7, e]
      simp
    | false =>
      obtain ⟨l, b', e, e1, e2⟩ := lcL_sub enc st Iv r b1 acc h5 (by omega) fun b x hx => h b x (by simp [hx])
      refine ⟨l, b', ?_, e1, e2.cons a⟩
      rw [List.map_cons]
      unfold lcL
      rw [h1]
      dsimp only
      rw [h2]
      dsimp only
      rw [if_neg (by decide), h4 rfl, e]
theorem ints_ex {R : Int → Prop} : ∀ {ys : List D}, (∀ y ∈ ys, ∃ v, y = .int v ∧ R v) → ∃ vs : List Int, ys = vs.map .int ∧ ∀ v ∈ vs, R v
  | [], _ => ⟨[], rfl, fun _ z => nomatch z⟩
  | y :: r, h => by
    obtain ⟨v, rfl, hv⟩ := h y (by simp)
    obtain ⟨vs, e, hvs⟩ := ints_ex (ys := r) fun z hz => h z (by simp [hz])
    refine ⟨v :: vs, by rw [e]; rfl, fun u hu => ?_⟩
    rcases List.mem_cons.mp hu with rfl | hu
    · exact hv
    · exact hvs u hu
end RL

namespace RL
open PySem PySem.Spec PyProof.Rows L2
/-! a tuple in a list, by equality -/
def gInP (neg : Bool) : D → D → Option S
  | d, .lst xs => if plainD 60 d = true ∧ plainD 60 (.lst xs) = true then some (.d (.bl (if neg then !xs.any (fun z => eqD z d) else xs.any fun z => eqD z d))) else none
  | _, _ => none
section
variable {X : Cx} {K : PySem.W.Frag}
theorem any_toPs (d : PyData) : ∀ xs : List D, (toPs xs).any (fun z => PyData.eqv z d) = xs.any fun z => PyData.eqv (toP z) d
  | [] => rfl
  | x :: r => by simp only [toPs, List.any_cons, any_toPs d r]
theorem prInP : Pr2 K (rInD K) (gInP false) := by
  intro F H x y d e s Q sm rx ry eg hq
  unfold gInP at eg
  split at eg
  · rename_i xs
    split at eg
    · cases eg
      rename_i h
      refine ⟨_, toPs xs, rx.dp sm 60 h.1, ry.dp sm 60 h.2, plain_shaped h.1, plain_shaped h.2, ?_⟩
      rw [any_toPs]
      exact hq.here sm (.bl _)
    · cases eg
  · cases eg
theorem prNotInP : Pr2 K (rNotInD K) (gInP true) := by
  intro F H x y d e s Q sm rx ry eg hq
  unfold gInP at eg
  split at eg
  · rename_i xs
    split at eg
    · cases eg
      rename_i h
      refine ⟨_, toPs xs, rx.dp sm 60 h.1, ry.dp sm 60 h.2, plain_shaped h.1, plain_shaped h.2, ?_⟩
      rw [any_toPs]
      exact hq.here sm (.bl _)
    · cases eg
  · cases eg
theorem q_inP (K : PySem.W.Frag) {k : Nat} (hr : Room k X.A) (hK : X.K = K := by rfl) : OpR X (compareOp .In) (rInD K) := by subst hK; exact op_inD (by have := hr.un; omega)
theorem q_notInP (K : PySem.W.Frag) {k : Nat} (hr : Room k X.A) (hK : X.K = K := by rfl) : OpR X (compareOp .NotIn) (rNotInD K) := by subst hK; exact op_notInD (by have := hr.un; omega)
end
theorem EqE.gIn {α : Type} [DecidableEq α] {n : Nat} {enc : α → D} (h : EqE n enc) (x : α) (l : List α) (hn : n ≤ 50 := by decide) : gInP false (enc x) (.lst (l.map enc)) = some (.d (.bl (decide (x ∈ l)))) := by
  have h1 : plainD 60 (enc x) = true := plainD_mono (by omega) (h.pl x)
  have h2 : plainD 60 (.lst (l.map enc)) = true := plainD_mono (show n + 1 ≤ 60 by omega) (h.lst.pl l)
  unfold gInP
  dsimp only
  rw [if_pos ⟨h1, h2⟩]
  congr 3
  rw [if_neg (by decide), List.any_map, Bool.eq_iff_iff, List.any_eq_true, decide_eq_true_iff]
  constructor
  · rintro ⟨y, hy, e⟩
    have e : eqD (enc y) (enc x) = true := e
    rw [h.eq] at e
    rw [← of_decide_eq_true e]
    exact hy
  · intro hx
    refine ⟨x, hx, ?_⟩
    show eqD (enc x) (enc x) = true
    rw [h.eq]
    simp
theorem EqE.gInT {α : Type} [DecidableEq α] {n : Nat} {enc : α → D} (h : EqE n enc) {x : α} {l : List α} (hx : x ∈ l) (hn : n ≤ 50 := by decide) : gInP false (enc x) (.lst (l.map enc)) = some (.d (.bl true)) := by rw [h.gIn x l hn, decide_eq_true hx]
theorem EqE.gInF {α : Type} [DecidableEq α] {n : Nat} {enc : α → D} (h : EqE n enc) {x : α} {l : List α} (hx : x ∉ l) (hn : n ≤ 50 := by decide) : gInP false (enc x) (.lst (l.map enc)) = some (.d (.bl false)) := by rw [h.gIn x l hn, decide_eq_false hx]
/-! whole numbers of two rows of bars -/
theorem whole_app {a b : List Bar} (ha : ∀ x ∈ a, BarOk x) (hb : ∀ x ∈ b, BarOk x) : wholeOf (a ++ b) = ((Int.lcm (wholeOf a) (wholeOf b) : Nat) : Int) := by
  have wa := whole_pos ha
  have wb := whole_pos hb
  have wab := whole_pos (app_ok ha hb)
  have h1 : ((Int.lcm (wholeOf a) (wholeOf b) : Nat) : Int) ∣ wholeOf (a ++ b) := by
    have := Int.lcm_dvd (a := wholeOf a) (b := wholeOf b) (c := (wholeOf (a ++ b)).natAbs) (by rw [Int.dvd_natAbs]; exact dvd_app_l a b (by omega)) (by rw [Int.dvd_natAbs]; exact dvd_app_r a b (by omega))
    rw [← Int.dvd_natAbs]
    exact Int.ofNat_dvd.mpr this
  have h2 : wholeOf (a ++ b) ∣ ((Int.lcm (wholeOf a) (wholeOf b) : Nat) : Int) := whole_dvd fun x hx => by
    rcases List.mem_append.mp hx with h | h
    · exact Int.dvd_trans (dvd_whole h) (Int.dvd_lcm_left ..)
    · exact Int.dvd_trans (dvd_whole h) (Int.dvd_lcm_right ..)
  exact Int.dvd_antisymm (by omega) (by omega) h2 h1
/-- a number that leaves c by w and t by m, wherever c and t lie -/
theorem crt_any {c w t m : Int} (hw : 0 < w) (hm : 0 < m) (h3 : m < 2 ^ 60) (hd : ((Int.gcd w m : Nat) : Int) ∣ t - c) : ∃ x, w ∣ x - c ∧ m ∣ x - t := by
  have c0 := Int.emod_nonneg c (Int.ne_of_gt hw)
  have c1 := Int.emod_lt_of_pos c hw
  have hd2 : ((Int.gcd w m : Nat) : Int) ∣ t - c % w := by
    have h1 : ((Int.gcd w m : Nat) : Int) ∣ c - c % w := Int.dvd_trans (Int.gcd_dvd_left ..) (dvd_sub_emod c w)
    have := Int.dvd_add hd h1
    have e : t - c + (c - c % w) = t - c % w := by omega
    rwa [e] at this
  obtain ⟨_, _, h4, h5⟩ := crt c0 c1 hm h3 hd2
  refine ⟨_, ?_, h5⟩
  have h6 := Int.dvd_sub h4 (dvd_sub_emod c w)
  have e : jn (c % w) w t m - c % w - (c - c % w) = jn (c % w) w t m - c := by omega
  rwa [e] at h6
end RL

namespace RL
open PySem PySem.Spec PyProof.Rows L2
/-! in a dict -/
def gInK (neg : Bool) : D → D → Option S
  | .int i, .dK kvs => some (.d (.bl (if neg then !(valV kvs (.inl i)).isSome else (valV kvs (.inl i)).isSome)))
  | _, _ => none
def rInK (neg : Bool) : R2 := fun x y H Q => ∃ i a kvs, x = .int i ∧ y = .ref a ∧ H a = some (.dK kvs) ∧ Q (.bl (if neg then !(valV kvs (.inl i)).isSome else (valV kvs (.inl i)).isSome)) H
section
variable {X : Cx} {K : PySem.W.Frag} {W : WX}
theorem op_inK {k : Nat} (hr : Room k X.A) : OpR X (compareOp .In) (rInK false) := by
  intro pins s σ H x y v u Q I rx ry h
  obtain ⟨i, a, kvs, rfl, rfl, hd, q⟩ := h
  cases ry
  exact d_in (by have := hr.un; omega) I (DGet.k (k := .inl i) hd) rx fun s' I' => ⟨.bl _, H, I', rfl, q⟩
theorem op_notInK {k : Nat} (hr : Room k X.A) : OpR X (compareOp .NotIn) (rInK true) := by
  intro pins s σ H x y v u Q I rx ry h
  obtain ⟨i, a, kvs, rfl, rfl, hd, q⟩ := h
  cases ry
  exact d_notIn (by have := hr.un; omega) I (DGet.k (k := .inl i) hd) rx fun s' I' => ⟨.bl _, H, I', rfl, q⟩
theorem Rp.dK_inv {F : Hp} {v : V} {kvs : List (Key × V)} (h : Rp K F v (.dK kvs)) : ∃ a, v = .ref a ∧ F a = some (.dK kvs) := by cases h; exact ⟨_, rfl, ‹_›⟩
theorem prInK {neg : Bool} : Pr2 K (rInK neg) (gInK neg) := by
  intro F H x y d e s Q sm rx ry eg hq
  unfold gInK at eg
  split at eg
  · cases eg
    obtain ⟨a, rfl, h1⟩ := ry.dK_inv
    exact ⟨_, a, _, rx.int_inv, rfl, sm _ _ h1, hq.here sm (.bl _)⟩
  · cases eg
/-! len(d) -/
def gLenK : List D → Option S
  | [.dK kvs] => some (.d (.int (kvs.length : Nat)))
  | _ => none
theorem prLenK : PrL K (fun xs H Q => ∃ a kvs, xs = [V.ref a] ∧ H a = some (.dK kvs) ∧ Q (.int kvs.length) H) gLenK := by
  intro F H vs ds s Q sm r eg hq
  unfold gLenK at eg
  split at eg
  · cases eg
    obtain ⟨u, rfl, ru⟩ := RpA.one r
    obtain ⟨a, rfl, h1⟩ := ru.dK_inv
    exact ⟨a, _, rfl, sm _ _ h1, hq.here sm (.int _)⟩
  · cases eg
end
/-! dict comprehensions -/
def dcL (g : FG) (ft : FT) (fk fv : FE) (vs : List Nat) : List D → Sl → List (Key × V) → Rs (List (Key × V) × Sl)
  | [], ρ, acc => .ok (acc, ρ)
  | x :: r, ρ, acc => match g x ρ with
    | none => .no
    | some ρ1 => match ft ρ1 with
      | .ok (b, ρ2) => if b = true then (match fk ρ2 with
          | .ok (.int k, ρ3) => (match fv ρ3 with
            | .ok (v, ρ4) => if flatD v = true ∧ acc.length < sizeLine then dcL g ft fk fv vs r (wipeD ρ4 vs) (putK acc (.inl k) (toV v)) else .no
            | _ => .no)
          | _ => .no) else dcL g ft fk fv vs r (wipeD ρ2 vs) acc
      | _ => .no
def dDc (fi : FI) (g : FG) (ft : FT) (fk fv : FE) (vs : List Nat) : FN := fun ρ => fi ρ >>= fun p => dcL g ft fk fv vs p.1 (wipeD p.2 vs) [] >>= fun q => .ok (.o ⟨none, .od q.1⟩, q.2)
theorem dc_walk {J : It} {n : Nat} {G : Hp → Prop} {Y : Nat → Hp → V → Hp → Prop} (w : Walk J n G Y) {g : TG} {tt : TT} {tk tv : TE} {vs : List Nat} {σ : L2.St} {H1 : Hp} {D : Addr} {Qd : Hp → Prop} (Pv : Nat → Hp → Prop) (h0 : Pv 0 (upd H1 D (.dK []))) (hG : ∀ i H, i ≤ n → Pv i H → G H)
    (hs : ∀ i x H H', i < n → Pv i H → Y i H x H' → g x (wipe σ vs) H' fun σ2 H2 => wipe σ2 vs = wipe σ vs ∧ tt σ2 H2 fun b H3 =>
      if b = true then tk σ2 H3 fun y H4 => tv σ2 H4 fun z H5 => ∃ kvs k, y = kV k ∧ H5 D = some (.dK kvs) ∧ kvs.length < sizeLine ∧ Pv (i + 1) (upd H5 D (.dK (putK kvs k z))) else Pv (i + 1) H3) (hd : ∀ H, Pv n H → Qd H) :
    ∃ W : Nat → Nat → Hp → Prop, (∃ m, W 0 m (upd H1 D (.dK []))) ∧ ∀ i m H, W i m H →
      (J.stop i H ∧ Qd H) ∨ (J.go i H ∧ ∃ Nx : Hp → Prop, (∀ H', Nx H' → ∃ m', m' < m ∧ W (i + 1) m' H') ∧ ∀ x H', J.yld i H x H' → g x (wipe σ vs) H' fun σ2 H2 => wipe σ2 vs = wipe σ vs ∧ tt σ2 H2 fun b H3 =>
        if b = true then tk σ2 H3 fun y H4 => tv σ2 H4 fun z H5 => ∃ kvs k, y = kV k ∧ H5 D = some (.dK kvs) ∧ kvs.length < sizeLine ∧ Nx (upd H5 D (.dK (putK kvs k z))) else Nx H3) := by
  -- what is left of the turns goes down
  refine ⟨fun i m H => m + i = n ∧ Pv i H, ⟨n, rfl, h0⟩, fun i m H ⟨e, p⟩ => ?_⟩
  have q := hG i H (by omega) p
  rcases Nat.lt_or_ge i n with hlt | hge
  · exact .inr ⟨w.goes i H hlt q, Pv (i + 1), fun H' p' => ⟨m - 1, by omega, by omega, p'⟩, fun x H' y => hs i x H H' hlt p (w.yields i H x H' hlt q y)⟩
  · obtain rfl : i = n := by omega
    exact .inl ⟨w.stops H q, hd H p⟩
section
variable {X : Cx} {K : PySem.W.Frag} {W : WX} {tg iter kx vx e : Expr} {ifs : List Expr} {pos : Pos} {fi : FI} {g : FG} {ft : FT} {fk fv : FE} {vs : List Nat} {own : List (Str × Nat)} {scope : Scope}
theorem ln_dc {σ : L2.St} {H : Hp} {Q : VK} (h : LN K W (dDc fi g ft fk fv vs) σ H Q) : tDc (LI K W fi) (LG K vs g) (LT K W0 ft) (LE K W0 fk) (LE K W0 fv) vs σ H Q := by
  obtain ⟨F, ρ, r, q⟩ := h
  refine ⟨F, ρ, r, (Post.bind q).mono fun items ρ1 F1 H1 A1 q1 J w D hD => ?_⟩
  dsimp only at q1
  obtain ⟨R0, hR⟩ : ∃ R0, dcL g ft fk fv vs items (wipeD ρ1 vs) [] = R0 := ⟨_, rfl⟩
  rw [hR] at q1
  have r1 : Rel K F1 H1 (wipe σ vs) (wipeD ρ1 vs) := A1.rel.wipe
  have nD : ∀ {σ : L2.St} {ρ : Sl}, Rel K F1 H1 σ ρ → ¬ OwnS σ ρ D := fun r z => by
    obtain ⟨_, o, e⟩ := z.there r
    rw [hD] at e; cases e
  refine dc_walk w (fun i H' => ∃ F' ρ' acc, Aft K F1 H1 (wipe σ vs) (wipeD ρ1 vs) F' H' (wipe σ vs) ρ' ∧ H' D = some (.dK acc) ∧ F' D = none ∧ ¬ OwnS (wipe σ vs) ρ' D ∧ dcL g ft fk fv vs (items.drop i) ρ' acc = R0)
    ⟨F1, _, [], Aft.step r1 (.alloc hD) (Same.alloc r1.sub hD), upd_same, none_of r1.sub hD, nD r1, hR⟩ (fun i H' _ ⟨F', ρ', acc, A, _⟩ => A.tr.ff.trans A.rel.sub) (fun i x H' H'' hi ⟨F', ρ', acc, A, d1, d2, d3, ef⟩ y => ?_) (fun H' ⟨F', ρ', acc, A, d1, d2, d3, ef⟩ => ?_)
  · obtain ⟨d, F2, ed, rd, A2⟩ := y.take A.tr.ff A.rel
    obtain ⟨b1, b2, b3⟩ := A2.stays d1 d2 d3
    refine ⟨F2, ρ', d, A2.rel, rd, ?_⟩
    have e1 : items.drop i = d :: items.drop (i + 1) := by
      rw [List.drop_eq_getElem_cons hi]
      congr 1
      rw [List.getElem?_eq_getElem hi] at ed
      exact Option.some.inj ed
    rw [e1] at ef
    unfold dcL at ef
    rw [← ef] at q1
    cases eg : g d ρ' with
    | none => rw [eg] at q1; exact q1
    | some ρ2 =>
      rw [eg] at q1 ef
      dsimp only at q1 ef
      intro σ2 F3 H3 A3 s3 m3
      have A4 := (A.trans A2).trans A3
      obtain ⟨c1, c2, c3⟩ := A3.stays b1 b2 b3
      have hl2 : σ2.length = σ.length := by rw [s3.1, wipe_length]
      have hw : wipe σ2 vs = wipe σ vs := wipe_eq hl2 s3.2
      refine ⟨hw, F3, ρ2, A3.rel, ?_⟩
      cases et : ft ρ2 with
      | no => rw [et] at q1; exact q1.elim
      | er x y => rw [et] at q1; exact q1.elim
      | ok bp =>
        obtain ⟨b, ρ3⟩ := bp
        rw [et] at q1 ef
        dsimp only at q1 ef
        intro F4 H4 A5
        have A6 := A4.trans A5
        obtain ⟨f1, f2, f3⟩ := A5.stays c1 c2 c3
        dsimp only
        split
        · rename_i hb
          rw [if_pos hb] at q1 ef
          refine ⟨F4, ρ3, A5.rel, ?_⟩
          cases ek : fk ρ3 with
          | no => rw [ek] at q1; exact q1.elim
          | er x y => rw [ek] at q1; exact q1.elim
          | ok kp =>
            obtain ⟨kd, ρ4⟩ := kp
            rw [ek] at q1 ef
            cases kd with
            | int k =>
              dsimp only at q1 ef
              intro F5 H5 A7 kv rk
              obtain ⟨g1, g2, g3⟩ := A7.stays f1 f2 f3
              refine ⟨F5, ρ4, A7.rel, ?_⟩
              cases ee : fv ρ4 with
              | no => rw [ee] at q1; exact q1.elim
              | er x y => rw [ee] at q1; exact q1.elim
              | ok yp =>
                obtain ⟨yd, ρ5⟩ := yp
                rw [ee] at q1 ef
                dsimp only at q1 ef
                intro F6 H6 A8 yv ry
                obtain ⟨i1, i2, i3⟩ := A8.stays g1 g2 g3
                by_cases hz : flatD yd = true ∧ acc.length < sizeLine
                · rw [if_pos hz] at q1 ef
                  have A9 := ((A6.trans A7).trans A8).wipe (vs := vs)
                  rw [hw] at A9
                  have i4 : ¬ OwnS (wipe σ vs) (wipeD ρ5 vs) D := fun z => i3 (by rw [← hw] at z; exact z.unwipe)
                  refine ⟨acc, .inl k, rk.int_inv, i1, hz.2, F6, wipeD ρ5 vs, putK acc (.inl k) yv, A9.mutFree hD i2 i4, upd_same, i2, i4, ?_⟩
                  rw [(ry.flat hz.1).1]
                  exact ef
                · rw [if_neg hz] at q1; exact q1.elim
            | _ => exact q1.elim
        · rename_i hb
          rw [if_neg hb] at q1 ef
          have A8 := A6.wipe (vs := vs)
          rw [hw] at A8
          exact ⟨F4, wipeD ρ3 vs, acc, A8, f1, f2, fun z => f3 (by rw [← hw] at z; exact z.unwipe), ef⟩
  · rw [List.drop_length] at ef
    unfold dcL at ef
    rw [← ef] at q1
    have A9 := A.unwipe A1.rel.len
    refine q1 F' H' A9 (.ref D) ⟨D, _, rfl, A1.tr.dom D hD, d2, d1, (fun _ z => nomatch z), rfl⟩ (fun p e _ z => ?_)
    cases e
    exact nD A1.rel (by
      rcases A9.ow D z with w | w
      · exact w
      · obtain ⟨i, c, h1, h2⟩ := z
        obtain ⟨v, ev, qv⟩ := A.rel.at_ i _ h1
        have e3 := (wipe_some ev).1
        rw [h2] at e3
        cases e3
        exact absurd ⟨i, c, h1, ev⟩ d3)
theorem dn_dc (hc : X.calm = true) (hN : X.N.Nodup) (hi : DI X K W tg iter fi) (ok : BlkOk X.N X.env.scope scope own)
    (hg : ∀ (s : Shared) (H : Hp) (C : Addr) (cl : List (Str × Addr)) (fp : List Addr), DG (X.blk s H scope (compEnvC scope cl C X.env) fp) K (own.map (·.2)) tg g) (ht : ∀ (s : Shared) (H : Hp) (C : Addr) (cl : List (Str × Addr)) (fp : List Addr), DTs (X.blk s H scope (compEnvC scope cl C X.env) fp) K W0 ifs ft)
    (hk : ∀ (s : Shared) (H : Hp) (C : Addr) (cl : List (Str × Addr)) (fp : List Addr), DE (X.blk s H scope (compEnvC scope cl C X.env) fp) K W0 kx fk) (he : ∀ (s : Shared) (H : Hp) (C : Addr) (cl : List (Str × Addr)) (fp : List Addr), DE (X.blk s H scope (compEnvC scope cl C X.env) fp) K W0 vx fv)
    (hs : ∀ x, foldedSetIterable iter X.env x = pure x := by intro _; rfl) : DN X K W (.DictComp kx vx [⟨tg, iter, ifs, 0⟩] scope pos) (dDc fi g ft fk fv (own.map (·.2))) :=
  ⟨(pe_dc hc hN hi.pi ok (fun s H C cl fp => (hg s H C cl fp).pg) (fun s H C cl fp => (ht s H C cl fp).pt) (fun s H C cl fp => (hk s H C cl fp).pe) (fun s H C cl fp => (he s H C cl fp).pe) hs).weak fun _ _ _ h => ln_dc h⟩
end
/-! dicts of ints, each True -/
def kS (ns : List Int) : List (Key × V) := ns.map fun n => (.inl n, .bl true)
abbrev dS (ns : List Int) : D := .dK (kS ns)
theorem valV_kS (ns : List Int) (i : Int) : (valV (kS ns) (.inl i)).isSome = decide (i ∈ ns) := by
  unfold valV kS
  rw [Option.isSome_map, Bool.eq_iff_iff, List.find?_isSome, decide_eq_true_iff]
  constructor
  · rintro ⟨x, hx, e⟩
    obtain ⟨n, hn, rfl⟩ := List.mem_map.mp hx
    have : (Sum.inl n : Key) = .inl i := by simpa using e
    cases this
    exact hn
  · intro h
    exact ⟨_, List.mem_map.mpr ⟨i, h, rfl⟩, by simp⟩
theorem gInK_S (neg : Bool) (i : Int) (ns : List Int) : gInK neg (.int i) (dS ns) = some (.d (.bl (if neg then !decide (i ∈ ns) else decide (i ∈ ns)))) := by
  unfold gInK
  dsimp only
  rw [valV_kS]
/-- a new one goes behind the others -/
def addS (ns : List Int) (k : Int) : List Int := if k ∈ ns then ns else ns ++ [k]
theorem putK_S (ns : List Int) (k : Int) : putK (kS ns) (.inl k) (.bl true) = kS (addS ns k) := by
  unfold putK addS kS
  have e : ((ns.map fun n => ((.inl n : Key), V.bl true)).any fun kv => decide (kv.1 = .inl k)) = decide (k ∈ ns) := by
    rw [List.any_map, Bool.eq_iff_iff, List.any_eq_true, decide_eq_true_iff]
    constructor
    · rintro ⟨x, hx, h⟩
      have : (Sum.inl x : Key) = .inl k := by simpa using h
      cases this
      exact hx
    · intro h
      exact ⟨k, h, by simp⟩
  rw [e]
  by_cases h : k ∈ ns
  · rw [if_pos (decide_eq_true h), if_pos h, List.map_map]
    apply List.map_congr_left
    intro x _
    simp only [Function.comp]
    split
    · rename_i h2; rw [h2]
    · rfl
  · rw [if_neg (by simpa using h), if_neg h, List.map_append]
    rfl
theorem mem_foldS (l : List Int) : ∀ (ns : List Int) (x : Int), x ∈ l.foldl addS ns ↔ x ∈ ns ∨ x ∈ l := by
  induction l with
  | nil => intro ns x; simp
  | cons a r ih =>
    intro ns x
    rw [List.foldl_cons, ih, List.mem_cons]
    unfold addS
    split
    · rename_i h
      constructor
      · rintro (h1 | h1)
        · exact .inl h1
        · exact .inr (.inr h1)
      · rintro (h1 | rfl | h1)
        · exact .inl h1
        · exact .inl h
        · exact .inr h1
    · rw [List.mem_append, List.mem_singleton]
      constructor
      · rintro ((h1 | h1) | h1)
        · exact .inl h1
        · exact .inr (.inl h1)
        · exact .inr (.inr h1)
      · rintro (h1 | h1 | h1)
        · exact .inl (.inl h1)
        · exact .inl (.inr h1)
        · exact .inr h1
/-- the unlike ones, in the order in which they come -/
def firsts (l : List Int) : List Int := l.foldl addS []
theorem mem_firsts {l : List Int} {x : Int} : x ∈ firsts l ↔ x ∈ l := by
  unfold firsts
  rw [mem_foldS]
  simp
theorem foldS_nodup (l : List Int) : ∀ (ns : List Int), ns.Nodup → (l.foldl addS ns).Nodup := by
  induction l with
  | nil => intro ns h; exact h
  | cons a r ih =>
    intro ns h
    rw [List.foldl_cons]
    refine ih _ ?_
    unfold addS
    split
    · exact h
    · rename_i h1
      rw [List.nodup_append]
      exact ⟨h, by simp, fun x hx y hy e => h1 (by rw [List.mem_singleton.mp hy] at e; rw [← e]; exact hx)⟩
theorem firsts_nodup (l : List Int) : (firsts l).Nodup := foldS_nodup l [] (by simp)
theorem firsts_len (l : List Int) : (firsts l).length ≤ l.length := List.Nodup.length_le_of_subset (firsts_nodup l) fun x hx => mem_firsts.mp hx
theorem dcL_S {g : FG} {ft : FT} {fk fv : FE} {vs : List Nat} {α : Type} (enc : α → D) (b : α → Bool) (key : α → Int) (ρ : Sl) : ∀ (items : List α) (ns : List Int), ns.length + items.length ≤ sizeLine →
    (∀ a ∈ items, ∃ ρ1 ρ2, g (enc a) ρ = some ρ1 ∧ ft ρ1 = .ok (b a, ρ2) ∧ (b a = true → ∃ ρ3 ρ4, fk ρ2 = .ok (.int (key a), ρ3) ∧ fv ρ3 = .ok (.bl true, ρ4) ∧ wipeD ρ4 vs = ρ) ∧ (b a = false → wipeD ρ2 vs = ρ)) →
    dcL g ft fk fv vs (items.map enc) ρ (kS ns) = .ok (kS (((items.filter b).map key).foldl addS ns), ρ)
  | [], ns, _, _ => by simp [dcL]
  | a :: r, ns, hl, h => by
    obtain ⟨ρ1, ρ2, h1, h2, h3, h4⟩ := h a (by simp)
    rw [List.map_cons]
    unfold dcL
    rw [h1]
    dsimp only
    rw [h2]
    dsimp only
    have hl2 : ns.length + (r.length + 1) ≤ sizeLine := by simpa using hl
    cases hb : b a with
    | true =>
      obtain ⟨ρ3, ρ4, h5, h6, h7⟩ := h3 hb
      have ha : (addS ns (key a)).length ≤ ns.length + 1 := by unfold addS; split <;> simp
      have hk : (kS ns).length < sizeLine := by unfold kS; rw [List.length_map]; omega
      rw [if_pos rfl, h5]
      dsimp only
      rw [h6]
      dsimp only
      rw [if_pos ⟨rfl, hk⟩, h7]
      show dcL g ft fk fv vs (r.map enc) ρ (putK (kS ns) (.inl (key a)) (.bl true)) = _
      rw [putK_S, dcL_S enc b key ρ r _ (by omega) fun x hx => h x (by simp [hx])]
      rw [List.filter_cons, if_pos hb, List.map_cons, List.foldl_cons]
    | false =>
      rw [if_neg (by decide), h4 hb, dcL_S enc b key ρ r ns (by omega) fun x hx => h x (by simp [hx]), List.filter_cons, if_neg (by rw [hb]; decide)]
end RL

namespace RL
open PySem PySem.Spec PyProof.Rows L2
theorem swD_true {kx vx : Expr} {gs : List Comprehension} {scope : Scope} {pos py : Pos} {y : Str} {l : Nat} {env : Env} (h1 : env.scope.kind = .function) (h2 : env.scope.names.lookup y = some .local) (h3 : (py.line == pos.line) = true)
    (h4 : (scope.names.any fun (n, k) => n == y && (k == .local || k == .cell)) = false) : swapsWith (.DictComp kx vx gs scope pos) (some (.Name y py)) l env = pure true := by
  have e1 : env.blockKind = .function := by unfold Env.blockKind; rw [h1]; rfl
  have e2 : env.kindOf y = some .local := h2
  unfold swapsWith
  simp only [e1, e2, h4, Expr.pos, h3]
  rfl
section
variable {X : Cx}
theorem ps_setDc {i : Nat} {y : Str} {py pos spos : Pos} {kx vx tg iter : Expr} {ifs : List Expr} {scope : Scope} {own : List (Str × Nat)} {wi : TI} {g : TG} {tt : TT} {tk tv : TE} (hc : X.calm = true) (hN : X.N.Nodup) (hy : X.N[i]? = some y) (hyl : X.env.scope.names.lookup y = some .local)
    (hsw : swapsWith (.DictComp kx vx [⟨tg, iter, ifs, 0⟩] scope pos) (some (.Name y py)) spos.line X.env = pure true) (hi : PI X tg iter wi) (ok : BlkOk X.N X.env.scope scope own)
    (hg : ∀ (s : Shared) (H : Hp) (C : Addr) (cl : List (Str × Addr)) (fp : List Addr), PG (X.blk s H scope (compEnvC scope cl C X.env) fp) tg g) (ht : ∀ (s : Shared) (H : Hp) (C : Addr) (cl : List (Str × Addr)) (fp : List Addr), PTs (X.blk s H scope (compEnvC scope cl C X.env) fp) ifs tt)
    (hk : ∀ (s : Shared) (H : Hp) (C : Addr) (cl : List (Str × Addr)) (fp : List Addr), PE (X.blk s H scope (compEnvC scope cl C X.env) fp) kx tk) (he : ∀ (s : Shared) (H : Hp) (C : Addr) (cl : List (Str × Addr)) (fp : List Addr), PE (X.blk s H scope (compEnvC scope cl C X.env) fp) vx tv)
    (hs : ∀ x, foldedSetIterable iter X.env x = pure x := by intro _; rfl) : PS X (.Assign [.Name y py] (.DictComp kx vx [⟨tg, iter, ifs, 0⟩] scope pos) spos) (tAsg (tDc wi g tt tk tv (own.map (·.2))) (gName i)) := by
  constructor
  intro pins s σ H D I h
  rw [exec_Assign_Name_used _ _ _ _ hsw]
  apply wpAny_bind
  apply wpAny_standAt
  apply wpAny_bind
  have wanted := dc_core (X := X) (pos := pos) (pos' := firstIterPos [⟨tg, iter, ifs, 0⟩] pos) (use := some (assign (.Name y py) X.env)) (Qf := fun _ t => SP X pins D .next t) (Q := fun v H1 => D.nx (σ.set i (some v)) H1) hc hN I hi ok hg ht hk he hs h (fun a C t m G J q ns fp => by
    apply wpAny_assign_Name
    refine store_ok2 (v := V.ref a) J hN hy (.inl hyl) rfl (fun t2 J2 ⟨b, sb, hb⟩ => ?_) (.inr hyl)
    obtain ⟨u0, u1, u2, u3, u4, u5⟩ := fp
    have ne : C ≠ b := hb.elim (fun z => z ▸ u1) fun z e => u4 y b z e.symm
    exact ⟨m, ns.sameBut sb ne, fun h3 s3 => ⟨_, G, J2.turned (t' := t2.toks) (fun c o hc e => (s3.2 c hc).trans e) u0 u1 u3 u4 u5, q⟩⟩)
  exact wpAny_bind (m := comprehension (.DictComp kx vx [⟨tg, iter, ifs, 0⟩] scope pos) scope X.env (firstIterPos [⟨tg, iter, ifs, 0⟩] pos) newDict false (eval iter X.env) (some (assign (.Name y py) X.env))) (wpAny_mono wanted (fun _ t q => wpAny_pure (wpAny_pure q)) fun _ _ z => z)
end
section
variable {X : Cx} {K : PySem.W.Frag} {W : WX} {tg iter kx vx e o k value : Expr} {ifs : List Expr} {pos : Pos} {fi : FI} {g : FG} {ft : FT} {fk fv : FE} {own : List (Str × Nat)} {scope : Scope}
theorem ds_setDcF {i : Nat} {y : Str} {py spos : Pos} (hc : X.calm = true) (hN : X.N.Nodup) (hy : X.N[i]? = some y) (hyl : X.env.scope.names.lookup y = some .local)
    (hsw : swapsWith (.DictComp kx vx [⟨tg, iter, ifs, 0⟩] scope pos) (some (.Name y py)) spos.line X.env = pure true) (hi : DI X K W tg iter fi) (ok : BlkOk X.N X.env.scope scope own)
    (hg : ∀ (s : Shared) (H : Hp) (C : Addr) (cl : List (Str × Addr)) (fp : List Addr), DG (X.blk s H scope (compEnvC scope cl C X.env) fp) K (own.map (·.2)) tg g) (ht : ∀ (s : Shared) (H : Hp) (C : Addr) (cl : List (Str × Addr)) (fp : List Addr), DTs (X.blk s H scope (compEnvC scope cl C X.env) fp) K W0 ifs ft)
    (hk : ∀ (s : Shared) (H : Hp) (C : Addr) (cl : List (Str × Addr)) (fp : List Addr), DE (X.blk s H scope (compEnvC scope cl C X.env) fp) K W0 kx fk) (he : ∀ (s : Shared) (H : Hp) (C : Addr) (cl : List (Str × Addr)) (fp : List Addr), DE (X.blk s H scope (compEnvC scope cl C X.env) fp) K W0 vx fv)
    (hs : ∀ x, foldedSetIterable iter X.env x = pure x := by intro _; rfl) : DS X K W (.Assign [.Name y py] (.DictComp kx vx [⟨tg, iter, ifs, 0⟩] scope pos) spos) (sSet i (fz (dDc fi g ft fk fv (own.map (·.2))))) :=
  ⟨(ps_setDc hc hN hy hyl hsw hi.pi ok (fun s H C cl fp => (hg s H C cl fp).pg) (fun s H C cl fp => (ht s H C cl fp).pt) (fun s H C cl fp => (hk s H C cl fp).pe) (fun s H C cl fp => (he s H C cl fp).pe) hs).weak fun _ _ _ h => ln_dc (ln_of_fz (ls_set h))⟩
/-! xs[k] += e, xs a list of ints, k from 0 on -/
def rGetN : V → V → Hp → VK → Prop := fun o i H Q => ∃ (p : Addr) (xs : List V) (j : Nat) (v : V), o = .ref p ∧ i = .int (j : Nat) ∧ H p = some (.lst xs) ∧ xs[j]? = some v ∧ Q v H
theorem get_listN : PGet X rGetN := by
  intro pins s σ H o i ov iv Q I ro ri h
  obtain ⟨p, xs, j, v, rfl, rfl, hp, hj, q⟩ := h
  cases ro
  obtain ⟨t, rfl⟩ := ri
  obtain ⟨its, n, r, e, z⟩ := I.lst hp
  obtain ⟨w, ew, rw'⟩ := r.get hj
  have hjl : j < xs.length := (List.getElem?_eq_some_iff.mp hj).1
  have hz : (j : Int) < 2 ^ 63 := by
    have : (sizeLine : Nat) = 2 ^ 24 := rfl
    omega
  exact wpAny_getItem_list (x := w) ⟨_, e, rfl, n, rfl⟩ (by omega) (by simpa using hz) (by simpa using ew) ⟨v, H, I, rw', q⟩
def sAugIx (i : Nat) (h : Int → Int → Int) (fk fv : FE) : FS := fun ρ => match olAt ρ i with
  | none => .no
  | some _ => fk ρ >>= fun k => match k.1, olAt k.2 i with
    | .int z, some (_, xs) => if 0 ≤ z then (match xs[z.toNat]? with
        | some (.int m) => fv k.2 >>= fun v => (match v.1, olAt v.2 i with
          | .int n, some (t, ys) => if z.toNat < ys.length then .ok (.nx (v.2.set i (some (.o ⟨t, .ol (ys.set z.toNat (.int (h m n)))⟩)))) else .no
          | _, _ => .no)
        | _ => .no) else .no
    | _, _ => .no
theorem ds_augIx {i : Nat} {h : Int → Int → Int} {st : Stmt} (ho : PE X o (tVar i)) (hk : DE X K W k fk) (hv : DE X K W value fv)
    (hp : ∀ {to ti te : TE}, PE X o to → PE X k ti → PE X value te → PS X st (tAugS to ti te rGetN (ipI h) L2.rSetL)) : DS X K W st (sAugIx i h fk fv) :=
  ⟨(hp ho hk.pe hv.pe).weak fun D σ H ⟨F, ρ, rl, q⟩ => by
    unfold sAugIx at q
    cases e1 : olAt ρ i with
    | none => rw [e1] at q; exact q.elim
    | some tx =>
      rw [e1] at q
      obtain ⟨p, ob, ev, g1, g2, g3⟩ := own_at rl (olAt_some (t := tx.1) (xs := tx.2) e1)
      refine ⟨.ref p, ev, F, ρ, rl, (PostS.bind q).mono fun z ρ1 F1 H1 A1 q1 w rw' => ?_⟩
      cases z with
      | int zi =>
       cases e2 : olAt ρ1 i with
       | none => dsimp only at q1; rw [e2] at q1; exact q1.elim
       | some tx2 =>
        obtain ⟨t, xs⟩ := tx2
        dsimp only at q1
        rw [e2] at q1
        dsimp only at q1
        obtain ⟨p2, ob2, ev2, k1, k2, k3⟩ := own_at A1.rel (olAt_some e2)
        rw [ev] at ev2
        cases ev2
        obtain ⟨kt, vs2, rfl, rx2⟩ := k3.lst_inv
        by_cases hz : 0 ≤ zi
        · rw [if_pos hz] at q1
          cases em : xs[zi.toNat]? with
          | none => rw [em] at q1; exact q1.elim
          | some md =>
            rw [em] at q1
            cases md with
            | int m =>
              dsimp only at q1
              obtain ⟨u, eu, ru⟩ := rx2.get' em
              have ei : w = .int ((zi.toNat : Nat) : Int) := by rw [rw'.int_inv, Int.toNat_of_nonneg hz]
              refine ⟨p, vs2, zi.toNat, u, rfl, ei, k2, eu, F1, ρ1, A1.rel, (PostS.bind q1).mono fun nd ρ2 F2 H2 A2 q2 x rx => ?_⟩
              cases nd with
              | int n =>
               cases e3 : olAt ρ2 i with
               | none => dsimp only at q2; rw [e3] at q2; exact q2.elim
               | some ty =>
                obtain ⟨t2, ys⟩ := ty
                dsimp only at q2
                rw [e3] at q2
                dsimp only at q2
                by_cases hy : zi.toNat < ys.length
                · rw [if_pos hy] at q2
                  obtain ⟨p3, ob3, ev3, l1, l2, l3⟩ := own_at A2.rel (olAt_some e3)
                  rw [ev] at ev3
                  cases ev3
                  obtain ⟨lt, vs3, rfl, rx3⟩ := l3.lst_inv
                  refine ⟨m, n, ru.int_inv, rx.int_inv, p, vs3, ((zi.toNat : Nat) : Int), zi.toNat, rfl, ei, l2, ?_, ?_⟩
                  · unfold ixN
                    rw [if_pos (by omega), if_pos (by rw [rx3.len]; omega)]
                    exact congrArg some (Int.toNat_natCast _)
                  · exact q2 σ F2 _ (aft_mut (c' := ⟨t2, .ol (ys.set zi.toNat (.int (h m n)))⟩) (o' := .lst (vs3.set zi.toNat (.int (h m n)))) A2.rel (olAt_some e3) ev ⟨lt, RpA.set zi.toNat rx3 (.int _)⟩)
                · rw [if_neg hy] at q2; exact q2.elim
              | _ => exact q2.elim
            | _ => exact q1.elim
        · rw [if_neg hz] at q1; exact q1.elim
      | _ => exact q1.elim⟩
end
/-! sorted(d), all keys ints -/
section
variable {X : Cx} {K : PySem.W.Frag}
def rSortD : List V → Hp → VK → Prop := fun vs H Q => ∃ (a : Addr) (kvs : List (Key × V)) (ks : List Int), vs = [.ref a] ∧ H a = some (.dK kvs) ∧ kvs.map (·.1) = ks.map Sum.inl ∧ ∀ (ys : List Int) (p : Addr), ys.Perm ks → ys.Pairwise (· ≤ ·) → H p = none → Q (.ref p) (upd H p (.lst (ys.map V.int)))
theorem cr_sortD (hc : X.calm = true) : CallR X (.builtin "sorted") rSortD := by
  intro pins s σ H vs us Q I r h
  obtain ⟨a, kvs, ks, rfl, ha, hk, q⟩ := h
  rw [Vals.ref1 r]
  obtain ⟨z, lo, ds, rel, dd⟩ := dk_of I.hok ha
  obtain ⟨ep, at_⟩ := dd.dictAt
  have keys : ds.map (·.1) = ks.map Sum.inl := rel.keys.symm.trans hk
  have hlen : ds.length = ks.length := by
    have := congrArg List.length keys
    simpa using this
  have hz : ds.length ≤ sizeLine := by
    have h1 : kvs.length = ks.length := by
      have := congrArg List.length hk
      simpa using this
    omega
  refine sorted_by (fun vs s1 => (∃ h' tk, s1 = { s with heap := h', toks := tk } ∧ ∀ b o, s.heap.get? b = some o → h'.get? b = some o) ∧ IntsAre vs ks ∧ vs.length ≤ sizeLine)
    (fun E' R hR => PySem.W.kdu_collect (A := X.A.in1) (PySem.W.kdl_dict (knd := mixKind X.prog X.w) (kvs := ds) (ep := ep) lo) (by simpa using I.ok.hd hc) at_ hz fun h' tk acc keep hacc => hR _ _ ⟨⟨h', tk, rfl, keep⟩, ?_, ?_⟩) fun vs s1 hcd => ?_
  · refine ints_each (by rw [Array.length_toList, hacc.1, hlen]) fun j v e => ?_
    obtain ⟨k, x, e1, e2⟩ := hacc.2 j v (by rwa [Array.getElem?_toList] at e)
    have e3 : (ds.map (·.1))[j]? = some k := by rw [List.getElem?_map, e1]; rfl
    rw [keys, List.getElem?_map] at e3
    obtain ⟨y, ey, rfl⟩ : ∃ y, ks[j]? = some y ∧ Sum.inl y = k := by
      cases e4 : ks[j]? with
      | none => rw [e4] at e3; cases e3
      | some y => rw [e4] at e3; exact ⟨y, rfl, Option.some.inj e3⟩
    rcases keyIs_shape (show keyIs (Sum.inl y) v = true from e2) with ⟨i, t, ek, ev⟩ | ⟨u, t, ek, ev⟩
    · cases ek; exact ⟨y, t, ey, ev⟩
    · cases ek
  · rw [Array.length_toList, hacc.1]; exact hz
  · obtain ⟨⟨h', tk, rfl, keep⟩, i1, i2⟩ := hcd
    refine ⟨ks, i1, i2, fun out ns' c h2 o1 o2 o3 o4 o5 => ?_⟩
    have I1 : Inv X pins σ H { s with heap := h', toks := tk } := I.kept keep
    have len : (ns'.map V.int).length ≤ sizeLine := by rw [List.length_map, o2.length_eq, ← hlen]; exact hz
    exact ⟨.ref h'.objs.size, upd H h'.objs.size (.lst (ns'.map V.int)), I1.laid (t' := tk) o5 (Nat.le_refl _) ⟨len, out, c, vals_of_ints o1, o4⟩, rfl, q ns' _ o2 o3 (I1.hok.fresh (Nat.le_refl _))⟩
def keyI : Key → Option Int
  | .inl i => some i
  | .inr _ => none
noncomputable def gSortD : List D → Option S
  | [.dK kvs] => (kvs.mapM fun kv => keyI kv.1).bind fun ks => some (.o (oL ((sortI ks).map .int)))
  | _ => none
theorem keys_of : ∀ {kvs : List (Key × V)} {ks : List Int}, (kvs.mapM fun kv => keyI kv.1) = some ks → kvs.map (·.1) = ks.map Sum.inl
  | [], ks, h => by
    have : ks = [] := by simpa using h.symm
    subst this; rfl
  | (k, v) :: r, ks, h => by
    rw [List.mapM_cons] at h
    cases k with
    | inl i =>
      cases e : r.mapM fun kv => keyI kv.1 with
      | none => rw [e] at h; cases h
      | some ls =>
        rw [e] at h
        cases h
        rw [List.map_cons, keys_of (kvs := r) e]
        rfl
    | inr x => cases h
theorem sorted_uniq {l m : List Int} (h : l.Perm m) (h1 : l.Pairwise (· ≤ ·)) (h2 : m.Pairwise (· ≤ ·)) : l = m := List.Perm.eq_of_pairwise (fun a b _ _ h3 h4 => Int.le_antisymm h3 h4) h1 h2 h
theorem prSortD : PrL K rSortD gSortD := by
  intro F H vs ds s Q sm r eg hq
  unfold gSortD at eg
  split at eg
  · rename_i kvs
    cases e : kvs.mapM fun kv => keyI kv.1 with
    | none => rw [e] at eg; cases eg
    | some ks =>
      rw [e] at eg
      cases eg
      obtain ⟨u, rfl, ru⟩ := RpA.one r
      obtain ⟨a, rfl, h1⟩ := ru.dK_inv
      refine ⟨a, kvs, ks, rfl, sm _ _ h1, keys_of e, fun ys p h2 h3 hp => ?_⟩
      obtain rfl : ys = sortI ks := sorted_uniq (h2.trans (sortI_perm ks).symm) h3 (sortI_sorted ks)
      exact hq.newL sm hp RpA.ints
  · cases eg
theorem keyI_S : ∀ ns : List Int, ((kS ns).mapM fun kv => keyI kv.1) = some ns
  | [] => rfl
  | n :: r => by
    show (List.mapM (fun kv : Key × V => keyI kv.1) ((.inl n, .bl true) :: kS r)) = _
    rw [List.mapM_cons, keyI_S r]
    rfl
theorem gSortD_S (ns : List Int) : gSortD [dS ns] = some (.o (oL ((sortI ns).map .int))) := by
  unfold gSortD
  dsimp only
  rw [keyI_S]
  rfl
end
theorem sort_firsts (l : List Int) : sortI (firsts l) = uniq l := (uniq_eq (sortI_asc (firsts_nodup l)) fun x => by rw [sortI_mem, mem_firsts]).symm
end RL

namespace RL
open PySem PySem.Spec PyProof.Rows L2
/-! The greatest number by which all leave one rest. -/
def gcdL (o g : Int) (l : List Int) : Int := l.foldl (fun g n => ((Int.gcd g (n - o) : Nat) : Int)) g
theorem gcdL_pos (o : Int) : ∀ (l : List Int) (g : Int), 0 < g → 0 < gcdL o g l
  | [], _, h => h
  | n :: l, g, h => gcdL_pos o l _ (gcd_pos_of h)
theorem gcdL_le (o : Int) : ∀ (l : List Int) (g : Int), 0 < g → gcdL o g l ≤ g
  | [], g, _ => Int.le_refl g
  | n :: l, g, h => Int.le_trans (gcdL_le o l _ (gcd_pos_of h)) (Int.le_of_dvd h (Int.gcd_dvd_left ..))
theorem gcdL_dvd {m : Int} (o : Int) : ∀ (l : List Int) (g : Int), m ∣ gcdL o g l ↔ m ∣ g ∧ ∀ n ∈ l, m ∣ n - o
  | [], g => by simp [gcdL]
  | n :: l, g => by
    have e : gcdL o g (n :: l) = gcdL o ((Int.gcd g (n - o) : Nat) : Int) l := rfl
    rw [e, gcdL_dvd o l]
    constructor
    · rintro ⟨h1, h2⟩
      refine ⟨Int.dvd_trans h1 (Int.gcd_dvd_left ..), fun x hx => ?_⟩
      rcases List.mem_cons.mp hx with rfl | hx
      · exact Int.dvd_trans h1 (Int.gcd_dvd_right ..)
      · exact h2 x hx
    · rintro ⟨h1, h2⟩
      exact ⟨Int.dvd_coe_gcd h1 (h2 n (by simp)), fun x hx => h2 x (by simp [hx])⟩
theorem gcdL_head {o g : Int} (hg : 0 < g) (l : List Int) : gcdL o g (o :: l) = gcdL o g l := by
  have e : ((Int.gcd g (o - o) : Nat) : Int) = g := by
    rw [Int.sub_self, Int.gcd_zero_right]
    omega
  show gcdL o ((Int.gcd g (o - o) : Nat) : Int) l = _
  rw [e]
def sureG (bs : List Bar) : Int := gcdL ((ownOf bs).headD 0) (wholeOf bs) (ownOf bs)
/-- just one rest is left -/
theorem firsts_one {l : List Int} {a : Int} (h : l.head? = some a) : (firsts l).length = 1 ↔ ∀ x ∈ l, x = a := by
  have ha : a ∈ l := List.mem_of_head? h
  constructor
  · intro h1 x hx
    obtain ⟨b, hb⟩ := List.length_eq_one_iff.mp h1
    have := mem_firsts.mpr ha
    have h2 := mem_firsts.mpr hx
    rw [hb, List.mem_singleton] at this h2
    rw [h2, this]
  · intro h1
    have hs : firsts l ⊆ [a] := fun x hx => by rw [h1 x (mem_firsts.mp hx)]; simp
    have h2 := List.Nodup.length_le_of_subset (firsts_nodup l) hs
    have h3 := List.length_pos_of_mem (mem_firsts.mpr ha)
    simp at h2
    omega
theorem sure_iff {bs : List Bar} {o m : Int} {l : List Int} (ho : ownOf bs = o :: l) (hm : 0 < m) : sureG bs % m = 0 ↔ wholeOf bs % m = 0 ∧ (firsts ((ownOf bs).map (· % m))).length = 1 := by
  have e : (ownOf bs).headD 0 = o := by rw [ho]; rfl
  rw [← Int.dvd_iff_emod_eq_zero, ← Int.dvd_iff_emod_eq_zero, firsts_one (a := o % m) (by rw [ho]; rfl)]
  unfold sureG
  rw [gcdL_dvd, e]
  constructor
  · rintro ⟨h1, h2⟩
    refine ⟨h1, fun x hx => ?_⟩
    obtain ⟨n, hn, rfl⟩ := List.mem_map.mp hx
    exact Int.emod_eq_emod_iff_emod_sub_eq_zero.mpr (Int.emod_eq_zero_of_dvd (h2 n hn))
  · rintro ⟨h1, h2⟩
    refine ⟨h1, fun n hn => Int.dvd_of_emod_eq_zero (Int.emod_eq_emod_iff_emod_sub_eq_zero.mp (h2 _ (List.mem_map.mpr ⟨n, hn, rfl⟩)))⟩
end RL

namespace RL
open PySem PySem.Spec PyProof.Rows L2
/-! the rests that the fitting numbers leave by a modulus -/
def gW (bs : List Bar) (m : Int) : Int := ((Int.gcd (wholeOf bs) m : Nat) : Int)
def restsBy (bs : List Bar) (m : Int) : List Int := (zr m.toNat).filter fun r => decide (r % gW bs m ∈ (ownOf bs).map (· % gW bs m))
def idleL (bs : List Bar) (b : Bar) : List Int := b.2.filter fun r => !decide (r ∈ (ownOf bs).map (· % b.1))
def sureD (bs : List Bar) (m : Int) : D := if sureG bs % m = 0 then .int ((ownOf bs).headD 0 % m) else .non
theorem mem_restsBy {bs : List Bar} {m r : Int} (hm : 0 < m) : r ∈ restsBy bs m ↔ 0 ≤ r ∧ r < m ∧ r % gW bs m ∈ (ownOf bs).map (· % gW bs m) := by
  unfold restsBy
  rw [List.mem_filter, mem_zr, decide_eq_true_iff]
  constructor
  · rintro ⟨h1, h2⟩; exact ⟨by omega, by omega, h2⟩
  · rintro ⟨h1, h2, h3⟩; exact ⟨by omega, h3⟩
theorem restsBy_nodup (bs : List Bar) (m : Int) : (restsBy bs m).Nodup := ((zr_asc m.toNat).imp (fun h => Int.ne_of_lt h)).filter _
theorem rests_one {bs : List Bar} {m o : Int} {l : List Int} (hw : 0 < wholeOf bs) (hm : 0 < m) (ho : ownOf bs = o :: l) : ((restsBy bs m).length = 1 ↔ sureG bs % m = 0) ∧ (sureG bs % m = 0 → restsBy bs m = [o % m]) := by
  have g0 : 0 < gW bs m := gcd_pos_of hw
  have gm : gW bs m ∣ m := Int.gcd_dvd_right ..
  have gw : gW bs m ∣ wholeOf bs := Int.gcd_dvd_left ..
  have oo : o ∈ ownOf bs := by rw [ho]; simp
  have key : sureG bs % m = 0 → restsBy bs m = [o % m] := fun h => by
    obtain ⟨h1, h2⟩ := (sure_iff ho hm).mp h
    rw [firsts_one (a := o % m) (by rw [ho]; rfl)] at h2
    have eg : gW bs m = m := by
      have : m ∣ gW bs m := Int.dvd_coe_gcd (Int.dvd_of_emod_eq_zero h1) (Int.dvd_refl m)
      exact Int.le_antisymm (Int.le_of_dvd hm gm) (Int.le_of_dvd g0 this)
    have hin : o % m ∈ restsBy bs m := (mem_restsBy hm).mpr ⟨Int.emod_nonneg _ (by omega), Int.emod_lt_of_pos _ hm, by rw [eg, Int.emod_emod]; exact List.mem_map.mpr ⟨o, oo, rfl⟩⟩
    have hs : restsBy bs m ⊆ [o % m] := fun r hr => by
      obtain ⟨r0, r1, r2⟩ := (mem_restsBy hm).mp hr
      rw [eg, Int.emod_eq_of_lt r0 r1] at r2
      rw [h2 r r2]
      simp
    have hl := List.Nodup.length_le_of_subset (restsBy_nodup bs m) hs
    have hp := List.length_pos_of_mem hin
    obtain ⟨a, ha⟩ := List.length_eq_one_iff.mp (show (restsBy bs m).length = 1 by simp at hl; omega)
    rw [ha] at hin ⊢
    rw [List.mem_singleton.mp hin]
  refine ⟨⟨fun h => ?_, fun h => by rw [key h]; rfl⟩, key⟩
  obtain ⟨d, hd⟩ := List.length_eq_one_iff.mp h
  have sm : o % gW bs m ∈ (ownOf bs).map (· % gW bs m) := List.mem_map.mpr ⟨o, oo, rfl⟩
  have r0 := Int.emod_nonneg o (Int.ne_of_gt g0)
  have r1 := Int.emod_lt_of_pos o g0
  have gle := Int.le_of_dvd hm gm
  have eg : gW bs m = m := by
    obtain ⟨c, hc⟩ := gm
    by_cases hne : gW bs m = m
    · exact hne
    · exfalso
      have c2 : 2 ≤ c := by
        by_cases h0 : c ≤ 0
        · have := Int.mul_nonpos_of_nonneg_of_nonpos (Int.le_of_lt g0) h0
          omega
        · by_cases h1 : c = 1
          · rw [h1] at hc; omega
          · omega
      have h2 : 2 * gW bs m ≤ m := by
        rw [Int.mul_comm] at hc
        have := Int.mul_le_mul_of_nonneg_right c2 (Int.le_of_lt g0)
        omega
      have i1 : o % gW bs m ∈ restsBy bs m := (mem_restsBy hm).mpr ⟨r0, by omega, by rw [Int.emod_emod]; exact sm⟩
      have i2 : o % gW bs m + gW bs m ∈ restsBy bs m := (mem_restsBy hm).mpr ⟨by omega, by omega, by rw [Int.add_emod_right, Int.emod_emod]; exact sm⟩
      rw [hd, List.mem_singleton] at i1 i2
      omega
  refine (sure_iff ho hm).mpr ⟨Int.emod_eq_zero_of_dvd (eg ▸ gw), (firsts_one (a := o % m) (by rw [ho]; rfl)).mpr fun x hx => ?_⟩
  have hin : ∀ n ∈ ownOf bs, n % m = d := fun n hn => by
    have : n % m ∈ restsBy bs m := (mem_restsBy hm).mpr ⟨Int.emod_nonneg _ (by omega), Int.emod_lt_of_pos _ hm, by rw [eg, Int.emod_emod]; exact List.mem_map.mpr ⟨n, hn, rfl⟩⟩
    rw [hd, List.mem_singleton] at this
    exact this
  obtain ⟨n, hn, rfl⟩ := List.mem_map.mp hx
  show n % m = o % m
  rw [hin n hn, hin o oo]
end RL

namespace RL
open PySem PySem.Spec PyProof.Rows L2
/-! list comprehensions of two clauses -/
/-- a walk whose turn asks T of what comes next: the turns left go down -/
theorem walk_turns {J : It} {n : Nat} {G : Hp → Prop} {Y : Nat → Hp → V → Hp → Prop} (w : Walk J n G Y) {T : (Hp → Prop) → V → Hp → Prop} {H0 : Hp} {Qd : Hp → Prop} (Pv : Nat → Hp → Prop) (h0 : Pv 0 H0) (hG : ∀ i H, i ≤ n → Pv i H → G H)
    (hs : ∀ i x H H', i < n → Pv i H → Y i H x H' → T (Pv (i + 1)) x H') (hd : ∀ H, Pv n H → Qd H) :
    ∃ W : Nat → Nat → Hp → Prop, (∃ m, W 0 m H0) ∧ ∀ i m H, W i m H → (J.stop i H ∧ Qd H) ∨ (J.go i H ∧ ∃ Nx : Hp → Prop, (∀ H', Nx H' → ∃ m', m' < m ∧ W (i + 1) m' H') ∧ ∀ x H', J.yld i H x H' → T Nx x H') := by
  refine ⟨fun i m H => m + i = n ∧ Pv i H, ⟨n, rfl, h0⟩, fun i m H ⟨e, p⟩ => ?_⟩
  have q := hG i H (by omega) p
  rcases Nat.lt_or_ge i n with hlt | hge
  · exact .inr ⟨w.goes i H hlt q, Pv (i + 1), fun H' p' => ⟨m - 1, by omega, by omega, p'⟩, fun x H' y => hs i x H H' hlt p (w.yields i H x H' hlt q y)⟩
  · obtain rfl : i = n := by omega
    exact .inl ⟨w.stops H q, hd H p⟩
def lcL2 (g : FG) (ft : FT) (fi1 : FI) (g1 : FG) (ft1 : FT) (fe : FE) (vs vs1 : List Nat) : List D → Sl → List D → Rs (List D × Sl)
  | [], ρ, acc => .ok (acc, ρ)
  | x :: r, ρ, acc => match g x ρ with
    | none => .no
    | some ρ1 => match ft ρ1 with
      | .ok (b, ρ2) => if b = true then (match fi1 ρ2 with
          | .ok (items1, ρ3) => (match lcL g1 ft1 fe vs1 items1 (wipeD ρ3 vs1) acc with
            | .ok (acc', ρ4) => lcL2 g ft fi1 g1 ft1 fe vs vs1 r (wipeD ρ4 vs) acc'
            | _ => .no)
          | _ => .no) else lcL2 g ft fi1 g1 ft1 fe vs vs1 r (wipeD ρ2 vs) acc
      | _ => .no
def dLc2 (fi : FI) (g : FG) (ft : FT) (fi1 : FI) (g1 : FG) (ft1 : FT) (fe : FE) (vs vs1 : List Nat) : FN := fun ρ => fi ρ >>= fun p => lcL2 g ft fi1 g1 ft1 fe vs vs1 p.1 (wipeD p.2 vs) [] >>= fun q => .ok (.o (oL q.1), q.2)
theorem drop_at {α : Type} {items : List α} {i : Nat} {d : α} (hi : i < items.length) (ed : items[i]? = some d) : items.drop i = d :: items.drop (i + 1) := by
  rw [List.drop_eq_getElem_cons hi]
  congr 1
  rw [List.getElem?_eq_getElem hi] at ed
  exact Option.some.inj ed
section
variable {X : Cx} {K : PySem.W.Frag} {W : WX} {tg iter tg1 iter1 elt e : Expr} {ifs ifs1 : List Expr} {pos : Pos} {fi fi1 : FI} {g g1 : FG} {ft ft1 : FT} {fe : FE} {vs vs1 : List Nat}
/-- the inner loop, whose things go behind those that the list at D has -/
theorem lc_in {F0 H0 F1 H1 : Hp} {σ0 σ : L2.St} {ρ0 ρ1 ρ9 : Sl} {J : It} {items : List D} {D : Addr} {ys : List V} {acc acc9 : List RL.D} {Nx : Hp → Prop} (w : WalkF K F1 J items) (A : Aft K F0 H0 σ0 ρ0 F1 H1 (wipe σ vs) ρ1) (h0 : H0 D = none) (d1 : H1 D = some (.lst ys)) (d2 : F1 D = none) (d3 : ¬ OwnS (wipe σ vs) ρ1 D) (d4 : RpA K F1 ys acc)
    (ef : lcL g ft fe vs items ρ1 acc = .ok (acc9, ρ9)) (hN : ∀ F' H' ys', Aft K F0 H0 σ0 ρ0 F' H' (wipe σ vs) ρ9 → H' D = some (.lst ys') → F' D = none → ¬ OwnS (wipe σ vs) ρ9 D → RpA K F' ys' acc9 → Nx H') :
    ∃ W1 : Nat → Nat → Hp → Prop, (∃ m, W1 0 m H1) ∧ ∀ j k H, W1 j k H → (J.stop j H ∧ Nx H) ∨ (J.go j H ∧ ∃ Nx1 : Hp → Prop, (∀ H', Nx1 H' → ∃ k', k' < k ∧ W1 (j + 1) k' H') ∧ ∀ x H', J.yld j H x H' → LG K vs g x (wipe σ vs) H' fun σ3 H5 => wipe σ3 vs = wipe σ vs ∧ LT K W0 ft σ3 H5 fun b H6 =>
        if b = true then LE K W0 fe σ3 H6 fun y H7 => ∃ acc, H7 D = some (.lst acc) ∧ acc.length < sizeLine ∧ Nx1 (upd H7 D (.lst (acc ++ [y]))) else Nx1 H6) := by
  refine walk_turns w (T := fun N x H' => LG K vs g x (wipe σ vs) H' fun σ3 H5 => wipe σ3 vs = wipe σ vs ∧ LT K W0 ft σ3 H5 fun b H6 => if b = true then LE K W0 fe σ3 H6 fun y H7 => ∃ acc, H7 D = some (.lst acc) ∧ acc.length < sizeLine ∧ N (upd H7 D (.lst (acc ++ [y]))) else N H6)
    (fun i H' => ∃ F' ρ' ys acc, Aft K F0 H0 σ0 ρ0 F' H' (wipe σ vs) ρ' ∧ Same F1 F' ∧ H' D = some (.lst ys) ∧ F' D = none ∧ ¬ OwnS (wipe σ vs) ρ' D ∧ RpA K F' ys acc ∧ lcL g ft fe vs (items.drop i) ρ' acc = .ok (acc9, ρ9))
    ⟨F1, ρ1, ys, acc, A, Same.refl _, d1, d2, d3, d4, ef⟩ (fun i H' _ ⟨F', ρ', ys, acc, A, s, _⟩ => s.trans A.rel.sub) (fun i x H' H'' hi ⟨F', ρ', ys, acc, A, sm, d1, d2, d3, d4, ef⟩ y => ?_) (fun H' ⟨F', ρ', ys, acc, A, sm, d1, d2, d3, d4, ef⟩ => ?_)
  · obtain ⟨d, F2, ed, rd, A2⟩ := y.take sm A.rel
    obtain ⟨b1, b2, b3⟩ := A2.stays d1 d2 d3
    refine ⟨F2, ρ', d, A2.rel, rd, ?_⟩
    rw [drop_at hi ed] at ef
    unfold lcL at ef
    cases eg : g d ρ' with
    | none => rw [eg] at ef; cases ef
    | some ρ2 =>
      rw [eg] at ef
      dsimp only at ef
      intro σ2 F3 H3 A3 s3 m3
      obtain ⟨c1, c2, c3⟩ := A3.stays b1 b2 b3
      have hw : wipe σ2 vs = wipe σ vs := wipe_eq (by rw [s3.1, wipe_length]) s3.2
      refine ⟨hw, F3, ρ2, A3.rel, ?_⟩
      cases et : ft ρ2 with
      | no => rw [et] at ef; cases ef
      | er x y => rw [et] at ef; cases ef
      | ok bp =>
        obtain ⟨b, ρ3⟩ := bp
        rw [et] at ef
        dsimp only at ef
        intro F4 H4 A5
        have A6 := ((A.trans A2).trans A3).trans A5
        obtain ⟨f1, f2, f3⟩ := A5.stays c1 c2 c3
        dsimp only
        split
        · rename_i hb
          rw [if_pos hb] at ef
          refine ⟨F4, ρ3, A5.rel, ?_⟩
          cases ee : fe ρ3 with
          | no => rw [ee] at ef; cases ef
          | er x y => rw [ee] at ef; cases ef
          | ok yp =>
            obtain ⟨yd, ρ4⟩ := yp
            rw [ee] at ef
            dsimp only at ef
            intro F5 H5 A7 yv ry
            obtain ⟨g1, g2, g3⟩ := A7.stays f1 f2 f3
            by_cases hz : acc.length < sizeLine
            · rw [if_pos hz] at ef
              have A8 := (A6.trans A7).wipe (vs := vs)
              rw [hw] at A8
              have g4 : ¬ OwnS (wipe σ vs) (wipeD ρ4 vs) D := fun z => g3 (by rw [← hw] at z; exact z.unwipe)
              have s5 := (A2.tr.ff.trans A3.tr.ff).trans (A5.tr.ff.trans A7.tr.ff)
              exact ⟨ys, g1, by rw [d4.len]; exact hz, F5, wipeD ρ4 vs, ys ++ [yv], acc ++ [yd], A8.mutFree h0 g2 g4, sm.trans s5, upd_same, g2, g4, RpA.app (RpA.mono s5 d4) (.cons ry .nil), ef⟩
            · rw [if_neg hz] at ef; cases ef
        · rename_i hb
          rw [if_neg hb] at ef
          have A8 := A6.wipe (vs := vs)
          rw [hw] at A8
          have s5 := (A2.tr.ff.trans A3.tr.ff).trans A5.tr.ff
          exact ⟨F4, wipeD ρ3 vs, ys, acc, A8, sm.trans s5, f1, f2, fun z => f3 (by rw [← hw] at z; exact z.unwipe), RpA.mono s5 d4, ef⟩
  · rw [List.drop_length] at ef
    unfold lcL at ef
    cases ef
    exact hN F' H' ys A d1 d2 d3 d4
theorem lcL2_er : ∀ (items : List RL.D) (ρ : Sl) (acc : List RL.D) (x : Ex) (y : Sl), lcL2 g ft fi1 g1 ft1 fe vs vs1 items ρ acc ≠ .er x y
  | [], _, _, _, _ => fun h => nomatch h
  | a :: r, ρ, acc, x, y => by
    intro h
    unfold lcL2 at h
    split at h
    · cases h
    · split at h
      · split at h
        · split at h
          · split at h
            · exact lcL2_er r _ _ x y h
            · cases h
          · cases h
        · exact lcL2_er r _ _ x y h
      · cases h
theorem wipe_sub {σ : L2.St} (h : ∀ i ∈ vs1, i ∈ vs) : wipe (wipe σ vs1) vs = wipe σ vs := by
  refine wipe_eq (by rw [wipe_length]) fun j hj => ?_
  rw [wipe_keep (fun z => hj (h j z)), wipe_keep hj]
theorem ln_lc2 (hv : ∀ i ∈ vs1, i ∈ vs) {σ : L2.St} {H : Hp} {Q : VK} (h : LN K W (dLc2 fi g ft fi1 g1 ft1 fe vs vs1) σ H Q) : tLc2 (LI K W fi) (LG K vs g) (LT K W0 ft) (LI K W0 fi1) (LG K vs1 g1) (LT K W0 ft1) (LE K W0 fe) vs vs1 σ H Q := by
  obtain ⟨F, ρ, r, q⟩ := h
  refine ⟨F, ρ, r, (Post.bind q).mono fun items ρ1 F1 H1 A1 q1 J w D hD => ?_⟩
  dsimp only at q1
  cases hR : lcL2 g ft fi1 g1 ft1 fe vs vs1 items (wipeD ρ1 vs) [] with
  | no => rw [hR] at q1; exact q1.elim
  | er x y => exact absurd hR (lcL2_er _ _ _ _ _)
  | ok p9 =>
  obtain ⟨acc9, ρ9⟩ := p9
  rw [hR] at q1
  have r1 : Rel K F1 H1 (wipe σ vs) (wipeD ρ1 vs) := A1.rel.wipe
  have nD : ∀ {σ : L2.St} {ρ : Sl}, Rel K F1 H1 σ ρ → ¬ OwnS σ ρ D := fun r z => by
    obtain ⟨_, o, e⟩ := z.there r
    rw [hD] at e; cases e
  refine walk_turns w (T := fun N x H' => LG K vs g x (wipe σ vs) H' fun σ2 H2 => wipe σ2 vs = wipe σ vs ∧ LT K W0 ft σ2 H2 fun b H3 =>
    if b = true then LI K W0 fi1 σ2 H3 fun J1 H4 => ∃ W1 : Nat → Nat → Hp → Prop, (∃ m, W1 0 m H4) ∧ ∀ j k H, W1 j k H →
      (J1.stop j H ∧ N H) ∨ (J1.go j H ∧ ∃ Nx1 : Hp → Prop, (∀ H', Nx1 H' → ∃ k', k' < k ∧ W1 (j + 1) k' H') ∧ ∀ x H', J1.yld j H x H' → LG K vs1 g1 x (wipe σ2 vs1) H' fun σ3 H5 => wipe σ3 vs1 = wipe σ2 vs1 ∧ LT K W0 ft1 σ3 H5 fun b H6 =>
        if b = true then LE K W0 fe σ3 H6 fun y H7 => ∃ acc, H7 D = some (.lst acc) ∧ acc.length < sizeLine ∧ Nx1 (upd H7 D (.lst (acc ++ [y]))) else Nx1 H6)
    else N H3)
    (fun i H' => ∃ F' ρ' ys acc, Aft K F1 H1 (wipe σ vs) (wipeD ρ1 vs) F' H' (wipe σ vs) ρ' ∧ H' D = some (.lst ys) ∧ F' D = none ∧ ¬ OwnS (wipe σ vs) ρ' D ∧ RpA K F' ys acc ∧ lcL2 g ft fi1 g1 ft1 fe vs vs1 (items.drop i) ρ' acc = .ok (acc9, ρ9))
    ⟨F1, _, [], [], Aft.step r1 (.alloc hD) (Same.alloc r1.sub hD), upd_same, none_of r1.sub hD, nD r1, .nil, hR⟩ (fun i H' _ ⟨F', ρ', ys, acc, A, _⟩ => A.tr.ff.trans A.rel.sub) (fun i x H' H'' hi ⟨F', ρ', ys, acc, A, d1, d2, d3, d4, ef⟩ y => ?_) (fun H' ⟨F', ρ', ys, acc, A, d1, d2, d3, d4, ef⟩ => ?_)
  · obtain ⟨d, F2, ed, rd, A2⟩ := y.take A.tr.ff A.rel
    obtain ⟨b1, b2, b3⟩ := A2.stays d1 d2 d3
    refine ⟨F2, ρ', d, A2.rel, rd, ?_⟩
    rw [drop_at hi ed] at ef
    unfold lcL2 at ef
    cases eg : g d ρ' with
    | none => rw [eg] at ef; cases ef
    | some ρ2 =>
      rw [eg] at ef
      dsimp only at ef
      intro σ2 F3 H3 A3 s3 m3
      obtain ⟨c1, c2, c3⟩ := A3.stays b1 b2 b3
      have hw : wipe σ2 vs = wipe σ vs := wipe_eq (by rw [s3.1, wipe_length]) s3.2
      refine ⟨hw, F3, ρ2, A3.rel, ?_⟩
      cases et : ft ρ2 with
      | no => rw [et] at ef; cases ef
      | er x y => rw [et] at ef; cases ef
      | ok bp =>
        obtain ⟨b, ρ3⟩ := bp
        rw [et] at ef
        dsimp only at ef
        intro F4 H4 A5
        have A6 := ((A.trans A2).trans A3).trans A5
        obtain ⟨f1, f2, f3⟩ := A5.stays c1 c2 c3
        have s5 := (A2.tr.ff.trans A3.tr.ff).trans A5.tr.ff
        dsimp only
        split
        · rename_i hb
          rw [if_pos hb] at ef
          refine ⟨F4, ρ3, A5.rel, ?_⟩
          cases ei : fi1 ρ3 with
          | no => rw [ei] at ef; cases ef
          | er x y => rw [ei] at ef; cases ef
          | ok ip =>
            obtain ⟨items1, ρ4⟩ := ip
            rw [ei] at ef
            dsimp only at ef
            intro F5 H5 A7 J1 w1
            obtain ⟨g1', g2', g3'⟩ := A7.stays f1 f2 f3
            cases el : lcL g1 ft1 fe vs1 items1 (wipeD ρ4 vs1) acc with
            | no => rw [el] at ef; cases ef
            | er x y => rw [el] at ef; cases ef
            | ok lp =>
              obtain ⟨acc', ρ5⟩ := lp
              rw [el] at ef
              dsimp only at ef
              refine lc_in (σ := σ2) w1 ((A6.trans A7).wipe (vs := vs1)) hD g1' g2' (fun z => g3' z.unwipe) (RpA.mono (s5.trans A7.tr.ff) d4) el fun F' H' ys' A' e1 e2 e3 e4 => ?_
              have A8 := A'.wipe (vs := vs)
              rw [wipe_sub hv, hw] at A8
              exact ⟨F', wipeD ρ5 vs, ys', acc', A8, e1, e2, fun z => e3 (by rw [← hw, ← wipe_sub hv] at z; exact z.unwipe), e4, ef⟩
        · rename_i hb
          rw [if_neg hb] at ef
          have A8 := A6.wipe (vs := vs)
          rw [hw] at A8
          exact ⟨F4, wipeD ρ3 vs, ys, acc, A8, f1, f2, fun z => f3 (by rw [← hw] at z; exact z.unwipe), RpA.mono s5 d4, ef⟩
  · rw [List.drop_length] at ef
    unfold lcL2 at ef
    cases ef
    have A9 := A.unwipe A1.rel.len
    refine q1 F' H' A9 (.ref D) ⟨D, _, rfl, A1.tr.dom D hD, d2, d1, (fun _ z => nomatch z), d4⟩ (fun p e _ z => ?_)
    cases e
    exact nD A1.rel (by
      rcases A9.ow D z with w | w
      · exact w
      · obtain ⟨i, c, h1, h2⟩ := z
        obtain ⟨v, ev, qv⟩ := A.rel.at_ i _ h1
        have e3 := (wipe_some ev).1
        rw [h2] at e3
        cases e3
        exact absurd ⟨i, c, h1, ev⟩ d3)
end
section
variable {X : Cx} {K : PySem.W.Frag} {W : WX} {tg iter tg1 iter1 elt e : Expr} {ifs ifs1 : List Expr} {pos : Pos} {fi fi1 : FI} {g g1 : FG} {ft ft1 : FT} {fe : FE} {own : List (Str × Nat)} {vs1 : List Nat} {scope : Scope}
theorem dn_lc2 (hc : X.calm = true) (hN : X.N.Nodup) (hi : DI X K W tg iter fi) (ok : BlkOk X.N X.env.scope scope own) (hv : ∀ i ∈ vs1, i ∈ own.map (·.2))
    (hg : ∀ (s : Shared) (H : Hp) (C : Addr) (cl : List (Str × Addr)) (fp : List Addr), DG (X.blk s H scope (compEnvC scope cl C X.env) fp) K (own.map (·.2)) tg g) (ht : ∀ (s : Shared) (H : Hp) (C : Addr) (cl : List (Str × Addr)) (fp : List Addr), DTs (X.blk s H scope (compEnvC scope cl C X.env) fp) K W0 ifs ft)
    (hi1 : ∀ (s : Shared) (H : Hp) (C : Addr) (cl : List (Str × Addr)) (fp : List Addr), DI (X.blk s H scope (compEnvC scope cl C X.env) fp) K W0 tg1 iter1 fi1)
    (hg1 : ∀ (s : Shared) (H : Hp) (C : Addr) (cl : List (Str × Addr)) (fp : List Addr), DG (X.blk s H scope (compEnvC scope cl C X.env) fp) K vs1 tg1 g1) (ht1 : ∀ (s : Shared) (H : Hp) (C : Addr) (cl : List (Str × Addr)) (fp : List Addr), DTs (X.blk s H scope (compEnvC scope cl C X.env) fp) K W0 ifs1 ft1)
    (he : ∀ (s : Shared) (H : Hp) (C : Addr) (cl : List (Str × Addr)) (fp : List Addr), DE (X.blk s H scope (compEnvC scope cl C X.env) fp) K W0 elt fe) (hs : ∀ x, foldedSetIterable iter X.env x = pure x := by intro _; rfl) (hs1 : ∀ env x, foldedSetIterable iter1 env x = pure x := by intro _ _; rfl) :
    DN X K W (.ListComp elt [⟨tg, iter, ifs, 0⟩, ⟨tg1, iter1, ifs1, 0⟩] scope pos) (dLc2 fi g ft fi1 g1 ft1 fe (own.map (·.2)) vs1) :=
  ⟨(pe_lc2 hc hN hi.pi ok hv (fun s H C cl fp => (hg s H C cl fp).pg) (fun s H C cl fp => (ht s H C cl fp).pt) (fun s H C cl fp => (hi1 s H C cl fp).pi) (fun s H C cl fp => (hg1 s H C cl fp).pg) (fun s H C cl fp => (ht1 s H C cl fp).pt) (fun s H C cl fp => (he s H C cl fp).pe) hs hs1).weak fun _ _ _ h => ln_lc2 hv h⟩
theorem ds_setLc2F {i : Nat} {y : Str} {py spos : Pos} (hc : X.calm = true) (hN : X.N.Nodup) (hy : X.N[i]? = some y) (hyl : X.env.scope.names.lookup y = some .local)
    (hsw : swapsWith (.ListComp elt [⟨tg, iter, ifs, 0⟩, ⟨tg1, iter1, ifs1, 0⟩] scope pos) (some (.Name y py)) spos.line X.env = pure true) (hi : DI X K W tg iter fi) (ok : BlkOk X.N X.env.scope scope own) (hv : ∀ i ∈ vs1, i ∈ own.map (·.2))
    (hg : ∀ (s : Shared) (H : Hp) (C : Addr) (cl : List (Str × Addr)) (fp : List Addr), DG (X.blk s H scope (compEnvC scope cl C X.env) fp) K (own.map (·.2)) tg g) (ht : ∀ (s : Shared) (H : Hp) (C : Addr) (cl : List (Str × Addr)) (fp : List Addr), DTs (X.blk s H scope (compEnvC scope cl C X.env) fp) K W0 ifs ft)
    (hi1 : ∀ (s : Shared) (H : Hp) (C : Addr) (cl : List (Str × Addr)) (fp : List Addr), DI (X.blk s H scope (compEnvC scope cl C X.env) fp) K W0 tg1 iter1 fi1)
    (hg1 : ∀ (s : Shared) (H : Hp) (C : Addr) (cl : List (Str × Addr)) (fp : List Addr), DG (X.blk s H scope (compEnvC scope cl C X.env) fp) K vs1 tg1 g1) (ht1 : ∀ (s : Shared) (H : Hp) (C : Addr) (cl : List (Str × Addr)) (fp : List Addr), DTs (X.blk s H scope (compEnvC scope cl C X.env) fp) K W0 ifs1 ft1)
    (he : ∀ (s : Shared) (H : Hp) (C : Addr) (cl : List (Str × Addr)) (fp : List Addr), DE (X.blk s H scope (compEnvC scope cl C X.env) fp) K W0 elt fe) (hs : ∀ x, foldedSetIterable iter X.env x = pure x := by intro _; rfl) (hs1 : ∀ env x, foldedSetIterable iter1 env x = pure x := by intro _ _; rfl) :
    DS X K W (.Assign [.Name y py] (.ListComp elt [⟨tg, iter, ifs, 0⟩, ⟨tg1, iter1, ifs1, 0⟩] scope pos) spos) (sSet i (fz (dLc2 fi g ft fi1 g1 ft1 fe (own.map (·.2)) vs1))) :=
  ⟨(ps_setLc2 hc hN hy hyl hsw hi.pi ok hv (fun s H C cl fp => (hg s H C cl fp).pg) (fun s H C cl fp => (ht s H C cl fp).pt) (fun s H C cl fp => (hi1 s H C cl fp).pi) (fun s H C cl fp => (hg1 s H C cl fp).pg) (fun s H C cl fp => (ht1 s H C cl fp).pt) (fun s H C cl fp => (he s H C cl fp).pe) hs hs1).weak fun _ _ _ h => ln_lc2 hv (ln_of_fz (ls_set h))⟩
end
end RL

namespace RL
open PySem PySem.Spec PyProof.Rows L2 PySem.W
/-! sorted and min of a list of tuples of ints -/
abbrev dI (ns : List Int) : PyData := .tuple (ns.map .int)
theorem alike_dI (a b : List Int) : alike (dI a) (dI b) = true := by
  show alikeAll (a.map .int) (b.map .int) = true
  exact alike_ints a b
theorem lt_dI (a b : List Int) : dataLt (dI a) (dI b) = decide (a < b) := by
  rw [dataLt_tuple]
  exact dataLt_ints a b
theorem depth_dI (a : List Int) : (dI a).depth = 1 := by
  show PyData.depthAll (a.map .int) + 1 = 1
  rw [depth_ints]
/-- one of the order, for tuples: not above -/
def leL (a b : List Int) : Bool := decide (a ≤ b)
theorem le_dI {β : Type} (f : β → List Int) : dataLe false (fun b => dI (f b)) = fun p q => leL (f p) (f q) := by
  funext p q
  show (!dataLt (dI (f q)) (dI (f p))) = decide (f p ≤ f q)
  rw [lt_dI]
  by_cases h : f q < f p
  · have h' : ¬ f p ≤ f q := fun r => List.not_lt.mpr r h
    simp [h, h']
  · have h' : f p ≤ f q := List.not_lt.mp h
    simp [h, h']
/-! the first is empty: then all are compared as things of one type -/
section
variable {prog : Program} {w : World} {A : Around} {E : Value → Shared → Prop} {s : Shared}
open PySem.SeqAt in
theorem tup_oneLt {xs ys : List PyData} {a b : Value} {as bs : List Addr} {Q : Bool → Shared → Prop} (ra : Reads s.heap a (.tuple xs) as) (rb : Reads s.heap b (.tuple ys) bs) (hal : alikeAll xs ys = true) (hu : A.units + min (PyData.depth (.tuple xs)) (PyData.depth (.tuple ys)) < cLine)
    (hq : Q (dataLt (.tuple xs) (.tuple ys)) s) : wpAny (model prog w) A (oneLt' true a b) Q E s := by
  cases ra with
  | @tuple l o us n _ _ h1 h2 h3 h4 =>
    cases rb with
    | @tuple l' o' vs n' _ _ k1 k2 k3 k4 =>
      obtain ⟨cls, dd, data, sl⟩ := o
      obtain ⟨cls', dd', data', sl'⟩ := o'
      simp only at h2 h3 k2 k3
      subst h2 h3 k2 k3
      have n1 : us.size = xs.length := by simpa using ReadsAll.length _ _ _ h4
      have n2 : vs.size = ys.length := by simpa using ReadsAll.length _ _ _ k4
      rw [dataLt_tuple, ← firstLt_toks xs ys hal, ← n1, ← n2] at hq
      rw [oneLt'_eq, if_pos rfl]
      refine wpAny_bind (wpAny_cRoomFor (room_here hu) (wpAny_bind (wpAny_callSpecialIfBound?_slot (T := "tuple") ⟨_, h1, rfl⟩ F.slot_tuple_lt ?_)))
      refine call_meets F.slot_tuple_lt ⟨_, h1, rfl⟩ F.entry_tuple_lt (F.args_tuple_lt_2 _ _) (tuple_ltAt l l' us vs n n' dd dd' sl sl' (pairEq xs ys) fun j => dataLt (xs.getD j .none) (ys.getD j .none)) ⟨h1, k1, fun j j1 j2 => ?_, fun j j1 j2 hj => ?_, wpAny_truthy_bool hq⟩
      · have := eqAt_alikeAll xs ys A.in1 s us.toList vs.toList _ _ h4 k4 hal (room_in hu) j (by simpa using j1) (by simpa using j2)
        simpa using this
      · have := rcLt_alikeAll xs ys A.in1 s us.toList vs.toList _ _ h4 k4 hal (room_in hu) j (by simpa using j1) (by simpa using j2) hj
        simpa using this
theorem map_wp {M : Model} {α β : Type} {f : α → Sem β} (g : α → β) : ∀ (l : List α) {Q : List β → Shared → Prop}, (∀ v ∈ l, ∀ (Q' : β → Shared → Prop), Q' (g v) s → wpAny M A (f v) Q' E s) → Q (l.map g) s → wpAny M A (l.mapM f) Q E s
  | [], _, _, h => by rw [List.mapM_nil]; exact wpAny_pure h
  | x :: l, Q, hf, h => by
    rw [List.mapM_cons]
    refine wpAny_bind (hf x (by simp) _ (wpAny_bind (map_wp g l (fun v hv => hf v (by simp [hv])) (wpAny_pure h))))
/-- the first thing of the tuple at v -/
def firstAt (h : Heap) : Value → Option Value
  | .ref a => (h.get? a).bind fun o => match o.data with
    | .seq xs _ => xs[0]?
    | _ => none
  | _ => none
theorem kind_empty {vs : List Value} {xss : List (List PyData)} {Q : SortKind → Shared → Prop} (e : EachIs (fun v d => ∃ as, Reads s.heap v d as) vs (.tuple [] :: xss.map .tuple)) (h : Q oneType' s) : wpAny (model prog w) A (keyKind' vs.toArray) Q E s := by
  have tup : ∀ v ∈ vs, ∃ xs as, Reads s.heap v (.tuple xs) as := fun v hv => by
    obtain ⟨d, hd, as, r⟩ := e.left v hv
    rcases List.mem_cons.mp hd with rfl | hd
    · exact ⟨_, as, r⟩
    · obtain ⟨xs, _, rfl⟩ := List.mem_map.mp hd
      exact ⟨xs, as, r⟩
  have hT : ∀ v ∈ vs, Looks (model prog w) s.heap (typeOf v) (.type "tuple") := fun v hv => by
    obtain ⟨xs, as, r⟩ := tup v hv
    exact looks_reads r
  have hf : ∀ v ∈ vs, ∀ (Q' : Option Value → Shared → Prop), Q' (firstAt s.heap v) s → wpAny (model prog w) A (firstOfTuple' v) Q' E s := fun v hv Q' q => by
    rw [kas_first_eq]
    refine wpAny_bind ((hT v hv).here ?_)
    rw [if_neg (by decide)]
    obtain ⟨xs, as, r⟩ := tup v hv
    cases r with
    | @tuple a o us n _ _ h1 h2 h3 h4 =>
      refine wpAny_bind (wpAny_listItems h1 h3 (wpAny_pure ?_))
      have : firstAt s.heap (.ref a) = us[0]? := by simp only [firstAt, h1, Option.bind_some, h3]
      rw [← this]
      exact q
  cases e with
  | @cons v₀ _ r _ e0 et =>
    have h0 : firstAt s.heap v₀ = none := by
      obtain ⟨as, r⟩ := e0
      cases r with
      | @tuple a o us n _ _ h1 h2 h3 h4 =>
        have : us.toList = [] := by cases q : us.toList with
          | nil => rfl
          | cons x y => rw [q] at h4; cases h4
        simp only [firstAt, h1, Option.bind_some, h3]
        rw [← Array.getElem?_toList, this]
        rfl
    rw [keyKind'_eq, List.mapM_toArray, map_eq_pure_bind]
    refine wpAny_bind (wpAny_bind (map_wp (firstAt s.heap) _ hf (wpAny_pure ?_)))
    rw [if_neg (by simp [h0]), if_neg (by simp [h0])]
    rw [oneTypeOnly'_eq, List.mapM_toArray, map_eq_pure_bind]
    refine wpAny_bind (wpAny_bind (wpAny_bind (map_wp (fun _ => Value.type "tuple") _ (fun v hv Q' hq => (hT v hv).here hq) (wpAny_pure ?_))))
    have hall : ((List.map (fun _ => Value.type "tuple") (v₀ :: r)).toArray.all fun x => x == Value.type "tuple") = true := by
      simp only [List.all_toArray, List.all_map, List.all_eq_true]
      intro _ _
      rfl
    have hz : (List.map (fun _ => Value.type "tuple") (v₀ :: r)).toArray[0]? = some (Value.type "tuple") := by simp
    rw [hz]
    simp only [hall, if_true]
    exact wpAny_pure (wpAny_pure h)
/-- what sorting asks of the tuples -/
def SrtOk (tss : List (List Int)) : Prop := (∀ t ∈ tss, t ≠ []) ∨ tss.head? = some []
theorem sorts_dI {vs : List Value} {tss : List (List Int)} (e : EachIs (fun v d => ∃ as, Reads s.heap v d as) vs (tss.map dI)) (ok : SrtOk tss) (hu : A.units + 2 < cLine) : SortsAt prog w A s (dataKind s.heap (tss.map dI)) vs := by
  have hal : AllAlike (tss.map dI) := AllAlike.of alike_dI
  have room : ∀ d ∈ tss.map dI, A.units + d.depth < cLine := fun d hd => by
    obtain ⟨t, _, rfl⟩ := List.mem_map.mp hd
    rw [depth_dI]; omega
  rcases ok with h | h
  · refine SortsAt.data e hal (.inl fun d hd => ?_) room
    obtain ⟨t, ht, rfl⟩ := List.mem_map.mp hd
    cases t with
    | nil => exact absurd rfl (h _ ht)
    | cons x r => exact ⟨_, _, rfl⟩
  · cases tss with
    | nil => cases h
    | cons t0 r =>
      obtain rfl : t0 = [] := Option.some.inj h
      refine ⟨fun v hv => ?_, oneType', fun E x y a b Q ha hb hq => ?_, fun h2 E Q hq => ?_⟩
      · obtain ⟨d, hd, as, q⟩ := e.left v hv
        exact ⟨_, dataKind_some hal hd q⟩
      · obtain ⟨d, as, hd, ra, rfl⟩ := dataKind_inv ha
        obtain ⟨d', as', hd', rb, rfl⟩ := dataKind_inv hb
        obtain ⟨t, _, rfl⟩ := List.mem_map.mp hd
        obtain ⟨t', _, rfl⟩ := List.mem_map.mp hd'
        rw [keyLt'_oneType]
        exact tup_oneLt ra rb (alike_ints t t') (Nat.lt_of_le_of_lt (Nat.add_le_add_left (Nat.min_le_left _ _) _) (room _ hd)) hq
      · have e2 : EachIs (fun v d => ∃ as, Reads s.heap v d as) vs (.tuple [] :: (r.map fun t => t.map PyData.int).map .tuple) := by
          rw [List.map_map]; exact e
        exact kind_empty e2 hq
end
section
variable {X : Cx}
theorem vals_zip : ∀ {xs : List V} {us : List Value} {ts : List (List Int)}, Vals xs us → xs.length = ts.length → EachIs (fun u (p : V × List Int) => RelV p.1 u) us (xs.zip ts)
  | _, _, [], .nil, _ => .nil
  | _, _, _ :: _, .nil, h => nomatch h
  | _, _, [], .cons _ _, h => nomatch h
  | _, _, t :: ts, .cons r q, h => .cons r (vals_zip q (Nat.succ.inj h))
theorem each_vals : ∀ {us : List Value} {ps : List (V × List Int)}, EachIs (fun u (p : V × List Int) => RelV p.1 u) us ps → Vals (ps.map Prod.fst) us
  | _, _, .nil => .nil
  | _, _, .cons h t => .cons h (each_vals t)
theorem each_reads {h : Heap} : ∀ {us : List Value} {ps : List (V × List Int)} {as : List Addr}, ReadsAll h us (ps.map fun p => dI p.2) as → EachIs (fun v (p : V × List Int) => ∃ as, Reads h v (dI p.2) as) us ps
  | _, [], _, h => by cases h; exact .nil
  | _, p :: r, _, h => by cases h with
    | cons a b => exact .cons ⟨_, a⟩ (each_reads b)
/-- sorted(xs) -/
def sortP (xs : List V) (tss : List (List Int)) : List V := ((xs.zip tss).mergeSort fun p q => leL p.2 q.2).map Prod.fst
def rSortT (K : PySem.W.Frag) : List V → Hp → VK → Prop := fun vs H Q => ∃ (a : Addr) (xs : List V) (tss : List (List Int)), vs = [V.ref a] ∧ SqL K H a xs ∧ DpAll K H xs (tss.map dI) ∧ SrtOk tss ∧ ∀ p, H p = none → Q (.ref p) (upd H p (.lst (sortP xs tss)))
theorem cr_sortT {k : Nat} (hr : Room k X.A) : CallR X (.builtin "sorted") (rSortT X.K) := by
  intro pins s σ H vs us Q I r h
  obtain ⟨a, xs, tss, rfl, hs, hd, ok, q⟩ := h
  rw [Vals.ref1 r]
  obtain ⟨its, rv, hl, hz⟩ := I.list hs
  have hlen : xs.length = tss.length := by simpa using hd.len
  have e := vals_zip rv hlen
  have snd : (xs.zip tss).map Prod.snd = tss := List.map_snd_zip (by omega)
  obtain ⟨as, ra⟩ := Dp.readsAll I _ _ _ hd rv
  have e2 : tss.map dI = (xs.zip tss).map fun p => dI p.2 := by
    conv => lhs; rw [← snd]
    rw [List.map_map]; rfl
  rw [e2] at ra
  have er := each_reads ra
  have hu : X.A.in1.in1.units + 2 < cLine := by have := hr.un; show X.A.units + 1 + 1 + 2 < _; omega
  have ok2 : SrtOk ((xs.zip tss).map Prod.snd) := by rw [snd]; exact ok
  have er' : EachIs (fun v (p : V × List Int) => ∃ as, Reads (sortingHeap (copyHeap s.heap its) (s.heap.objs.size + 1) its) v (dI p.2) as) its (xs.zip tss) := er.mono fun _ _ ⟨as, r⟩ => ⟨as, PyProof.Rows.Reads.keeps (fun _ _ => sorting_copy_old) r⟩
  have hS : SortsAt X.prog X.w X.A.in1.in1 { s with heap := sortingHeap (copyHeap s.heap its) (s.heap.objs.size + 1) its } (dataKind (sortingHeap (copyHeap s.heap its) (s.heap.objs.size + 1) its) ((xs.zip tss).map fun p => dI p.2)) its := by
    have := sorts_dI (prog := X.prog) (w := X.w) (A := X.A.in1.in1) (s := { s with heap := sortingHeap (copyHeap s.heap its) (s.heap.objs.size + 1) its }) (vs := its) (tss := (xs.zip tss).map Prod.snd) (by rw [List.map_map]; exact each_map (R := fun v d => ∃ as, Reads (sortingHeap (copyHeap s.heap its) (s.heap.objs.size + 1) its) v d as) (fun p : V × List Int => dI p.2) er') ok2 hu
    rw [List.map_map] at this
    exact this
  refine sorted_vals hl.isList hS (by rw [← rv.length]; exact hz) ?_
  have fin := sortVals_data false e er' (AllAlike.of fun p q => alike_dI p.2 q.2)
  have hv := each_vals fin
  rw [le_dI (fun p : V × List Int => p.2)] at hv
  obtain ⟨c, hc⟩ := sortedAll_at s.heap its (sortVals (dataKind (sortingHeap (copyHeap s.heap its) (s.heap.objs.size + 1) its) ((xs.zip tss).map fun p => dI p.2)) false its its).toArray
  have hle : s.heap.objs.size ≤ s.heap.objs.size + 1 := Nat.le_succ _
  have len : (sortP xs tss).length ≤ sizeLine := by
    unfold sortP
    rw [List.length_map, List.length_mergeSort, List.length_zip]
    omega
  exact ⟨.ref (s.heap.objs.size + 1), upd H (s.heap.objs.size + 1) (.lst (sortP xs tss)), I.laid (t' := s.toks) (fun b o e => sortedAll_old e) hle ⟨len, _, c, hv, hc⟩, rfl, q _ (I.hok.fresh hle)⟩
/-- min(xs) -/
def rMinT (K : PySem.W.Frag) : List V → Hp → VK → Prop := fun vs H Q => ∃ (a : Addr) (xs : List V) (t : List Int) (tss : List (List Int)), vs = [V.ref a] ∧ SqL K H a xs ∧ DpAll K H xs ((t :: tss).map dI) ∧ ∀ (i : Nat) (x : V), xs[i]? = some x → (t :: tss)[i]? = some (tss.foldl (fun a y => if y < a then y else a) t) → Q x H
theorem minD_dI (t : List Int) : ∀ tss : List (List Int), minD (dI t) (tss.map dI) = dI (tss.foldl (fun a y => if y < a then y else a) t) := by
  intro tss
  induction tss generalizing t with
  | nil => rfl
  | cons y r ih =>
    show minD (if dataLt (dI y) (dI t) then dI y else dI t) (r.map dI) = _
    rw [lt_dI, List.foldl_cons]
    by_cases h : y < t
    · rw [if_pos (decide_eq_true h), if_pos h]; exact ih y
    · rw [if_neg (by simpa using h), if_neg h]; exact ih t
theorem dI_inj {a b : List Int} (h : dI a = dI b) : a = b := by
  have h1 : a.map PyData.int = b.map PyData.int := by injection h
  exact (List.map_inj_right (fun _ _ q => by injection q)).mp h1
theorem cr_minT {k : Nat} (hr : Room k X.A) (hc : X.calm = true) : CallR X (.builtin "min") (rMinT X.K) := by
  intro pins s σ H vs us Q I r h
  obtain ⟨a, xs, t, tss, rfl, hs, hd, q⟩ := h
  rw [Vals.ref1 r]
  obtain ⟨its, rv, hl, hz⟩ := I.list hs
  obtain ⟨as, ra⟩ := Dp.readsAll I _ _ _ hd rv
  have hdep : ∀ l : List (List Int), PyData.depthAll (l.map dI) ≤ 1 := fun l => by
    induction l with
    | nil => show 0 ≤ 1; omega
    | cons x l ih =>
      show max (dI x).depth (PyData.depthAll (l.map dI)) ≤ 1
      rw [depth_dI]; omega
  refine min_list_data (x := dI t) (xs := tss.map dI) (I.ok.hd hc) hl.isList (by simpa using ra) ⟨fun x hx y hy => ?_, fun x hx => ?_⟩ (by have h1 := hdep (t :: tss); have h2 := hr.un; rw [List.map_cons] at h1; omega) fun i v h' tk bs hv hrd hk => ?_
  · rw [← List.map_cons] at hx hy
    obtain ⟨u, _, rfl⟩ := List.mem_map.mp hx
    obtain ⟨w, _, rfl⟩ := List.mem_map.mp hy
    exact alike_dI u w
  · rw [← List.map_cons] at hx
    obtain ⟨u, _, rfl⟩ := List.mem_map.mp hx
    exact fun z => nomatch z
  · rw [minD_dI] at hrd
    have hv2 : its[i]? = some v := by simpa using hv
    have hi := (List.getElem?_eq_some_iff.mp hv2).1
    have hix : i < xs.length := by rw [rv.length]; exact hi
    have hx : xs[i]? = some xs[i] := List.getElem?_eq_getElem hix
    obtain ⟨u, eu, ru⟩ := rv.get hx
    rw [hv2] at eu
    cases eu
    obtain ⟨d, ed, dp⟩ := hd.get hx
    rw [List.getElem?_map] at ed
    cases et : (t :: tss)[i]? with
    | none => rw [et] at ed; cases ed
    | some ti =>
      rw [et] at ed
      have edi : dI ti = d := Option.some.inj ed
      rw [← edi] at dp
      obtain ⟨as2, r2⟩ := Dp.reads I _ _ _ dp ru
      have eq := alike_unique _ _ _ _ _ (alike_dI _ _) (PyProof.Rows.Reads.keeps hk r2) hrd
      have := dI_inj eq
      refine ⟨xs[i], H, I.kept (t' := tk) hk, ru, q i _ hx ?_⟩
      rw [et, this]
end
/-! over data -/
def asTup : D → Option (List Int)
  | .tup ds => ds.mapM asI
  | _ => none
theorem asI_some {d : D} {i : Int} (h : asI d = some i) : d = .int i := by
  cases d <;> first | cases h | skip
  rfl
theorem mapM_inv {α β : Type} {f : α → Option β} {g : β → α} (hf : ∀ a b, f a = some b → a = g b) : ∀ {l : List α} {m : List β}, l.mapM f = some m → l = m.map g
  | [], m, h => by
    have : m = [] := by simpa using h.symm
    subst this; rfl
  | a :: l, m, h => by
    rw [List.mapM_cons] at h
    cases e : f a with
    | none => rw [e] at h; cases h
    | some b =>
      rw [e] at h
      cases e2 : l.mapM f with
      | none => rw [e2] at h; cases h
      | some m2 =>
        rw [e2] at h
        cases h
        rw [List.map_cons, ← hf a b e, ← mapM_inv hf e2]
theorem mapM_map {α β : Type} {f : α → Option β} {g : β → α} (hf : ∀ b, f (g b) = some b) : ∀ m : List β, (m.map g).mapM f = some m
  | [] => rfl
  | b :: m => by rw [List.map_cons, List.mapM_cons, hf b, mapM_map hf m]; rfl
theorem asTup_some {d : D} {t : List Int} (h : asTup d = some t) : d = tI t := by
  unfold asTup at h
  split at h
  · rw [mapM_inv (fun _ _ => asI_some) h]
  · cases h
theorem asTup_tI (t : List Int) : asTup (tI t) = some t := mapM_map (f := asI) (g := D.int) (fun _ => rfl) t
noncomputable def gSortT : List D → Option S
  | [.lst ds] => (ds.mapM asTup).bind fun tss => @ite _ (SrtOk tss) (Classical.propDecidable _) (some (.o (oL ((tss.mergeSort leL).map tI)))) none
  | _ => none
theorem gSortT_ts {tss : List (List Int)} (h : SrtOk tss) : gSortT [.lst (tss.map tI)] = some (.o (oL ((tss.mergeSort leL).map tI))) := by
  unfold gSortT
  dsimp only
  rw [mapM_map asTup_tI]
  exact if_pos h
def minT (t : List Int) (tss : List (List Int)) : List Int := tss.foldl (fun a y => if y < a then y else a) t
def gMinT : List D → Option S
  | [.lst ds] => (ds.mapM asTup).bind fun tss => match tss with
    | t :: r => some (.d (tI (minT t r)))
    | [] => none
  | _ => none
theorem gMinT_ts (t : List Int) (tss : List (List Int)) : gMinT [.lst ((t :: tss).map tI)] = some (.d (tI (minT t tss))) := by
  unfold gMinT
  dsimp only
  rw [mapM_map asTup_tI]
  rfl
theorem rp_dI {K : PySem.W.Frag} {F H : Hp} (sm : Same F H) : ∀ {xs : List V} {tss : List (List Int)}, RpA K F xs (tss.map tI) → DpAll K H xs (tss.map dI)
  | _, [], h => by cases h; exact .nil
  | _, t :: r, h => by
    cases h with
    | cons a b =>
      refine .cons ?_ (rp_dI sm b)
      obtain ⟨p, ys, rfl, h1, h2⟩ := a.tup_inv
      rw [RpA.ints_inv h2] at h1
      exact .tup (sqT_of (sm _ _ h1)) DpAll.ints
theorem rpa_of {K : PySem.W.Frag} {F : Hp} : ∀ {l : List (V × List Int)}, (∀ p ∈ l, Rp K F p.1 (tI p.2)) → RpA K F (l.map Prod.fst) ((l.map Prod.snd).map tI)
  | [], _ => .nil
  | p :: r, h => .cons (h p (by simp)) (rpa_of fun q hq => h q (by simp [hq]))
theorem rpa_zip {K : PySem.W.Frag} {F : Hp} : ∀ {xs : List V} {tss : List (List Int)}, RpA K F xs (tss.map tI) → ∀ p ∈ xs.zip tss, Rp K F p.1 (tI p.2)
  | _, [], h, p, hp => by cases h; simp at hp
  | _, t :: r, h, p, hp => by
    cases h with
    | cons a b =>
      rcases List.mem_cons.mp hp with rfl | hp
      · exact a
      · exact rpa_zip b p hp
theorem prSortT {K : PySem.W.Frag} : PrL K (rSortT K) gSortT := by
  intro F H vs ds s Q sm r eg hq
  unfold gSortT at eg
  split at eg
  · rename_i ds
    cases e : ds.mapM asTup with
    | none => rw [e] at eg; cases eg
    | some tss =>
      rw [e] at eg
      dsimp only [Option.bind] at eg
      split at eg
      · rename_i ok
        cases eg
        obtain ⟨u, rfl, ru⟩ := RpA.one r
        obtain ⟨a, xs, rfl, h1, h2⟩ := ru.lst_inv
        rw [mapM_inv (fun _ _ => asTup_some) e] at h2
        refine ⟨a, xs, tss, rfl, sqL_of (sm _ _ h1), rp_dI sm h2, ok, fun p hp => ?_⟩
        refine hq.newL sm hp ?_
        have hl : xs.length = tss.length := by simpa using h2.len
        have h3 := rpa_of (l := (xs.zip tss).mergeSort fun p q => leL p.2 q.2) fun p hp => rpa_zip h2 p ((List.mergeSort_perm _ _).mem_iff.mp hp)
        rw [sort_maps (s := leL) Prod.snd (fun _ _ _ _ => rfl), List.map_snd_zip (by omega)] at h3
        exact h3
      · cases eg
  · cases eg
theorem prMinT {K : PySem.W.Frag} : PrL K (rMinT K) gMinT := by
  intro F H vs ds s Q sm r eg hq
  unfold gMinT at eg
  split at eg
  · rename_i ds
    cases e : ds.mapM asTup with
    | none => rw [e] at eg; cases eg
    | some tss =>
      rw [e] at eg
      cases tss with
      | nil => cases eg
      | cons t tss =>
        cases eg
        obtain ⟨u, rfl, ru⟩ := RpA.one r
        obtain ⟨a, xs, rfl, h1, h2⟩ := ru.lst_inv
        rw [mapM_inv (fun _ _ => asTup_some) e] at h2
        refine ⟨a, xs, t, tss, rfl, sqL_of (sm _ _ h1), rp_dI sm h2, fun i x hx ht => ?_⟩
        obtain ⟨d, ed, rd⟩ := h2.get hx
        rw [List.getElem?_map, ht] at ed
        have : tI (minT t tss) = d := Option.some.inj ed
        rw [← this] at rd
        exact hq.here sm rd
  · cases eg
theorem q_sortT {X : Cx} (K : PySem.W.Frag) {k : Nat} (hr : Room k X.A) (hK : X.K = K := by rfl) : CallR X (.builtin "sorted") (rSortT K) := by subst hK; exact cr_sortT hr
theorem q_minT {X : Cx} (K : PySem.W.Frag) {k : Nat} (hr : Room k X.A) (hK : X.K = K := by rfl) (hc : X.calm = true := by rfl) : CallR X (.builtin "min") (rMinT K) := by subst hK; exact cr_minT hr hc
/-! the least, and sorting, plainly -/
theorem leL_iff {a b : List Int} : leL a b = true ↔ a ≤ b := decide_eq_true_iff
theorem leL_trans (a b c : List Int) (h1 : leL a b = true) (h2 : leL b c = true) : leL a c = true := leL_iff.mpr (List.le_trans (leL_iff.mp h1) (leL_iff.mp h2))
theorem leL_total (a b : List Int) : (leL a b || leL b a) = true := by
  rcases List.le_total a b with h | h
  · simp [leL, h]
  · simp [leL, h]
theorem sortT_pw (l : List (List Int)) : (l.mergeSort leL).Pairwise (· ≤ ·) := (List.pairwise_mergeSort leL_trans leL_total l).imp fun h => leL_iff.mp h
theorem sortT_eq {l m : List (List Int)} (hp : m.Perm l) (hs : m.Pairwise (· ≤ ·)) : l.mergeSort leL = m :=
  List.Perm.eq_of_pairwise (fun a b _ _ h1 h2 => List.le_antisymm h1 h2) (sortT_pw l) hs ((List.mergeSort_perm l leL).trans hp.symm)
theorem minT_mem (t : List Int) : ∀ tss : List (List Int), minT t tss ∈ t :: tss ∧ ∀ x ∈ t :: tss, minT t tss ≤ x := by
  intro tss
  induction tss generalizing t with
  | nil => exact ⟨by simp [minT], fun x hx => by rw [List.mem_singleton.mp hx]; exact List.le_refl _⟩
  | cons y r ih =>
    have e : minT t (y :: r) = minT (if y < t then y else t) r := rfl
    rw [e]
    obtain ⟨h1, h2⟩ := ih (if y < t then y else t)
    by_cases h : y < t
    · rw [if_pos h] at h1 h2 ⊢
      refine ⟨List.mem_cons_of_mem _ h1, fun x hx => ?_⟩
      rcases List.mem_cons.mp hx with rfl | hx
      · exact List.le_trans (h2 y (by simp)) (List.le_of_lt h)
      · exact h2 x hx
    · rw [if_neg h] at h1 h2 ⊢
      refine ⟨?_, fun x hx => ?_⟩
      · rcases List.mem_cons.mp h1 with q | q
        · rw [q]; simp
        · simp [q]
      · rcases List.mem_cons.mp hx with rfl | hx
        · exact h2 x (by simp)
        · rcases List.mem_cons.mp hx with rfl | hx
          · exact List.le_trans (h2 t (by simp)) (List.not_lt.mp h)
          · exact h2 x (by simp [hx])
end RL

namespace RL
open PySem PySem.Spec PyProof.Rows L2
/-! sets of indexes: by size, and all -/
theorem lt_app {a b : List Int} : ∀ {s t : List Int}, s.length = t.length → s < t → s ++ a < t ++ b
  | [], [], _, h => absurd h (List.lt_irrefl _)
  | [], _ :: _, h, _ => nomatch h
  | _ :: _, [], h, _ => nomatch h
  | x :: s, y :: t, hl, h => by
    rw [List.cons_lt_cons_iff] at h
    rw [List.cons_append, List.cons_append, List.cons_lt_cons_iff]
    rcases h with h | ⟨h1, h2⟩
    · exact .inl h
    · exact .inr ⟨h1, lt_app (Nat.succ.inj hl) h2⟩
theorem lt_same {a b : List Int} (h : a < b) : ∀ s : List Int, s ++ a < s ++ b
  | [] => h
  | x :: s => by
    rw [List.cons_append, List.cons_append, List.cons_lt_cons_iff]
    exact .inr ⟨rfl, lt_same h s⟩
theorem lt_one {a b : Int} (h : a < b) : [a] < [b] := List.cons_lt_cons_iff.mpr (.inl h)
/-- from lo on, below hi -/
def rgI (lo hi : Int) : List Int := (List.range (hi - lo).toNat).map fun i : Nat => lo + (i : Nat)
theorem mem_rgI {lo hi x : Int} : x ∈ rgI lo hi ↔ lo ≤ x ∧ x < hi := by
  unfold rgI
  rw [List.mem_map]
  constructor
  · rintro ⟨i, hi, rfl⟩
    have := List.mem_range.mp hi
    omega
  · rintro ⟨h1, h2⟩
    exact ⟨(x - lo).toNat, List.mem_range.mpr (by omega), by omega⟩
theorem rgI_asc (lo hi : Int) : (rgI lo hi).Pairwise (· < ·) := by
  unfold rgI
  rw [List.pairwise_map]
  exact List.pairwise_lt_range.imp fun h => by omega
theorem rgI_D (lo hi : Int) : rangeD lo (hi - lo).toNat = (rgI lo hi).map .int := by
  unfold rangeD rgI
  rw [List.map_map]
  rfl
def nxt (s : List Int) : Int := match s.getLast? with
  | some x => x + 1
  | none => 0
theorem nxt_snoc (s : List Int) (a : Int) : nxt (s ++ [a]) = a + 1 := by simp [nxt]
def setsF (n : Nat) : Nat → List (List Int)
  | 0 => [[]]
  | k + 1 => (setsF n k).flatMap fun s => (rgI (nxt s) n).map fun a => s ++ [a]
theorem snoc_ex : ∀ {t : List Int} {k : Nat}, t.length = k + 1 → ∃ s a, t = s ++ [a] := fun {t k} h => by
  have hn : t ≠ [] := fun e => by rw [e] at h; simp at h
  exact ⟨t.dropLast, t.getLast hn, (List.dropLast_concat_getLast hn).symm⟩
theorem IxOk.snoc {n : Nat} {s : List Int} {a : Int} : IxOk n (s ++ [a]) ↔ IxOk n s ∧ nxt s ≤ a ∧ a < n := by
  constructor
  · rintro ⟨h1, h2⟩
    rw [List.pairwise_append] at h1
    have ha := h2 a (by simp)
    refine ⟨⟨h1.1, fun i hi => h2 i (by simp [hi])⟩, ?_, ha.2⟩
    unfold nxt
    split
    · rename_i x hx
      have := h1.2.2 x (List.mem_of_getLast? hx) a (by simp)
      omega
    · omega
  · rintro ⟨⟨h1, h2⟩, h3, h4⟩
    have hx : ∀ x ∈ s, x < a := fun x hx => by
      have hn : s ≠ [] := fun e => by rw [e] at hx; cases hx
      have e : s = s.dropLast ++ [s.getLast hn] := (List.dropLast_concat_getLast hn).symm
      have hl : x ≤ s.getLast hn := by
        rw [e] at hx
        rcases List.mem_append.mp hx with q | q
        · have h1' := h1
          rw [e, List.pairwise_append] at h1'
          exact Int.le_of_lt (h1'.2.2 x q _ (by simp))
        · rw [List.mem_singleton.mp q]; exact Int.le_refl _
      have h5 : nxt s = s.getLast hn + 1 := by unfold nxt; rw [List.getLast?_eq_some_getLast hn]
      omega
    refine ⟨?_, fun i hi => ?_⟩
    · rw [List.pairwise_append]
      exact ⟨h1, by simp, fun x hx' y hy => by rw [List.mem_singleton.mp hy]; exact hx x hx'⟩
    · rcases List.mem_append.mp hi with q | q
      · exact h2 i q
      · rw [List.mem_singleton.mp q]
        have : 0 ≤ nxt s := by
          unfold nxt
          split
          · rename_i x hx'
            have := h2 x (List.mem_of_getLast? hx')
            omega
          · omega
        omega
theorem IxOk.nil (n : Nat) : IxOk n [] := ⟨List.Pairwise.nil, fun _ h => by cases h⟩
theorem mem_setsF {n : Nat} : ∀ {k : Nat} {t : List Int}, t ∈ setsF n k ↔ t.length = k ∧ IxOk n t
  | 0, t => by
    show t ∈ [[]] ↔ _
    rw [List.mem_singleton]
    constructor
    · rintro rfl; exact ⟨rfl, IxOk.nil n⟩
    · rintro ⟨h, _⟩; exact List.length_eq_zero_iff.mp h
  | k + 1, t => by
    show t ∈ (setsF n k).flatMap _ ↔ _
    rw [List.mem_flatMap]
    constructor
    · rintro ⟨s, hs, ht⟩
      obtain ⟨a, ha, rfl⟩ := List.mem_map.mp ht
      obtain ⟨h1, h2⟩ := mem_setsF.mp hs
      obtain ⟨h3, h4⟩ := mem_rgI.mp ha
      exact ⟨by simp [h1], IxOk.snoc.mpr ⟨h2, h3, h4⟩⟩
    · rintro ⟨h1, h2⟩
      obtain ⟨s, a, rfl⟩ := snoc_ex h1
      obtain ⟨h3, h4, h5⟩ := IxOk.snoc.mp h2
      exact ⟨s, mem_setsF.mpr ⟨by simpa using h1, h3⟩, List.mem_map.mpr ⟨a, mem_rgI.mpr ⟨h4, h5⟩, rfl⟩⟩
theorem setsF_asc (n : Nat) : ∀ k : Nat, (setsF n k).Pairwise (· < ·)
  | 0 => List.pairwise_singleton _ _
  | k + 1 => by
    show ((setsF n k).flatMap _).Pairwise _
    rw [List.pairwise_flatMap]
    refine ⟨fun s _ => ?_, ?_⟩
    · rw [List.pairwise_map]
      exact (rgI_asc _ _).imp fun h => lt_same (lt_one h) s
    · refine (setsF_asc n k).imp_of_mem fun {s t} hs ht h x hx y hy => ?_
      obtain ⟨a, _, rfl⟩ := List.mem_map.mp hx
      obtain ⟨b, _, rfl⟩ := List.mem_map.mp hy
      exact lt_app ((mem_setsF.mp hs).1.trans (mem_setsF.mp ht).1.symm) h
/-- all of them, as the law makes them -/
def allS : Nat → List (List Int)
  | 0 => [[]]
  | k + 1 => allS k ++ (allS k).map (· ++ [(k : Int)])
theorem IxOk.up {n m : Nat} {t : List Int} (h : IxOk n t) (hm : n ≤ m) : IxOk m t := ⟨h.1, fun i hi => by have := h.2 i hi; omega⟩
theorem mem_allS : ∀ {n : Nat} {t : List Int}, t ∈ allS n ↔ IxOk n t
  | 0, t => by
    show t ∈ [[]] ↔ _
    rw [List.mem_singleton]
    constructor
    · rintro rfl; exact IxOk.nil 0
    · rintro ⟨_, h⟩
      cases t with
      | nil => rfl
      | cons x r => have := h x (by simp); omega
  | n + 1, t => by
    show t ∈ allS n ++ (allS n).map _ ↔ _
    rw [List.mem_append, List.mem_map]
    constructor
    · rintro (h | ⟨s, hs, rfl⟩)
      · exact (mem_allS.mp h).up (Nat.le_succ n)
      · have h1 := mem_allS.mp hs
        refine IxOk.snoc.mpr ⟨h1.up (Nat.le_succ n), ?_, by omega⟩
        unfold nxt
        split
        · rename_i x hx
          have := h1.2 x (List.mem_of_getLast? hx)
          omega
        · omega
    · intro h
      by_cases hn : (n : Int) ∈ t
      · refine .inr ?_
        have ht : t ≠ [] := fun e => by rw [e] at hn; cases hn
        have e : t = t.dropLast ++ [t.getLast ht] := (List.dropLast_concat_getLast ht).symm
        obtain ⟨h1, h2, h3⟩ := IxOk.snoc.mp (by rw [← e]; exact h)
        have hp := h.1
        rw [e, List.pairwise_append] at hp
        have hlast : t.getLast ht = n := by
          rw [e] at hn
          rcases List.mem_append.mp hn with q | q
          · have := hp.2.2 _ q (t.getLast ht) (by simp)
            omega
          · exact (List.mem_singleton.mp q).symm
        refine ⟨t.dropLast, mem_allS.mpr ⟨h1.1, fun i hi => ?_⟩, ?_⟩
        · have h4 := h1.2 i hi
          have h5 := hp.2.2 i hi (t.getLast ht) (by simp)
          omega
        · rw [← hlast]; exact e.symm
      · refine .inl (mem_allS.mpr ⟨h.1, fun i hi => ?_⟩)
        have h4 := h.2 i hi
        have : i ≠ n := fun q => hn (q ▸ hi)
        omega
theorem allS_nodup : ∀ n : Nat, (allS n).Nodup
  | 0 => by simp [allS]
  | n + 1 => by
    show (allS n ++ (allS n).map _).Nodup
    rw [List.nodup_append]
    refine ⟨allS_nodup n, ?_, fun a ha b hb e => ?_⟩
    · unfold List.Nodup
      rw [List.pairwise_map]
      exact (allS_nodup n).imp fun h q => h (List.append_cancel_right q)
    · obtain ⟨s, _, rfl⟩ := List.mem_map.mp hb
      have := (mem_allS.mp ha).2 (n : Int) (by rw [e]; simp)
      omega
theorem allS_len : ∀ n : Nat, (allS n).length = 2 ^ n
  | 0 => rfl
  | n + 1 => by
    show (allS n ++ (allS n).map _).length = _
    rw [List.length_append, List.length_map, allS_len n, Nat.pow_succ]
    omega
theorem allS_head : ∀ n : Nat, (allS n).head? = some []
  | 0 => rfl
  | n + 1 => by
    show (allS n ++ (allS n).map _).head? = _
    rw [List.head?_append, allS_head n]
    rfl
def sortS (n : Nat) : List (List Int) := (allS n).mergeSort leL
theorem mem_sortS {n : Nat} {t : List Int} : t ∈ sortS n ↔ IxOk n t := ((List.mergeSort_perm _ _).mem_iff).trans mem_allS
theorem sortS_nodup (n : Nat) : (sortS n).Nodup := (List.mergeSort_perm _ _).nodup_iff.mpr (allS_nodup n)
theorem sortS_len (n : Nat) : (sortS n).length = 2 ^ n := by
  unfold sortS
  rw [List.length_mergeSort, allS_len]
theorem IxOk.len {n : Nat} {t : List Int} (h : IxOk n t) : t.length ≤ n := by
  have h1 : t.length ≤ (zr n).length := List.Nodup.length_le_of_subset (h.1.imp fun q e => by omega) fun x hx => mem_zr.mpr (h.2 x hx)
  rwa [zr_len] at h1
theorem rg1_nat {n : Nat} (h : n < 2 ^ 60) : rg1 [.int (n : Nat)] = some ((zr n).map .int) := by
  rw [rg1_int (by omega), ← zr_range]
  congr 2
theorem gMinL_ex {l : List Int} (h : l ≠ []) : ∃ m, gMinL [lI l] = some (.d (.int m)) ∧ m ∈ l ∧ ∀ x ∈ l, m ≤ x :=
  ⟨minI l, (gLI_map l).trans (if_pos (List.length_pos_iff.mpr h)), (minI_ok (List.length_pos_iff.mpr h)).1, (minI_ok (List.length_pos_iff.mpr h)).2⟩
theorem gMaxL_ex {l : List Int} (h : l ≠ []) : ∃ m, gMaxL [lI l] = some (.d (.int m)) ∧ m ∈ l ∧ ∀ x ∈ l, x ≤ m :=
  ⟨maxI l, (gLI_map l).trans (if_pos (List.length_pos_iff.mpr h)), (maxI_ok (List.length_pos_iff.mpr h)).1, (maxI_ok (List.length_pos_iff.mpr h)).2⟩
/-- the smallest rows, sorted -/
def smallest (rows : List (List Int)) (m : Nat) : List (List Int) := (rows.filter fun t => decide (t.length = m)).mergeSort leL
/-- by size: the first with some -/
def kept (n : Nat) (P : List Int → Bool) : List (List Int) := match (zr (n + 1)).find? (fun k => decide ((setsF n k.toNat).filter P ≠ [])) with
  | some k => (setsF n k.toNat).filter P
  | none => []
theorem filt_nodup_perm {a b : List (List Int)} (ha : a.Nodup) (hb : b.Nodup) (h : ∀ t, t ∈ a ↔ t ∈ b) : a.Perm b := (List.perm_ext_iff_of_nodup ha hb).mpr h
theorem ascT_nodup {a : List (List Int)} (h : a.Pairwise (· < ·)) : a.Nodup := h.imp fun q e => by rw [e] at q; exact List.lt_irrefl _ q
theorem smallest_eq {n : Nat} {P : List Int → Bool} {m : Nat} : smallest ((sortS n).filter P) m = (setsF n m).filter P := by
  unfold smallest
  refine sortT_eq (filt_nodup_perm ((ascT_nodup (setsF_asc n m)).filter _) (((sortS_nodup n).filter _).filter _) fun t => ?_) (((setsF_asc n m).filter _).imp fun h => List.le_of_lt h)
  simp only [List.mem_filter, mem_setsF, mem_sortS, decide_eq_true_iff]
  constructor
  · rintro ⟨⟨h1, h2⟩, h3⟩; exact ⟨⟨h2, h3⟩, h1⟩
  · rintro ⟨⟨h1, h2⟩, h3⟩; exact ⟨⟨h3, h1⟩, h2⟩
theorem kept_nil {n : Nat} {P : List Int → Bool} (h : (sortS n).filter P = []) : kept n P = [] := by
  unfold kept
  rw [List.find?_eq_none.mpr]
  intro k hk
  rw [decide_eq_true_iff, ne_eq, Decidable.not_not, List.filter_eq_nil_iff]
  intro t ht
  exact List.filter_eq_nil_iff.mp h t (mem_sortS.mpr (mem_setsF.mp ht).2)
theorem kept_at {n m : Nat} {P : List Int → Bool} (h1 : ∀ t ∈ (sortS n).filter P, m ≤ t.length) (h2 : ∃ t ∈ (sortS n).filter P, t.length = m) : kept n P = (setsF n m).filter P := by
  obtain ⟨t, ht, hm⟩ := h2
  obtain ⟨ht1, ht2⟩ := List.mem_filter.mp ht
  have hti := mem_sortS.mp ht1
  have hmn : m ≤ n := by rw [← hm]; exact hti.len
  unfold kept
  have key : (zr (n + 1)).find? (fun k => decide ((setsF n k.toNat).filter P ≠ [])) = some (m : Int) := by
    unfold zr
    rw [List.find?_map]
    have e : (List.range (n + 1)).find? ((fun k : Int => decide ((setsF n k.toNat).filter P ≠ [])) ∘ Int.ofNat) = some m := by
      rw [List.find?_range_eq_some]
      refine ⟨?_, by simp; omega, fun j hj => ?_⟩
      · simp only [Function.comp, decide_eq_true_iff]
        intro z
        exact List.filter_eq_nil_iff.mp z t (mem_setsF.mpr ⟨hm, hti⟩) ht2
      · simp only [Function.comp, Bool.not_eq_true', decide_eq_false_iff_not, ne_eq, Decidable.not_not, List.filter_eq_nil_iff]
        intro u hu hp
        obtain ⟨u1, u2⟩ := mem_setsF.mp hu
        have := h1 u (List.mem_filter.mpr ⟨mem_sortS.mpr u2, hp⟩)
        have e2 : (Int.ofNat j).toNat = j := rfl
        omega
    rw [e]
    rfl
  rw [key]
  rfl
theorem sn1 : ¬ (("own" : Str) = "rows") := by decide
theorem sn2 : ¬ (("own" : Str) = "whole_of") := by decide
theorem sn3 : ¬ (("whole_of" : Str) = "rows") := by decide
theorem while_run {c : FT} {fb : FS} {Q' : Sl → Prop} (I : Nat → Sl → Prop) (hs : ∀ m ρ, I m ρ → (∃ ρ1, c ρ = .ok (false, ρ1) ∧ Q' ρ1) ∨ ∃ ρ1, c ρ = .ok (true, ρ1) ∧ wpS (fb ρ1) (nxQ fun ρ2 => ∃ m', m' < m ∧ I m' ρ2)) :
    ∀ (m : Nat) (ρ : Sl), I m ρ → ∃ n ρ', whileN c fb n ρ = .ok (.nx ρ') ∧ Q' ρ' := by
  intro m
  induction m using Nat.strongRecOn with
  | _ m ih =>
    intro ρ h
    rcases hs m ρ h with ⟨ρ1, e, q⟩ | ⟨ρ1, e, _, e2, ρ2, rfl, m', hm, h2⟩
    · exact ⟨1, ρ1, by rw [whileN, e]; rfl, q⟩
    · obtain ⟨n, ρ', e3, q⟩ := ih m' hm ρ2 h2
      refine ⟨n + 1, ρ', ?_, q⟩
      rw [whileN, e]
      simp only [Rs.ok_bind, if_true]
      rw [e2]
      exact e3
theorem wp_while {c : FT} {fb g : FS} {ρ : Sl} {Q : Flow → Prop} {Q' : Sl → Prop} (I : Nat → Sl → Prop) {m : Nat} (h0 : I m ρ) (hs : ∀ m ρ, I m ρ → (∃ ρ1, c ρ = .ok (false, ρ1) ∧ Q' ρ1) ∨ ∃ ρ1, c ρ = .ok (true, ρ1) ∧ wpS (fb ρ1) (nxQ fun ρ2 => ∃ m', m' < m ∧ I m' ρ2))
    (k : ∀ ρ1, Q' ρ1 → wpS (g ρ1) Q) : wpS (sSeq (sWhile c fb) g ρ) Q := by
  obtain ⟨n, ρ', e, q⟩ := while_run I hs m ρ h0
  exact wp_seq (sWhile_of e (fun z => nomatch z)) (k ρ' q)
theorem many_le {k : Nat} (hk : 1 ≤ k) : ∀ bs : List Bar, (∀ b ∈ bs, b.2.length ≤ k) → manyOf bs ≤ ((k ^ bs.length : Nat) : Int)
  | [], _ => by simp [manyOf]
  | b :: r, h => by
    have ih := many_le hk r fun x hx => h x (by simp [hx])
    have hb := h b (by simp)
    have h1 := many_pos r
    have h2 : mx1 b.2.length ≤ k := by unfold mx1; split <;> omega
    have h3 := mx1_pos b.2.length
    rw [manyOf_cons, List.length_cons, Nat.pow_succ, Nat.mul_comm, Int.natCast_mul]
    exact Int.mul_le_mul h2 ih (by omega) (by omega)
theorem setsF_le (n k : Nat) : (setsF n k).length ≤ 2 ^ n := by
  have h : (setsF n k).length ≤ (allS n).length := List.Nodup.length_le_of_subset (ascT_nodup (setsF_asc n k)) fun t ht => mem_allS.mpr (mem_setsF.mp ht).2
  rwa [allS_len] at h
end RL

namespace RL
open PySem PySem.Spec PyProof.Rows L2
/-! rows of one step -/
/-- how many from 0 on, below n, hold without a break -/
def cnt (p : Nat → Bool) : Nat → Nat
  | 0 => 0
  | n + 1 => if cnt p n = n ∧ p n = true then n + 1 else cnt p n
theorem cnt_le (p : Nat → Bool) : ∀ n, cnt p n ≤ n
  | 0 => Nat.le_refl _
  | n + 1 => by
    have := cnt_le p n
    unfold cnt
    split <;> omega
theorem cnt_yes (p : Nat → Bool) : ∀ n k, k < cnt p n → p k = true
  | 0, k, h => by simp [cnt] at h
  | n + 1, k, h => by
    unfold cnt at h
    split at h
    · rename_i hc
      rcases Nat.lt_or_ge k n with q | q
      · exact cnt_yes p n k (by omega)
      · have : k = n := by omega
        rw [this]; exact hc.2
    · exact cnt_yes p n k h
theorem cnt_no (p : Nat → Bool) : ∀ n, cnt p n < n → p (cnt p n) = false
  | 0, h => by simp at h
  | n + 1, h => by
    unfold cnt at h ⊢
    split
    · rename_i hc
      rw [if_pos hc] at h
      omega
    · rename_i hc
      rw [if_neg hc] at h
      rcases Nat.lt_or_ge (cnt p n) n with q | q
      · exact cnt_no p n q
      · have e : cnt p n = n := by have := cnt_le p n; omega
        rw [e]
        cases hp : p n with
        | false => rfl
        | true => exact absurd ⟨e, hp⟩ hc
theorem cnt_eq {p : Nat → Bool} {n t : Nat} (h1 : t ≤ n) (h2 : ∀ k, k < t → p k = true) (h3 : t < n → p t = false) : cnt p n = t := by
  rcases Nat.lt_trichotomy (cnt p n) t with h | h | h
  · have := cnt_no p n (by omega)
    rw [h2 _ h] at this
    cases this
  · exact h
  · have := cnt_yes p n t h
    have hle := cnt_le p n
    rw [h3 (by omega)] at this
    cases this
section
variable {W s : Int} {f : Int → Bool} {own : List Int}
/-- how long the row from c on is, W at most -/
def runN (W s : Int) (f : Int → Bool) (c : Int) : Nat := cnt (fun k => f (c + (k : Nat) * s)) W.toNat
def begins (s : Int) (f : Int → Bool) (own : List Int) : List Int := own.filter fun c => !f (c - s)
structure Ring (W : Int) (f : Int → Bool) (own : List Int) : Prop where
  pos : 0 < W
  per : ∀ a b, a % W = b % W → f a = f b
  asc : own.Pairwise (· < ·)
  mem : ∀ c, c ∈ own ↔ (0 ≤ c ∧ c < W ∧ f c = true)
theorem Ring.own_mod (R : Ring W f own) {n : Int} (h : f n = true) : n % W ∈ own :=
  (R.mem _).mpr ⟨Int.emod_nonneg _ (by have := R.pos; omega), Int.emod_lt_of_pos _ R.pos, by rw [R.per (n % W) n (Int.emod_emod_of_dvd _ (Int.dvd_refl W))]; exact h⟩
theorem Ring.per' (R : Ring W f own) (a k : Int) : f (a + k * W) = f a := R.per _ _ (by rw [Int.add_mul_emod_self_right])
theorem run_yes {c : Int} {k : Nat} (h : k < runN W s f c) : f (c + (k : Nat) * s) = true := cnt_yes _ _ k h
theorem run_no {c : Int} (h : runN W s f c < W.toNat) : f (c + (runN W s f c : Nat) * s) = false := cnt_no _ _ h
theorem run_le (c : Int) : runN W s f c ≤ W.toNat := cnt_le _ _
theorem run_ge {c : Int} {m : Nat} (hm : m ≤ W.toNat) (h : ∀ k : Nat, k < m → f (c + (k : Nat) * s) = true) : m ≤ runN W s f c := by
  rcases Nat.lt_or_ge (runN W s f c) m with q | q
  · have := run_no (W := W) (s := s) (f := f) (c := c) (by omega)
    rw [h _ q] at this
    cases this
  · exact q
/-- a row as long as the whole has no end -/
theorem Ring.endless (R : Ring W f own) {c : Int} (h : runN W s f c = W.toNat) (k : Int) : f (c + k * s) = true := by
  have hp := R.pos
  have e1 : k % W = ((k % W).toNat : Int) := by have := Int.emod_nonneg k (show W ≠ 0 by omega); omega
  have h1 : (k % W).toNat < W.toNat := by have := Int.emod_lt_of_pos k hp; omega
  have h2 := run_yes (W := W) (s := s) (f := f) (c := c) (k := (k % W).toNat) (by omega)
  rw [← e1] at h2
  have e2 : c + k * s = (c + (k % W) * s) + (k / W * s) * W := by
    have := Int.mul_ediv_add_emod k W
    have e3 : k * s = (W * (k / W) + k % W) * s := by rw [this]
    rw [e3, Int.add_mul]
    have e4 : W * (k / W) * s = k / W * s * W := by rw [Int.mul_assoc, Int.mul_comm W]
    omega
  rw [e2, R.per']
  exact h2
theorem Ring.begin_ends (R : Ring W f own) {b : Int} (h : f (b - s) = false) : runN W s f b < W.toNat := by
  rcases Nat.lt_or_ge (runN W s f b) W.toNat with q | q
  · exact q
  · have := R.endless (s := s) (c := b) (by have := run_le (W := W) (s := s) (f := f) b; omega) (-1)
    rw [show b + -1 * s = b - s by omega, h] at this
    cases this
theorem run_back (R : Ring W f own) {c : Int} (hc : f (c - s) = true) (h : runN W s f c < W.toNat) : runN W s f c < runN W s f ((c - s) % W) := by
  have key : ∀ k : Int, f ((c - s) % W + k * s) = f (c - s + k * s) := fun k => R.per _ _ (by rw [Int.add_emod, Int.emod_emod_of_dvd _ (Int.dvd_refl W), ← Int.add_emod])
  refine run_ge (by omega) fun k hk => ?_
  rw [key]
  cases k with
  | zero => rw [show c - s + ((0 : Nat) : Int) * s = c - s by simp]; exact hc
  | succ k =>
    have := run_yes (W := W) (s := s) (f := f) (c := c) (k := k) (by omega)
    rw [show c - s + ((k + 1 : Nat) : Int) * s = c + (k : Int) * s by rw [Int.natCast_add, Int.add_mul]; omega]
    exact this
/-- all numbers of the rows that begin somewhere -/
def rowNs (W s : Int) (f : Int → Bool) (own : List Int) : List Int := (begins s f own).flatMap fun b => (List.range (runN W s f b)).map fun j : Nat => (b + (j : Nat) * s) % W
theorem rowNs_len (W s : Int) (f : Int → Bool) (own : List Int) : (rowNs W s f own).length = ((begins s f own).map fun b => runN W s f b).sum := by
  unfold rowNs
  rw [List.length_flatMap]
  congr 1
  apply List.map_congr_left
  intro b _
  rw [List.length_map, List.length_range]
theorem mod_add {W a b : Int} (h : a % W = b % W) (c : Int) : (a + c) % W = (b + c) % W := by rw [Int.add_emod, h, ← Int.add_emod]
theorem Ring.begin_one (R : Ring W f own) {b b' : Int} {j j' : Nat} (hb : b ∈ begins s f own) (hb' : b' ∈ begins s f own) (hj' : j' < runN W s f b') (hle : j ≤ j') (h : (b + (j : Nat) * s) % W = (b' + (j' : Nat) * s) % W) : j = j' ∧ b = b' := by
  obtain ⟨h1, h2⟩ := List.mem_filter.mp hb
  obtain ⟨h3, h4⟩ := List.mem_filter.mp hb'
  have h2 : f (b - s) = false := by simpa using h2
  obtain ⟨b0, b1, _⟩ := (R.mem b).mp h1
  obtain ⟨c0, c1, _⟩ := (R.mem b').mp h3
  have hz := mod_add h (-(((j : Nat) : Int) * s))
  rw [show b + ((j : Nat) : Int) * s + -(((j : Nat) : Int) * s) = b by omega] at hz
  rcases Nat.lt_or_ge j j' with q | q
  · exfalso
    obtain ⟨d, rfl⟩ : ∃ d, j' = j + (d + 1) := ⟨j' - j - 1, by omega⟩
    have e : b' + ((j + (d + 1) : Nat) : Int) * s + -(((j : Nat) : Int) * s) = b' + (d : Nat) * s + s := by
      rw [show (((j + (d + 1) : Nat)) : Int) = (j : Int) + ((d : Int) + 1) by omega, Int.add_mul, Int.add_mul]
      omega
    rw [e] at hz
    have hy := mod_add hz (-s)
    rw [show b' + (d : Nat) * s + s + -s = b' + (d : Nat) * s by omega, show b + -s = b - s by omega] at hy
    have := R.per _ _ hy
    rw [h2, run_yes (W := W) (s := s) (f := f) (c := b') (k := d) (by omega)] at this
    cases this
  · have e : j = j' := by omega
    subst e
    refine ⟨rfl, ?_⟩
    rw [show b' + ((j : Nat) : Int) * s + -(((j : Nat) : Int) * s) = b' by omega, Int.emod_eq_of_lt b0 b1, Int.emod_eq_of_lt c0 c1] at hz
    exact hz
theorem Ring.begin_two (R : Ring W f own) {b b' : Int} {j j' : Nat} (hb : b ∈ begins s f own) (hb' : b' ∈ begins s f own) (hj : j < runN W s f b) (hj' : j' < runN W s f b') (h : (b + (j : Nat) * s) % W = (b' + (j' : Nat) * s) % W) : j = j' ∧ b = b' := by
  rcases Nat.le_total j j' with q | q
  · exact R.begin_one hb hb' hj' q h
  · obtain ⟨h1, h2⟩ := R.begin_one hb' hb hj q h.symm
    exact ⟨h1.symm, h2.symm⟩
theorem Ring.rows_nodup (R : Ring W f own) : (rowNs W s f own).Nodup := by
  unfold rowNs List.Nodup
  rw [List.pairwise_flatMap]
  refine ⟨fun b hb => ?_, ?_⟩
  · rw [List.pairwise_map]
    refine (List.nodup_range (n := runN W s f b)).imp_of_mem fun {i j} hi hj ne e => ne ?_
    exact (R.begin_two hb hb (List.mem_range.mp hi) (List.mem_range.mp hj) e).1
  · have hn : (begins s f own).Pairwise (· ≠ ·) := (R.asc.sublist List.filter_sublist).imp fun h e => by omega
    refine hn.imp_of_mem fun {b b'} hb hb' ne x hx y hy e => ne ?_
    obtain ⟨i, hi, rfl⟩ := List.mem_map.mp hx
    obtain ⟨j, hj, rfl⟩ := List.mem_map.mp hy
    exact (R.begin_two hb hb' (List.mem_range.mp hi) (List.mem_range.mp hj) e).2
theorem Ring.rows_own (R : Ring W f own) {x : Int} (h : x ∈ rowNs W s f own) : x ∈ own := by
  obtain ⟨b, hb, hx⟩ := List.mem_flatMap.mp h
  obtain ⟨j, hj, rfl⟩ := List.mem_map.mp hx
  exact R.own_mod (run_yes (List.mem_range.mp hj))
/-- a row that has no end is of no row that begins -/
theorem Ring.endless_out (R : Ring W f own) {c : Int} (h : runN W s f c = W.toNat) : c % W ∉ rowNs W s f own := by
  intro hx
  obtain ⟨b, hb, hx⟩ := List.mem_flatMap.mp hx
  obtain ⟨j, hj, e⟩ := List.mem_map.mp hx
  have h2 : f (b - s) = false := by simpa using (List.mem_filter.mp hb).2
  have hz := mod_add e (-(((j : Nat) : Int) * s) - s)
  rw [show b + ((j : Nat) : Int) * s + (-(((j : Nat) : Int) * s) - s) = b - s by omega] at hz
  have := R.endless (s := s) h (-((j : Nat) : Int) - 1)
  rw [show c + (-((j : Nat) : Int) - 1) * s = c + (-(((j : Nat) : Int) * s) - s) by rw [Int.sub_mul, Int.neg_mul]; omega] at this
  rw [← R.per _ _ hz, h2] at this
  cases this
/-- without such a row each number is of a row that begins -/
theorem Ring.back (R : Ring W f own) : ∀ (m : Nat) (c : Int), f c = true → f (c - ((m + 1 : Nat) : Int) * s) = false → ∃ j : Nat, j ≤ m ∧ f (c - ((j : Nat) : Int) * s - s) = false ∧ ∀ i : Nat, i ≤ j → f (c - ((i : Nat) : Int) * s) = true
  | 0, c, hc, h => ⟨0, Nat.le_refl _, by rw [show c - ((0 : Nat) : Int) * s - s = c - ((0 + 1 : Nat) : Int) * s by omega]; exact h, fun i hi => by
      have hi0 : i = 0 := by omega
      rw [hi0, show c - ((0 : Nat) : Int) * s = c by omega]; exact hc⟩
  | m + 1, c, hc, h => by
    cases h1 : f (c - s) with
    | false => exact ⟨0, by omega, by rw [show c - ((0 : Nat) : Int) * s - s = c - s by omega]; exact h1, fun i hi => by
      have hi0 : i = 0 := by omega
      rw [hi0, show c - ((0 : Nat) : Int) * s = c by omega]; exact hc⟩
    | true =>
      have sh : ∀ k : Nat, c - s - ((k : Nat) : Int) * s = c - ((k + 1 : Nat) : Int) * s := fun k => by
        rw [show ((k + 1 : Nat) : Int) = (k : Int) + 1 by omega, Int.add_mul]
        omega
      obtain ⟨j, h2, h3, h4⟩ := Ring.back R m (c - s) h1 (by rw [sh (m + 1)]; exact h)
      refine ⟨j + 1, by omega, by rw [← sh j]; exact h3, fun i hi => ?_⟩
      cases i with
      | zero => rw [show c - ((0 : Nat) : Int) * s = c by omega]; exact hc
      | succ i => rw [← sh i]; exact h4 i (by omega)
theorem Ring.rows_all (R : Ring W f own) (hno : ∀ c ∈ own, runN W s f c < W.toNat) {c : Int} (hc : c ∈ own) : c ∈ rowNs W s f own := by
  have hp := R.pos
  obtain ⟨c0, c1, cf⟩ := (R.mem c).mp hc
  have hr := hno c hc
  have hn := run_no hr
  have hr0 : 0 < runN W s f c := by
    rcases Nat.eq_zero_or_pos (runN W s f c) with q | q
    · rw [q, show c + ((0 : Nat) : Int) * s = c by omega, cf] at hn
      cases hn
    · exact q
  obtain ⟨m, hm⟩ : ∃ m : Nat, W.toNat - runN W s f c = m + 1 := ⟨W.toNat - runN W s f c - 1, by omega⟩
  have e1 : f (c - ((m + 1 : Nat) : Int) * s) = false := by
    have e2 : c + (runN W s f c : Nat) * s = (c - ((m + 1 : Nat) : Int) * s) + s * W := by
      rw [show ((m + 1 : Nat) : Int) = W - (runN W s f c : Nat) by omega, Int.sub_mul, Int.mul_comm s W]
      omega
    rw [e2, R.per'] at hn
    exact hn
  obtain ⟨j, _, h3, h4⟩ := R.back m c cf e1
  have hb : (c - (j : Nat) * s) % W ∈ begins s f own := by
    refine List.mem_filter.mpr ⟨R.own_mod (h4 j (Nat.le_refl _)), ?_⟩
    have e3 : f ((c - (j : Nat) * s) % W - s) = f (c - (j : Nat) * s - s) := R.per _ _ (by
      have := mod_add (W := W) (a := (c - (j : Nat) * s) % W) (b := c - (j : Nat) * s) (Int.emod_emod_of_dvd _ (Int.dvd_refl W)) (-s)
      exact this)
    rw [e3, h3]
    rfl
  have key : ∀ k : Int, f ((c - (j : Nat) * s) % W + k * s) = f (c - (j : Nat) * s + k * s) := fun k => R.per _ _ (mod_add (Int.emod_emod_of_dvd _ (Int.dvd_refl W)) _)
  have hends : runN W s f ((c - (j : Nat) * s) % W) < W.toNat := R.begin_ends (by simpa using (List.mem_filter.mp hb).2)
  have hj : j < runN W s f ((c - (j : Nat) * s) % W) := by
    rcases Nat.lt_or_ge j (runN W s f ((c - (j : Nat) * s) % W)) with q | q
    · exact q
    · have := run_no hends
      rw [key] at this
      obtain ⟨d, hd⟩ : ∃ d : Nat, j = runN W s f ((c - (j : Nat) * s) % W) + d := ⟨j - runN W s f ((c - (j : Nat) * s) % W), by omega⟩
      have h5 := h4 d (by omega)
      rw [show c - (j : Nat) * s + ((runN W s f ((c - (j : Nat) * s) % W) : Nat) : Int) * s = c - ((d : Nat) : Int) * s by
        have : ((j : Nat) : Int) = ((runN W s f ((c - (j : Nat) * s) % W) : Nat) : Int) + (d : Int) := by omega
        generalize ((runN W s f ((c - (j : Nat) * s) % W) : Nat) : Int) = r at this
        rw [this, Int.add_mul]
        omega] at this
      rw [h5] at this
      cases this
  refine List.mem_flatMap.mpr ⟨_, hb, List.mem_map.mpr ⟨j, List.mem_range.mpr hj, ?_⟩⟩
  have := mod_add (W := W) (a := (c - (j : Nat) * s) % W) (b := c - (j : Nat) * s) (Int.emod_emod_of_dvd _ (Int.dvd_refl W)) ((j : Nat) * s)
  rw [this, show c - (j : Nat) * s + (j : Nat) * s = c by omega, Int.emod_eq_of_lt c0 c1]
/-- the rows that begin make out all just if none has no end -/
theorem Ring.rows_short (R : Ring W f own) : ((begins s f own).map fun b => runN W s f b).sum < own.length ↔ ∃ c ∈ own, runN W s f c = W.toNat := by
  rw [← rowNs_len]
  have hown : own.Nodup := R.asc.imp fun h e => by omega
  constructor
  · intro h
    refine Classical.byContradiction fun hn => ?_
    have hall : ∀ c ∈ own, runN W s f c < W.toNat := fun c hc => by
      have := run_le (W := W) (s := s) (f := f) c
      rcases Nat.lt_or_ge (runN W s f c) W.toNat with q | q
      · exact q
      · exact absurd ⟨c, hc, by omega⟩ hn
    have := List.Nodup.length_le_of_subset hown fun c hc => R.rows_all (s := s) hall hc
    omega
  · rintro ⟨c, hc, h⟩
    obtain ⟨c0, c1, _⟩ := (R.mem c).mp hc
    have hout := R.endless_out h
    rw [Int.emod_eq_of_lt c0 c1] at hout
    have h1 : (c :: rowNs W s f own).Nodup := List.nodup_cons.mpr ⟨hout, R.rows_nodup⟩
    have := List.Nodup.length_le_of_subset h1 fun x hx => by
      rcases List.mem_cons.mp hx with rfl | hx
      · exact hc
      · exact R.rows_own hx
    rw [List.length_cons] at this
    omega
end
/-- the longest, the first of them: as the law finds it -/
def bestOf (r : Int → Nat) (own : List Int) : Nat × Int := own.foldl (fun b c => if r c > b.1 then (r c, c) else b) (0, 0)
theorem best_fold (r : Int → Nat) : ∀ (l : List Int) (b : Nat × Int),
    let z := l.foldl (fun b c => if r c > b.1 then (r c, c) else b) b
    b.1 ≤ z.1 ∧ (∀ c ∈ l, r c ≤ z.1) ∧ (z = b ∨ (z.2 ∈ l ∧ r z.2 = z.1 ∧ b.1 < z.1)) ∧ (l.Pairwise (· < ·) → b.1 < z.1 → ∀ c ∈ l, r c = z.1 → z.2 ≤ c)
  | [], b => by
    refine ⟨Nat.le_refl _, ?_, .inl rfl, ?_⟩
    · intro c hc; cases hc
    · intro _ _ c hc; cases hc
  | x :: l, b => by
    have ih := best_fold r l (if r x > b.1 then (r x, x) else b)
    dsimp only at ih ⊢
    rw [List.foldl_cons]
    obtain ⟨i1, i2, i3, i4⟩ := ih
    by_cases hx : r x > b.1
    · rw [if_pos hx] at i1 i2 i3 i4 ⊢
      dsimp only at i1 i3 i4
      refine ⟨by omega, fun c hc => ?_, .inr ?_, fun hp hb c hc hr => ?_⟩
      · rcases List.mem_cons.mp hc with rfl | hc
        · exact i1
        · exact i2 c hc
      · rcases i3 with q | ⟨q1, q2, q3⟩
        · rw [q]; exact ⟨by simp, rfl, hx⟩
        · exact ⟨by simp [q1], q2, by omega⟩
      · obtain ⟨hp1, hp2⟩ := List.pairwise_cons.mp hp
        rcases i3 with q | ⟨q1, q2, q3⟩
        · rw [q]
          rcases List.mem_cons.mp hc with rfl | hc
          · exact Int.le_refl _
          · exact Int.le_of_lt (hp1 c hc)
        · rcases List.mem_cons.mp hc with rfl | hc
          · omega
          · exact i4 hp2 q3 c hc hr
    · rw [if_neg hx] at i1 i2 i3 i4 ⊢
      refine ⟨i1, fun c hc => ?_, ?_, fun hp hb c hc hr => ?_⟩
      · rcases List.mem_cons.mp hc with rfl | hc
        · omega
        · exact i2 c hc
      · rcases i3 with q | ⟨q1, q2, q3⟩
        · exact .inl q
        · exact .inr ⟨by simp [q1], q2, q3⟩
      · obtain ⟨hp1, hp2⟩ := List.pairwise_cons.mp hp
        rcases List.mem_cons.mp hc with rfl | hc
        · omega
        · exact i4 hp2 hb c hc hr
theorem pair_le {a b c d : Int} : [a, b] ≤ [c, d] ↔ a < c ∨ (a = c ∧ b ≤ d) := by
  rw [List.cons_le_cons_iff, List.cons_le_cons_iff]
  constructor
  · rintro (h | ⟨h, h2 | ⟨h2, _⟩⟩)
    · exact .inl h
    · exact .inr ⟨h, by omega⟩
    · exact .inr ⟨h, by omega⟩
  · rintro (h | ⟨h, h2⟩)
    · exact .inl h
    · refine .inr ⟨h, ?_⟩
      rcases Int.lt_or_eq_of_le h2 with q | q
      · exact .inl q
      · exact .inr ⟨q, List.le_refl _⟩
/-- the least pair (less the length, begin) of the rows that begin is the longest that the law finds -/
theorem Ring.best {W s : Int} {f : Int → Bool} {own : List Int} (R : Ring W f own) (hne : own ≠ []) (hno : ∀ c ∈ own, runN W s f c < W.toNat) {t : List Int} {ts : List (List Int)} (e : t :: ts = (begins s f own).map fun b => [-((runN W s f b : Nat) : Int), b]) :
    minT t ts = [-(((bestOf (runN W s f) own).1 : Nat) : Int), (bestOf (runN W s f) own).2] := by
  have hr1 : ∀ c ∈ own, 0 < runN W s f c := fun c hc => by
    rcases Nat.eq_zero_or_pos (runN W s f c) with q | q
    · have := run_no (hno c hc)
      rw [q, show c + ((0 : Nat) : Int) * s = c by omega, ((R.mem c).mp hc).2.2] at this
      cases this
    · exact q
  obtain ⟨b1, b2, b3, b4⟩ := best_fold (runN W s f) own (0, 0)
  change 0 ≤ (bestOf (runN W s f) own).1 at b1
  have b2 : ∀ c ∈ own, runN W s f c ≤ (bestOf (runN W s f) own).1 := b2
  have b3 : bestOf (runN W s f) own = (0, 0) ∨ ((bestOf (runN W s f) own).2 ∈ own ∧ runN W s f (bestOf (runN W s f) own).2 = (bestOf (runN W s f) own).1 ∧ 0 < (bestOf (runN W s f) own).1) := b3
  have b4 : 0 < (bestOf (runN W s f) own).1 → ∀ c ∈ own, runN W s f c = (bestOf (runN W s f) own).1 → (bestOf (runN W s f) own).2 ≤ c := fun h => b4 R.asc h
  clear b1
  obtain ⟨⟨M, c0⟩, eB⟩ : ∃ B, bestOf (runN W s f) own = B := ⟨_, rfl⟩
  rw [eB] at b2 b3 b4 ⊢
  dsimp only at b2 b3 b4 ⊢
  have hM : 0 < M := by
    cases own with
    | nil => exact absurd rfl hne
    | cons x r => have h1 := hr1 x (by simp); have h2 := b2 x (by simp); omega
  obtain ⟨m1, m2⟩ : c0 ∈ own ∧ runN W s f c0 = M := by
    rcases b3 with q | q
    · cases q; omega
    · exact ⟨q.1, q.2.1⟩
  have hc0 : c0 ∈ begins s f own := by
    refine List.mem_filter.mpr ⟨m1, ?_⟩
    cases hf : f (c0 - s) with
    | false => rfl
    | true =>
      have h1 := run_back R hf (hno c0 m1)
      have h2 := b2 _ (R.own_mod hf)
      omega
  obtain ⟨h1, h2⟩ := minT_mem t ts
  rw [e] at h1 h2
  obtain ⟨b, hb, eb⟩ := List.mem_map.mp h1
  have h3 := h2 _ (List.mem_map.mpr ⟨c0, hc0, rfl⟩)
  rw [← eb] at h3 ⊢
  have hbo := (List.mem_filter.mp hb).1
  have h4 := b2 b hbo
  rw [pair_le, m2] at h3
  have e5 : runN W s f b = M := by omega
  have h6 := b4 hM b hbo e5
  have e7 : b = c0 := by omega
  rw [e5, e7]
end RL

namespace RL
open PySem PySem.Spec PyProof.Rows L2
/-! dicts: d.get(k, x), d[k], d[k] = v; keys ints, or tuples of ints -/
def ofV : V → Option D
  | .non => some .non
  | .bl b => some (.bl b)
  | .int i => some (.int i)
  | .str x => some (.str x)
  | _ => none
theorem ofV_rp {K : PySem.W.Frag} {F : Hp} {v : V} {d : D} (h : ofV v = some d) : Rp K F v d := by
  cases v <;> cases h
  · exact .non
  · exact .bl _
  · exact .int _
  · exact .str _
/-- what the dict has at a key -/
def gVal : D → D → Option (Option V)
  | .dK kvs, .int i => some (valV kvs (.inl i))
  | .dT kvs, k => (asTup k).map fun ns => valV kvs (ns.map .inl)
  | _, _ => none
theorem kV_ints (ns : List Int) : (ns.map (fun n => (Sum.inl n : Key))).map kV = ns.map V.int := by rw [List.map_map]; rfl
section
variable {X : Cx} {K : PySem.W.Frag} {W : WX} {F H : Hp}
theorem Rp.dT_inv {v : V} {kvs : List (List Key × V)} (h : Rp K F v (.dT kvs)) : ∃ a, v = .ref a ∧ F a = some (.dT kvs) := by cases h; exact ⟨_, rfl, ‹_›⟩
theorem gVal_get {x y : V} {d k : D} {r : Option V} (sm : Same F H) (rx : Rp K F x d) (ry : Rp K F y k) (h : gVal d k = some r) : ∃ a, x = .ref a ∧ IsD H a ∧ DGet H a y r := by
  unfold gVal at h
  split at h
  · cases h
    obtain ⟨a, rfl, h1⟩ := rx.dK_inv
    rw [ry.int_inv]
    exact ⟨a, rfl, .inl ⟨_, .inl (sm _ _ h1)⟩, DGet.k (k := .inl _) (sm _ _ h1)⟩
  · rename_i kvs _
    cases e : asTup k with
    | none => rw [e] at h; cases h
    | some ns =>
      rw [e] at h
      cases h
      obtain ⟨a, rfl, h1⟩ := rx.dT_inv
      rw [asTup_some e] at ry
      obtain ⟨b, us, rfl, h2, h3⟩ := ry.tup_inv
      rw [RpA.ints_inv h3, ← kV_ints] at h2
      exact ⟨a, rfl, .inr ⟨_, .inl (sm _ _ h1)⟩, DGet.t (sm _ _ h1) (sm _ _ h2)⟩
  · cases h
def gIxK (d k : D) : Option S := match gVal d k with
  | some (some v) => (ofV v).map .d
  | _ => none
def rIxK : R2 := fun x y H Q => ∃ a v, x = .ref a ∧ DGet H a y (some v) ∧ Q v H
theorem prIxK : Pr2 K rIxK gIxK := by
  intro F H x y d e s Q sm rx ry eg hq
  unfold gIxK at eg
  split at eg
  · rename_i v hv
    cases ev : ofV v with
    | none => rw [ev] at eg; cases eg
    | some dv =>
      rw [ev] at eg
      cases eg
      obtain ⟨a, rfl, _, g⟩ := gVal_get sm rx ry hv
      exact ⟨a, v, rfl, g, hq.here sm (ofV_rp ev)⟩
  · cases eg
variable {o k e : Expr} {fa fk fd fv : FE} {pos apos cpos : Pos}
theorem dn_ixK {n : Nat} (hr : Room n X.A) (ha : DE X K W o fa) (hk : DE X K W k fk) (hs : NoSl k) : DN X K W (.Subscript o k pos) (dOp gIxK fa fk) :=
  ⟨(pe_dget (by have := hr.un; omega) ha.pe hk.pe hs).weak fun _ _ _ h => ln_op (r := rIxK) prIxK h⟩
def dGet2 (fa fk fd : FE) : FN := fun ρ => fa ρ >>= fun p => match p.1 with
  | .dK _ => (fk p.2 >>= fun q => fd q.2 >>= fun r => match gVal p.1 q.1 with
    | some (some v) => rsO r.2 ((ofV v).map .d)
    | some none => .ok (.d r.1, r.2)
    | none => .no)
  | _ => .no
theorem dn_get2 {n : Nat} (hr : Room n X.A) (ha : DE X K W o fa) (hk : DE X K W k fk) (hd : DE X K W e fd) (m : M2 X o "get" apos k e cpos) : DN X K W (.Call (.Attribute o "get" apos) [k, e] [] cpos) (dGet2 fa fk fd) :=
  ⟨(pe_dget2 (by have := hr.un; omega) ha.pe hk.pe hd.pe m).weak fun σ H Q ⟨F, ρ, rl, q⟩ => by
    refine ⟨F, ρ, rl, (Post.bind q).mono fun x ρ1 F1 H1 A1 q1 v rv => ?_⟩
    cases x with
    | dK kvs =>
      dsimp only at q1
      obtain ⟨a, rfl, h1⟩ := rv.dK_inv
      refine ⟨a, rfl, .inl ⟨_, .inl (A1.rel.sub _ _ h1)⟩, F1, ρ1, A1.rel, (Post.bind q1).mono fun y ρ2 F2 H2 A2 q2 u ru => ⟨F2, ρ2, A2.rel, (Post.bind q2).mono fun z ρ3 F3 H3 A3 q3 w rw' => ?_⟩⟩
      dsimp only at q3
      cases eg : gVal (.dK kvs) y with
      | none => rw [eg] at q3; exact q3.elim
      | some r =>
        rw [eg] at q3
        obtain ⟨a', e', _, g⟩ := gVal_get A3.rel.sub (Rp.mono A3.tr.ff (Rp.mono A2.tr.ff rv)) (Rp.mono A3.tr.ff ru) eg
        cases e'
        refine ⟨r, g, ?_⟩
        cases r with
        | none => exact q3 F3 H3 (Aft.refl A3.rel) _ rw' (fun _ _ z => nomatch z)
        | some v =>
          dsimp only at q3
          cases ev : ofV v with
          | none => rw [ev] at q3; exact q3.elim
          | some dv => rw [ev] at q3; exact q3 F3 H3 (Aft.refl A3.rel) _ (ofV_rp ev) (fun _ _ z => nomatch z)
    | _ => exact q1.elim⟩
/-- d[k] = v, d of its own -/
def sPutK (i : Nat) (fk fv : FE) : FS := fun ρ => fv ρ >>= fun v => match v.2[i]? with
  | some (some (.o _)) => fk v.2 >>= fun k => (match k.2[i]? with
    | some (some (.o ⟨t, .od kvs⟩)) => (match k.1 with
      | .int z => if flatD v.1 = true ∧ kvs.length < sizeLine then .ok (.nx (k.2.set i (some (.o ⟨t, .od (putK kvs (.inl z) (toV v.1))⟩)))) else .no
      | _ => .no)
    | some (some (.o ⟨t, .oT kvs⟩)) => (match asTup k.1 with
      | some ns => if flatD v.1 = true ∧ kvs.length < sizeLine then .ok (.nx (k.2.set i (some (.o ⟨t, .oT (putK kvs (ns.map .inl) (toV v.1))⟩)))) else .no
      | none => .no)
    | _ => .no)
  | _ => .no
theorem RO.od_inv {p : Addr} {o : HO} {t : Option Addr} {kvs : List (Key × V)} (h : RO K F p o ⟨t, .od kvs⟩) : (∀ a, t = some a → p = a) ∧ o = .dK kvs := by
  obtain ⟨h1, h2⟩ := h
  cases o <;> first | exact h2.elim | skip
  exact ⟨h1, congrArg HO.dK h2⟩
theorem RO.oT_inv {p : Addr} {o : HO} {t : Option Addr} {kvs : List (List Key × V)} (h : RO K F p o ⟨t, .oT kvs⟩) : (∀ a, t = some a → p = a) ∧ o = .dT kvs := by
  obtain ⟨h1, h2⟩ := h
  cases o <;> first | exact h2.elim | skip
  exact ⟨h1, congrArg HO.dT h2⟩
theorem ds_putK {n i : Nat} {value : Expr} {pos' : Pos} (hr : Room n X.A) (ho : PE X o (tVar i)) (hk : DE X K W k fk) (hv : DE X K W value fv) (hs : swapsWith value (some (.Subscript o k pos')) pos.line X.env = pure false := by rfl) :
    DS X K W (.Assign [.Subscript o k pos'] value pos) (sPutK i fk fv) :=
  ⟨(ps_dput (by have := hr.un; omega) ho hk.pe hv.pe hs).weak fun D σ H ⟨F, ρ, rl, q⟩ => by
    refine ⟨F, ρ, rl, (PostS.bind q).mono fun x ρ1 F1 H1 A1 q1 v rv => ?_⟩
    dsimp only at q1
    split at q1
    · rename_i c e1
      obtain ⟨p, ob, ev, g1, g2, g3⟩ := own_at A1.rel e1
      refine ⟨.ref p, ev, F1, ρ1, A1.rel, (PostS.bind q1).mono fun z ρ2 F2 H2 A2 q2 w rw' => ?_⟩
      dsimp only at q2
      split at q2
      · rename_i t kvs e2
        cases z with
        | int zi =>
          dsimp only at q2
          by_cases hc : flatD x = true ∧ kvs.length < sizeLine
          · rw [if_pos hc] at q2
            obtain ⟨p2, ob2, ev2, k1, k2, k3⟩ := own_at A2.rel e2
            rw [ev] at ev2
            cases ev2
            obtain ⟨kt, rfl⟩ := k3.od_inv
            have ex := (rv.flat hc.1).1
            have ei := rw'.int_inv
            refine ⟨p, upd H2 p (.dK (putK kvs (.inl zi) (toV x))), rfl, ?_, ?_⟩
            · rw [ei, ex]; exact DPut.k (k := .inl zi) k2 hc.2
            · exact q2 σ F2 _ (aft_mut (c' := ⟨t, .od (putK kvs (.inl zi) (toV x))⟩) (o' := .dK (putK kvs (.inl zi) (toV x))) A2.rel e2 ev ⟨kt, rfl⟩)
          · rw [if_neg hc] at q2; exact q2.elim
        | _ => exact q2.elim
      · rename_i t kvs e2
        split at q2
        · rename_i ns en
          by_cases hc : flatD x = true ∧ kvs.length < sizeLine
          · rw [if_pos hc] at q2
            obtain ⟨p2, ob2, ev2, k1, k2, k3⟩ := own_at A2.rel e2
            rw [ev] at ev2
            cases ev2
            obtain ⟨kt, rfl⟩ := k3.oT_inv
            have ex := (rv.flat hc.1).1
            rw [asTup_some en] at rw'
            obtain ⟨b, us, rfl, h2, h3⟩ := rw'.tup_inv
            rw [RpA.ints_inv h3, ← kV_ints] at h2
            refine ⟨p, upd H2 p (.dT (putK kvs (ns.map .inl) (toV x))), rfl, ?_, ?_⟩
            · rw [ex]; exact DPut.t k2 (A2.rel.sub _ _ h2) hc.2
            · exact q2 σ F2 _ (aft_mut (c' := ⟨t, .oT (putK kvs (ns.map .inl) (toV x))⟩) (o' := .dT (putK kvs (ns.map .inl) (toV x))) A2.rel e2 ev ⟨kt, rfl⟩)
          · rw [if_neg hc] at q2; exact q2.elim
        · exact q2.elim
      · exact q2.elim
    · exact q1.elim⟩
end
end RL

namespace RL
open PySem PySem.Spec PyProof.Rows L2
/-! steps from a fitting number to the next one -/
def stepsL (W : Int) (own : List Int) : List Int := (own.zip (own.drop 1 ++ [own.headD 0 + W])).map fun p => p.2 - p.1
/-- the step to the next one -/
def nxN (W : Int) (f : Int → Bool) (c : Int) : Nat := cnt (fun k => !f (c + 1 + (k : Nat))) W.toNat + 1
theorem stepsL_len {W : Int} {own : List Int} (h : own ≠ []) : (stepsL W own).length = own.length := by
  have hp := List.length_pos_iff.mpr h
  unfold stepsL
  simp
  omega
theorem stepsL_get {W : Int} {own : List Int} {i : Nat} {c : Int} (hc : own[i]? = some c) : (stepsL W own)[i]? = some ((if i + 1 < own.length then own.getD (i + 1) 0 else own.headD 0 + W) - c) := by
  have hi := (List.getElem?_eq_some_iff.mp hc).1
  unfold stepsL
  rw [List.getElem?_map]
  have e : (own.zip (own.drop 1 ++ [own.headD 0 + W]))[i]? = some (c, if i + 1 < own.length then own.getD (i + 1) 0 else own.headD 0 + W) := by
    rw [List.getElem?_zip_eq_some]
    refine ⟨hc, ?_⟩
    by_cases h : i + 1 < own.length
    · rw [List.getElem?_append_left (by simp; omega), List.getElem?_drop, if_pos h, List.getD_eq_getElem?_getD, Nat.add_comm 1 i, List.getElem?_eq_getElem h]
      rfl
    · rw [List.getElem?_append_right (by simp; omega), if_neg h]
      have : i - (own.drop 1).length = 0 := by simp; omega
      rw [this]
      rfl
  rw [e]
  rfl
section
variable {W : Int} {f : Int → Bool} {own : List Int}
theorem Ring.lt (R : Ring W f own) {i j : Nat} {a b : Int} (ha : own[i]? = some a) (hb : own[j]? = some b) (h : i < j) : a < b := by
  obtain ⟨hi, rfl⟩ := List.getElem?_eq_some_iff.mp ha
  obtain ⟨hj, rfl⟩ := List.getElem?_eq_some_iff.mp hb
  exact List.pairwise_iff_getElem.mp R.asc i j hi hj h
theorem Ring.step_eq (R : Ring W f own) {i : Nat} {c : Int} (hc : own[i]? = some c) : ((nxN W f c : Nat) : Int) = (if i + 1 < own.length then own.getD (i + 1) 0 else own.headD 0 + W) - c := by
  have hp := R.pos
  obtain ⟨c0, c1, cf⟩ := (R.mem c).mp (List.mem_of_getElem? hc)
  have hi := (List.getElem?_eq_some_iff.mp hc).1
  obtain ⟨o0, ho0⟩ : ∃ o0, own[0]? = some o0 := ⟨_, List.getElem?_eq_getElem (by omega)⟩
  obtain ⟨a0, a1, af⟩ := (R.mem o0).mp (List.mem_of_getElem? ho0)
  have hh : own.headD 0 = o0 := by
    cases own with
    | nil => simp at ho0
    | cons x r => simpa using ho0
  have hle : o0 ≤ c := by
    rcases Nat.eq_zero_or_pos i with q | q
    · rw [q, ho0] at hc; cases hc; exact Int.le_refl _
    · exact Int.le_of_lt (R.lt ho0 hc q)
  -- the next one
  obtain ⟨d, hd, d1, dW, df, dn⟩ : ∃ d : Int, d = (if i + 1 < own.length then own.getD (i + 1) 0 else own.headD 0 + W) - c ∧ 1 ≤ d ∧ d ≤ W ∧ f (c + d) = true ∧ ∀ x, c < x → x < c + d → f x = false := by
    by_cases h : i + 1 < own.length
    · obtain ⟨e, he⟩ : ∃ e, own[i + 1]? = some e := ⟨_, List.getElem?_eq_getElem h⟩
      obtain ⟨e0, e1, ef⟩ := (R.mem e).mp (List.mem_of_getElem? he)
      have hlt := R.lt hc he (Nat.lt_succ_self i)
      have hg : own.getD (i + 1) 0 = e := by rw [List.getD_eq_getElem?_getD, he]; rfl
      refine ⟨e - c, by rw [if_pos h, hg], by omega, by omega, by rw [show c + (e - c) = e by omega]; exact ef, fun x h1 h2 => ?_⟩
      cases hf : f x with
      | false => rfl
      | true =>
        have hx : x ∈ own := (R.mem x).mpr ⟨by omega, by omega, hf⟩
        obtain ⟨j, hj⟩ := List.mem_iff_getElem?.mp hx
        rcases Nat.lt_trichotomy j i with q | q | q
        · have := R.lt hj hc q; omega
        · rw [q, hc] at hj; cases hj; omega
        · rcases Nat.lt_or_ge j (i + 2) with q2 | q2
          · obtain rfl : j = i + 1 := by omega
            rw [he] at hj; cases hj; omega
          · have := R.lt he hj (by omega); omega
    · refine ⟨o0 + W - c, by rw [if_neg h, hh], by omega, by omega, ?_, fun x h1 h2 => ?_⟩
      · rw [show c + (o0 + W - c) = o0 + 1 * W by omega, R.per']; exact af
      · cases hf : f x with
        | false => rfl
        | true =>
          rcases Int.lt_or_le x W with q | q
          · have hx : x ∈ own := (R.mem x).mpr ⟨by omega, q, hf⟩
            obtain ⟨j, hj⟩ := List.mem_iff_getElem?.mp hx
            have hjl := (List.getElem?_eq_some_iff.mp hj).1
            rcases Nat.lt_or_ge j i with q2 | q2
            · have := R.lt hj hc q2; omega
            · obtain rfl : j = i := by omega
              rw [hc] at hj; cases hj; omega
          · have hf2 : f (x - W) = true := by rw [← R.per' (x - W) 1, show x - W + 1 * W = x by omega]; exact hf
            have hx : x - W ∈ own := (R.mem _).mpr ⟨by omega, by omega, hf2⟩
            obtain ⟨j, hj⟩ := List.mem_iff_getElem?.mp hx
            rcases Nat.eq_zero_or_pos j with q2 | q2
            · rw [q2, ho0] at hj; cases hj; omega
            · have := R.lt ho0 hj q2; omega
  rw [← hd]
  have e : cnt (fun k => !f (c + 1 + (k : Nat))) W.toNat = (d - 1).toNat := by
    refine cnt_eq (by omega) (fun k hk => ?_) fun hk => ?_
    · rw [dn (c + 1 + (k : Nat)) (by omega) (by omega)]; rfl
    · have : c + 1 + (((d - 1).toNat : Nat) : Int) = c + d := by omega
      rw [this, df]; rfl
  unfold nxN
  rw [e]
  omega
theorem Ring.steps_eq (R : Ring W f own) (hne : own ≠ []) : stepsL W own = own.map fun c => ((nxN W f c : Nat) : Int) := by
  apply List.ext_getElem?
  intro i
  rw [List.getElem?_map]
  cases hc : own[i]? with
  | none =>
    have : own.length ≤ i := List.getElem?_eq_none_iff.mp hc
    rw [List.getElem?_eq_none (by rw [stepsL_len hne]; exact this)]
    rfl
  | some c => rw [stepsL_get hc, ← R.step_eq hc]; rfl
/-- round the ring -/
theorem Ring.round (R : Ring W f own) {i : Nat} {c : Int} (hc : own[i]? = some c) : own[(i + 1) % own.length]? = some ((c + (nxN W f c : Nat)) % W) := by
  have hp := R.pos
  have hi := (List.getElem?_eq_some_iff.mp hc).1
  rw [R.step_eq hc]
  by_cases h : i + 1 < own.length
  · rw [if_pos h, Nat.mod_eq_of_lt h, List.getElem?_eq_getElem h]
    have hg : own.getD (i + 1) 0 = own[i + 1] := by rw [List.getD_eq_getElem?_getD, List.getElem?_eq_getElem h]; rfl
    obtain ⟨e0, e1, _⟩ := (R.mem own[i + 1]).mp (List.getElem_mem h)
    rw [hg, show c + (own[i + 1] - c) = own[i + 1] by omega, Int.emod_eq_of_lt e0 e1]
  · have e : i + 1 = own.length := by omega
    have h0 : 0 < own.length := by omega
    rw [if_neg h, e, Nat.mod_self, List.getElem?_eq_getElem h0]
    obtain ⟨e0, e1, _⟩ := (R.mem own[0]).mp (List.getElem_mem h0)
    have hh : own.headD 0 = own[0] := by
      cases own with
      | nil => simp at h0
      | cons x r => rfl
    rw [hh, show c + (own[0] + W - c) = own[0] + 1 * W by omega, Int.add_mul_emod_self_right, Int.emod_eq_of_lt e0 e1]
theorem nx_one {c : Int} (hW : 0 < W) : nxN W f c = 1 ↔ f (c + 1) = true := by
  unfold nxN
  constructor
  · intro h
    have h0 : cnt (fun k => !f (c + 1 + (k : Nat))) W.toNat = 0 := by omega
    have := cnt_no (fun k => !f (c + 1 + (k : Nat))) W.toNat (by omega)
    rw [h0] at this
    simpa using this
  · intro h
    have : cnt (fun k => !f (c + 1 + (k : Nat))) W.toNat = 0 := cnt_eq (Nat.zero_le _) (fun k hk => by omega) fun _ => by simpa using h
    omega
/-- what stands ahead of one that is not the next of one that fits -/
theorem Ring.ahead (R : Ring W f own) {i : Nat} {p c : Int} (hp : own[i]? = some p) (hc : own[(i + 1) % own.length]? = some c) : decide (((nxN W f p : Nat) : Int) > 1) = !f (c - 1) := by
  have hW := R.pos
  have e := R.round hp
  rw [hc] at e
  have e : c = (p + (nxN W f p : Nat)) % W := Option.some.inj e
  have e2 : f (c - 1) = f (p + (nxN W f p : Nat) - 1) := R.per _ _ (by
    have := mod_add (W := W) (a := c) (b := p + (nxN W f p : Nat)) (by rw [e]; exact Int.emod_emod_of_dvd _ (Int.dvd_refl W)) (-1)
    exact this)
  have pf := ((R.mem p).mp (List.mem_of_getElem? hp)).2.2
  have h1 : 1 ≤ nxN W f p := by unfold nxN; omega
  rw [e2]
  by_cases h : nxN W f p = 1
  · rw [h, show p + ((1 : Nat) : Int) - 1 = p by omega, pf]
    simp
  · have h2 : 1 < nxN W f p := by omega
    have h3 := cnt_yes (fun k => !f (p + 1 + (k : Nat))) W.toNat (nxN W f p - 2) (by unfold nxN at h2 ⊢; omega)
    have h4 : f (p + (nxN W f p : Nat) - 1) = false := by
      have : p + 1 + (((nxN W f p - 2 : Nat)) : Int) = p + (nxN W f p : Nat) - 1 := by omega
      rw [this] at h3
      simpa using h3
    rw [h4, decide_eq_true (by omega)]
    rfl
end
/-- the least of the pairs (less the size, begin), begins ascending -/
theorem best_min {r : Int → Nat} {l : List Int} (asc : l.Pairwise (· < ·)) (hpos : ∀ c ∈ l, 0 < r c) {t : List Int} {ts : List (List Int)} (e : t :: ts = l.map fun b => [-((r b : Nat) : Int), b]) :
    minT t ts = [-(((bestOf r l).1 : Nat) : Int), (bestOf r l).2] := by
  obtain ⟨b1, b2, b3, b4⟩ := best_fold r l (0, 0)
  have b2 : ∀ c ∈ l, r c ≤ (bestOf r l).1 := b2
  have b3 : bestOf r l = (0, 0) ∨ ((bestOf r l).2 ∈ l ∧ r (bestOf r l).2 = (bestOf r l).1 ∧ 0 < (bestOf r l).1) := b3
  have b4 : 0 < (bestOf r l).1 → ∀ c ∈ l, r c = (bestOf r l).1 → (bestOf r l).2 ≤ c := fun h => b4 asc h
  clear b1
  obtain ⟨⟨M, c0⟩, eB⟩ : ∃ B, bestOf r l = B := ⟨_, rfl⟩
  rw [eB] at b2 b3 b4 ⊢
  dsimp only at b2 b3 b4 ⊢
  have hM : 0 < M := by
    cases l with
    | nil => cases e
    | cons x r' => have h1 := hpos x (by simp); have h2 := b2 x (by simp); omega
  obtain ⟨m1, m2⟩ : c0 ∈ l ∧ r c0 = M := by
    rcases b3 with q | q
    · cases q; omega
    · exact ⟨q.1, q.2.1⟩
  obtain ⟨h1, h2⟩ := minT_mem t ts
  rw [e] at h1 h2
  obtain ⟨b, hb, eb⟩ := List.mem_map.mp h1
  have h3 := h2 _ (List.mem_map.mpr ⟨c0, m1, rfl⟩)
  rw [← eb] at h3 ⊢
  have h4 := b2 b hb
  rw [pair_le, m2] at h3
  have e5 : r b = M := by omega
  have h6 := b4 hM b hb e5
  have e7 : b = c0 := by omega
  rw [e5, e7]
/-- the best of an ascending list, told by what it is -/
theorem best_is {r : Int → Nat} {l : List Int} (asc : l.Pairwise (· < ·)) {M : Nat} {c0 : Int} (hM : 0 < M) (h1 : c0 ∈ l) (h2 : r c0 = M) (h3 : ∀ c ∈ l, r c ≤ M) (h4 : ∀ c ∈ l, r c = M → c0 ≤ c) : bestOf r l = (M, c0) := by
  obtain ⟨b1, b2, b3, b4⟩ := best_fold r l (0, 0)
  have b2 : ∀ c ∈ l, r c ≤ (bestOf r l).1 := b2
  have b3 : bestOf r l = (0, 0) ∨ ((bestOf r l).2 ∈ l ∧ r (bestOf r l).2 = (bestOf r l).1 ∧ 0 < (bestOf r l).1) := b3
  have b4 : 0 < (bestOf r l).1 → ∀ c ∈ l, r c = (bestOf r l).1 → (bestOf r l).2 ≤ c := fun h => b4 asc h
  have h5 := b2 c0 h1
  rcases b3 with q | ⟨q1, q2, q3⟩
  · rw [q] at h5; dsimp only at h5; omega
  · have h6 := h3 _ q1
    have e : (bestOf r l).1 = M := by omega
    have h7 := b4 q3 c0 h1 (by omega)
    have h8 := h4 _ q1 (by omega)
    exact Prod.ext e (by show (bestOf r l).2 = c0; omega)
theorem best_none {r : Int → Nat} : ∀ {l : List Int}, (∀ c ∈ l, r c = 0) → bestOf r l = (0, 0)
  | [], _ => rfl
  | x :: l, h => by
    have h0 := h x (by simp)
    show l.foldl _ (if r x > 0 then (r x, x) else (0, 0)) = _
    rw [if_neg (by omega)]
    exact best_none fun c hc => h c (by simp [hc])
/-! counts: how often each comes -/
def kN (ps : List (Int × Int)) : List (Key × V) := ps.map fun p => (.inl p.1, .int p.2)
def getN (ps : List (Int × Int)) (s : Int) : Int := match ps.find? (fun p => decide (p.1 = s)) with
  | some p => p.2
  | none => 0
def bump (ps : List (Int × Int)) (s : Int) : List (Int × Int) := if ps.any (fun p => decide (p.1 = s)) then ps.map (fun p => if p.1 = s then (p.1, getN ps s + 1) else p) else ps ++ [(s, getN ps s + 1)]
def countS (l : List Int) : List (Int × Int) := l.foldl bump []
theorem valV_kN (ps : List (Int × Int)) (s : Int) : valV (kN ps) (.inl s) = (ps.find? (fun p => decide (p.1 = s))).map fun p => .int p.2 := by
  unfold valV kN
  rw [List.find?_map, Option.map_map]
  have e : ((fun kv : Key × V => decide (kv.1 = Sum.inl s)) ∘ fun p : Int × Int => ((Sum.inl p.1 : Key), V.int p.2)) = fun p => decide (p.1 = s) := by
    funext p
    simp only [Function.comp]
    exact decide_eq_decide.mpr ⟨fun h => by injection h, fun h => by rw [h]⟩
  rw [e]
  rfl
theorem putK_kN (ps : List (Int × Int)) (s v : Int) : putK (kN ps) (.inl s) (.int v) = kN (if ps.any (fun p => decide (p.1 = s)) then ps.map (fun p => if p.1 = s then (p.1, v) else p) else ps ++ [(s, v)]) := by
  unfold putK kN
  rw [List.any_map]
  have e : ((fun kv : Key × V => decide (kv.1 = Sum.inl s)) ∘ fun p : Int × Int => ((Sum.inl p.1 : Key), V.int p.2)) = fun p => decide (p.1 = s) := by
    funext p
    simp only [Function.comp]
    exact decide_eq_decide.mpr ⟨fun h => by injection h, fun h => by rw [h]⟩
  rw [e]
  split
  · rw [List.map_map, List.map_map]
    apply List.map_congr_left
    intro p _
    simp only [Function.comp]
    by_cases h : p.1 = s
    · rw [if_pos (by rw [h]), if_pos h] <;> rw [h]
    · rw [if_neg (fun z => h (by injection z)), if_neg h]
  · rw [List.map_append]
    rfl
theorem putK_bump (ps : List (Int × Int)) (s : Int) : putK (kN ps) (.inl s) (.int (getN ps s + 1)) = kN (bump ps s) := putK_kN ps s _
theorem bump_len (ps : List (Int × Int)) (s : Int) : (bump ps s).length ≤ ps.length + 1 := by
  unfold bump
  split <;> simp
theorem countS_len : ∀ (l : List Int) (ps : List (Int × Int)), (l.foldl bump ps).length ≤ ps.length + l.length
  | [], ps => by simp
  | x :: l, ps => by
    have h1 := countS_len l (bump ps x)
    have h2 := bump_len ps x
    rw [List.foldl_cons, List.length_cons]
    omega
theorem keyI_N : ∀ ps : List (Int × Int), ((kN ps).mapM fun kv => keyI kv.1) = some (ps.map Prod.fst)
  | [] => rfl
  | p :: r => by
    show (List.mapM (fun kv : Key × V => keyI kv.1) ((.inl p.1, .int p.2) :: kN r)) = _
    rw [List.mapM_cons, keyI_N r]
    rfl
theorem gSortD_N (ps : List (Int × Int)) : gSortD [.dK (kN ps)] = some (.o (oL ((sortI (ps.map Prod.fst)).map .int))) := by
  unfold gSortD
  dsimp only
  rw [keyI_N]
  rfl
theorem gIxK_N {ps : List (Int × Int)} {s : Int} (h : s ∈ ps.map Prod.fst) : gIxK (.dK (kN ps)) (.int s) = some (.d (.int (getN ps s))) := by
  unfold gIxK gVal
  dsimp only
  rw [valV_kN]
  unfold getN
  cases e : ps.find? (fun p => decide (p.1 = s)) with
  | none =>
    obtain ⟨p, hp, rfl⟩ := List.mem_map.mp h
    have := List.find?_eq_none.mp e p hp
    simp at this
  | some p => rfl
theorem gVal_N (ps : List (Int × Int)) (s : Int) : (gVal (.dK (kN ps)) (.int s) = some (some (.int (getN ps s)))) ∨ (gVal (.dK (kN ps)) (.int s) = some none ∧ getN ps s = 0) := by
  unfold gVal
  dsimp only
  rw [valV_kN]
  unfold getN
  cases e : ps.find? (fun p => decide (p.1 = s)) with
  | none => exact .inr ⟨rfl, rfl⟩
  | some p => exact .inl rfl
/-- sorted, each with how often -/
def tellS (ps : List (Int × Int)) : List (Int × Int) := (sortI (ps.map Prod.fst)).map fun s => (s, getN ps s)
abbrev pI (p : Int × Int) : D := .tup [.int p.1, .int p.2]
end RL

namespace RL
open PySem PySem.Spec PyProof.Rows L2
/-! bars in another order -/
theorem fits_perm {a b : List Bar} (h : b.Perm a) (n : Int) : fitsB b n = fitsB a n := h.all_eq
theorem whole_perm {a b : List Bar} (h : b.Perm a) : wholeOf b = wholeOf a := by
  unfold wholeOf
  refine h.foldl_eq' (fun x _ y _ z => ?_) 1
  congr 1
  rw [Int.lcm_assoc, Int.lcm_comm (a := x.1), ← Int.lcm_assoc]
theorem own_order {a b : List Bar} (h : b.Perm a) : ownOf b = ownOf a := by
  unfold ownOf
  rw [whole_perm h]
  exact List.filter_congr fun x _ => fits_perm h x
theorem many_perm {a b : List Bar} (h : b.Perm a) : manyOf b = manyOf a := by
  unfold manyOf
  exact h.foldl_eq' (fun x _ y _ z => Int.mul_right_comm _ _ _) 1
theorem BarsOk.perm {a b : List Bar} (ha : BarsOk a) (h : b.Perm a) : BarsOk b := ⟨by rw [h.length_eq]; exact ha.len, fun x hx => ha.ok x (h.mem_iff.mp hx), by rw [whole_perm h]; exact ha.whole, by rw [many_perm h]; exact ha.many⟩
theorem all_perm {a b c d : List Bar} (h1 : b.Perm a) (h2 : d.Perm c) (ha : ∀ x ∈ a, BarOk x) (hc : ∀ x ∈ c, BarOk x) : hasAll b d = hasAll a c := by
  rw [Bool.eq_iff_iff, hasAll_iff ha hc, hasAll_iff (fun x hx => ha x (h1.mem_iff.mp hx)) (fun x hx => hc x (h2.mem_iff.mp hx))]
  have : ∀ n, outB b d n = outB a c n := fun n => by unfold outB; rw [fits_perm h1, fits_perm h2]
  simp only [this]
theorem all_self {a : List Bar} (ha : ∀ x ∈ a, BarOk x) : hasAll a a = true := by
  rw [hasAll_iff ha ha]
  intro n
  unfold outB
  cases fitsB a n <;> rfl
/-- an order of the first n indexes -/
structure Ord (n : Nat) (o : List Int) : Prop where
  perm : o.Perm (zr n)
def atO (o : List Int) (i : Int) : Int := o.getD i.toNat 0
variable {n : Nat} {o : List Int}
theorem Ord.len (h : Ord n o) : o.length = n := by rw [h.perm.length_eq, zr_len]
theorem Ord.nodup (h : Ord n o) : o.Nodup := h.perm.nodup_iff.mpr (asc_nodup (zr_asc n))
theorem Ord.get (h : Ord n o) {i : Int} (h0 : 0 ≤ i) (h1 : i < n) : o[i.toNat]? = some (atO o i) := by
  have := h.len
  unfold atO
  rw [List.getD_eq_getElem?_getD, List.getElem?_eq_getElem (by omega)]
  rfl
theorem Ord.at_mem (h : Ord n o) {i : Int} (h0 : 0 ≤ i) (h1 : i < n) : 0 ≤ atO o i ∧ atO o i < n := mem_zr.mp (h.perm.mem_iff.mp (List.mem_of_getElem? (h.get h0 h1)))
theorem Ord.inj (h : Ord n o) {i j : Int} (hi : 0 ≤ i ∧ i < n) (hj : 0 ≤ j ∧ j < n) (e : atO o i = atO o j) : i = j := by
  have e1 := h.get hi.1 hi.2
  have e2 := h.get hj.1 hj.2
  rw [e] at e1
  have hl := h.len
  have := (List.getElem?_inj (i := i.toNat) (j := j.toNat) (by omega) h.nodup).mp (e1.trans e2.symm)
  omega
theorem Ord.onto (h : Ord n o) {x : Int} (hx : 0 ≤ x ∧ x < n) : ∃ i : Int, (0 ≤ i ∧ i < n) ∧ atO o i = x := by
  obtain ⟨i, hi⟩ := List.mem_iff_getElem?.mp (h.perm.mem_iff.mpr (mem_zr.mpr hx))
  have hl := (List.getElem?_eq_some_iff.mp hi).1
  rw [h.len] at hl
  have := h.get (i := (i : Int)) (by omega) (by omega)
  rw [show ((i : Int)).toNat = i from rfl, hi] at this
  exact ⟨i, ⟨by omega, by omega⟩, (Option.some.inj this).symm⟩
theorem map_at_nodup (h : Ord n o) {l : List Int} (hl : l.Nodup) (hm : ∀ i ∈ l, 0 ≤ i ∧ i < n) : (l.map (atO o)).Nodup := by
  unfold List.Nodup
  rw [List.pairwise_map]
  exact hl.imp_of_mem fun {i j} hi hj q e => q (h.inj (hm i hi) (hm j hj) e)
/-- two rows of indexes, told by a test -/
theorem Ord.sorted (h : Ord n o) {A B : List Int} (hA : A.Pairwise (· < ·)) (hB : B.Nodup) (Q : Int → Prop) (mA : ∀ x, x ∈ A ↔ (0 ≤ x ∧ x < n) ∧ Q x) (mB : ∀ x, x ∈ B ↔ (0 ≤ x ∧ x < n) ∧ Q (atO o x)) : sortI (B.map (atO o)) = A := by
  refine (sortI_uniq ((List.perm_ext_iff_of_nodup (asc_nodup hA) (map_at_nodup h hB fun i hi => ((mB i).mp hi).1)).mpr fun x => ?_) (hA.imp fun q => Int.le_of_lt q)).symm
  rw [List.mem_map, mA]
  constructor
  · rintro ⟨hx, hq⟩
    obtain ⟨i, hi, rfl⟩ := h.onto hx
    exact ⟨i, (mB i).mpr ⟨hi, hq⟩, rfl⟩
  · rintro ⟨i, hi, rfl⟩
    obtain ⟨h1, h2⟩ := (mB i).mp hi
    exact ⟨h.at_mem h1.1 h1.2, h2⟩
/-- a set of indexes of the other order -/
def img (o t : List Int) : List Int := sortI (t.map (atO o))
theorem img_ok (h : Ord n o) {t : List Int} (ht : IxOk n t) : IxOk n (img o t) := by
  refine ⟨sortI_asc (map_at_nodup h (asc_nodup ht.1) ht.2), fun i hi => ?_⟩
  obtain ⟨j, hj, rfl⟩ := List.mem_map.mp (sortI_mem.mp hi)
  exact h.at_mem (ht.2 j hj).1 (ht.2 j hj).2
theorem img_len (t : List Int) : (img o t).length = t.length := by unfold img; rw [sortI_len, List.length_map]
theorem mem_img (h : Ord n o) {t : List Int} (ht : IxOk n t) {i : Int} (hi : 0 ≤ i ∧ i < n) : atO o i ∈ img o t ↔ i ∈ t := by
  unfold img
  rw [sortI_mem, List.mem_map]
  constructor
  · rintro ⟨j, hj, e⟩
    rw [← h.inj (ht.2 j hj) hi e]
    exact hj
  · intro q; exact ⟨i, q, rfl⟩
theorem img_inj (h : Ord n o) {s t : List Int} (hs : IxOk n s) (ht : IxOk n t) (e : img o s = img o t) : s = t := by
  refine asc_ext hs.1 ht.1 fun x => ?_
  constructor
  · intro q
    have := (mem_img h hs (hs.2 x q)).mpr q
    rw [e] at this
    exact (mem_img h ht (hs.2 x q)).mp this
  · intro q
    have := (mem_img h ht (ht.2 x q)).mpr q
    rw [← e] at this
    exact (mem_img h hs (ht.2 x q)).mp this
theorem img_onto (h : Ord n o) {s : List Int} (hs : IxOk n s) : ∃ t, IxOk n t ∧ img o t = s := by
  have ht : IxOk n ((zr n).filter fun i => decide (atO o i ∈ s)) := ⟨(zr_asc n).sublist List.filter_sublist, fun i hi => mem_zr.mp (List.mem_filter.mp hi).1⟩
  refine ⟨_, ht, asc_ext (img_ok h ht).1 hs.1 fun x => ?_⟩
  constructor
  · intro q
    obtain ⟨i, hi, rfl⟩ := h.onto ((img_ok h ht).2 x q)
    have := (mem_img h ht hi).mp q
    exact of_decide_eq_true (List.mem_filter.mp this).2
  · intro q
    obtain ⟨i, hi, rfl⟩ := h.onto (hs.2 x q)
    exact (mem_img h ht hi).mpr (List.mem_filter.mpr ⟨mem_zr.mpr hi, decide_eq_true q⟩)
theorem img_sets (h : Ord n o) {P P' : List Int → Bool} (hp : ∀ t, IxOk n t → P (img o t) = P' t) (k : Nat) : ((setsF n k).filter P).Perm (((setsF n k).filter P').map (img o)) := by
  refine filt_nodup_perm ((ascT_nodup (setsF_asc n k)).filter _) ?_ fun s => ?_
  · unfold List.Nodup
    rw [List.pairwise_map]
    exact ((ascT_nodup (setsF_asc n k)).filter _).imp_of_mem fun {s t} hs ht q e => q (img_inj h (mem_setsF.mp (List.mem_filter.mp hs).1).2 (mem_setsF.mp (List.mem_filter.mp ht).1).2 e)
  · rw [List.mem_map, List.mem_filter, mem_setsF]
    constructor
    · rintro ⟨⟨h1, h2⟩, h3⟩
      obtain ⟨t, ht, rfl⟩ := img_onto h h2
      rw [img_len] at h1
      exact ⟨t, List.mem_filter.mpr ⟨mem_setsF.mpr ⟨h1, ht⟩, by rw [← hp t ht]; exact h3⟩, rfl⟩
    · rintro ⟨t, ht, rfl⟩
      obtain ⟨h1, h2⟩ := List.mem_filter.mp ht
      obtain ⟨h3, h4⟩ := mem_setsF.mp h1
      exact ⟨⟨by rw [img_len]; exact h3, img_ok h h4⟩, by rw [hp t h4]; exact h2⟩
theorem kept_img (h : Ord n o) {P P' : List Int → Bool} (hp : ∀ t, IxOk n t → P (img o t) = P' t) : ((kept n P').map (img o)).mergeSort leL = kept n P ∧ SrtOk ((kept n P').map (img o)) := by
  have hk : ∀ k : Int, decide ((setsF n k.toNat).filter P ≠ []) = decide ((setsF n k.toNat).filter P' ≠ []) := fun k => by
    have := (img_sets h hp k.toNat).length_eq
    rw [List.length_map] at this
    rw [Bool.eq_iff_iff, decide_eq_true_iff, decide_eq_true_iff, ← List.length_pos_iff, ← List.length_pos_iff, this]
  unfold kept
  simp only [hk]
  cases e : (zr (n + 1)).find? (fun k => decide ((setsF n k.toNat).filter P' ≠ [])) with
  | none =>
    dsimp only
    exact ⟨by rw [List.map_nil, List.mergeSort_nil], .inl fun _ z => nomatch z⟩
  | some k =>
    dsimp only
    refine ⟨sortT_eq (img_sets h hp k.toNat) (((setsF_asc n k.toNat).filter _).imp fun q => List.le_of_lt q), ?_⟩
    have hm : ∀ t ∈ (setsF n k.toNat).filter P', t.length = k.toNat := fun t ht => (mem_setsF.mp (List.mem_filter.mp ht).1).1
    generalize (setsF n k.toNat).filter P' = L at hm
    rcases Nat.eq_zero_or_pos k.toNat with h0 | h0
    · cases L with
      | nil => exact .inl fun _ z => nomatch z
      | cons t r =>
        refine .inr ?_
        have := hm t (by simp)
        rw [h0, List.length_eq_zero_iff] at this
        rw [this]
        rfl
    · refine .inl fun s hs z => ?_
      obtain ⟨t, ht, rfl⟩ := List.mem_map.mp hs
      have h1 := hm t ht
      have h2 := img_len (o := o) t
      rw [z] at h2
      have h3 : ([] : List Int).length = 0 := rfl
      omega
/-! the bars -/
theorem pick_all (a : List Bar) : pickBs a (zr a.length) = a := by
  refine List.ext_getElem? fun i => ?_
  unfold pickBs zr
  rw [List.map_map, List.getElem?_map]
  rcases Nat.lt_or_ge i a.length with h | h
  · rw [List.getElem?_range h, List.getElem?_eq_getElem h]
    show some (a.getD (Int.ofNat i).toNat (1, [])) = _
    rw [show (Int.ofNat i).toNat = i from rfl, List.getD_eq_getElem?_getD, List.getElem?_eq_getElem h]
    rfl
  · rw [List.getElem?_eq_none h, List.getElem?_eq_none (by simpa using h)]
    rfl
theorem pick_ord {a : List Bar} (h : Ord a.length o) : (pickBs a o).Perm a := by
  have := h.perm.map fun i => a.getD i.toNat (1, ([] : List Int))
  have e := pick_all a
  unfold pickBs at e ⊢
  rw [e] at this
  exact this
theorem pick_get {a : List Bar} (h : Ord a.length o) {i : Int} (hi : 0 ≤ i ∧ i < a.length) : (pickBs a o).getD i.toNat (1, []) = a.getD (atO o i).toNat (1, []) := by
  have := h.get hi.1 hi.2
  unfold pickBs
  rw [List.getD_eq_getElem?_getD, List.getElem?_map, this]
  rfl
theorem pick_img {a : List Bar} (h : Ord a.length o) {t : List Int} (ht : IxOk a.length t) : (pickBs a (img o t)).Perm (pickBs (pickBs a o) t) := by
  have e : pickBs (pickBs a o) t = pickBs a (t.map (atO o)) := by
    unfold pickBs
    rw [List.map_map]
    refine List.map_congr_left fun i hi => ?_
    exact pick_get h (ht.2 i hi)
  rw [e]
  unfold img pickBs
  exact (sortI_perm _).map _
theorem drop_perm {a : List Bar} {k : Nat} (h : k < a.length) : (a.getD k (1, []) :: dropB a k).Perm a := by
  have e : a = a.take k ++ a.getD k (1, []) :: a.drop (k + 1) := by
    rw [List.getD_eq_getElem?_getD, List.getElem?_eq_getElem h]
    show a = a.take k ++ a[k] :: a.drop (k + 1)
    rw [← List.drop_eq_getElem_cons h, List.take_append_drop]
  unfold dropB
  have := (List.perm_middle (a := a.getD k (1, [])) (l₁ := a.take k) (l₂ := a.drop (k + 1))).symm
  rw [← e] at this
  exact this
theorem drop_ord {a : List Bar} (h : Ord a.length o) {i : Int} (hi : 0 ≤ i ∧ i < a.length) : (dropB (pickBs a o) i.toNat).Perm (dropB a (atO o i).toNat) := by
  have hl : (pickBs a o).length = a.length := (pick_ord h).length_eq
  have hx := h.at_mem hi.1 hi.2
  have h1 := drop_perm (a := pickBs a o) (k := i.toNat) (by omega)
  have h2 := drop_perm (a := a) (k := (atO o i).toNat) (by omega)
  rw [pick_get h hi] at h1
  exact ((h1.trans (pick_ord h)).trans h2.symm).cons_inv
theorem mem_broken {a : List Bar} {m x : Int} : x ∈ brokenL a m ↔ (0 ≤ x ∧ x < a.length) ∧ ¬ m % (a.getD x.toNat (1, [])).1 ∈ (a.getD x.toNat (1, [])).2 := by
  unfold brokenL
  rw [List.mem_map]
  constructor
  · rintro ⟨⟨i, b⟩, hp, rfl⟩
    obtain ⟨h1, h2⟩ := List.mem_filter.mp hp
    obtain ⟨j, hj⟩ := List.mem_iff_getElem?.mp h1
    rw [List.getElem?_zip_eq_some] at hj
    obtain ⟨h3, h4⟩ := hj
    have hlt := (List.getElem?_eq_some_iff.mp h4).1
    rw [List.getElem?_range hlt] at h3
    obtain rfl := Option.some.inj h3
    refine ⟨⟨by show (0 : Int) ≤ ((j : Nat) : Int); omega, by show ((j : Nat) : Int) < _; omega⟩, ?_⟩
    show ¬ m % (a.getD j (1, [])).1 ∈ (a.getD j (1, [])).2
    rw [List.getD_eq_getElem?_getD, h4]
    simpa using h2
  · rintro ⟨⟨h1, h2⟩, h3⟩
    have hlt : x.toNat < a.length := by omega
    refine ⟨(x.toNat, a.getD x.toNat (1, [])), List.mem_filter.mpr ⟨List.mem_iff_getElem?.mpr ⟨x.toNat, ?_⟩, by simpa using h3⟩, by show ((x.toNat : Nat) : Int) = x; omega⟩
    rw [List.getElem?_zip_eq_some]
    refine ⟨List.getElem?_range hlt, ?_⟩
    rw [List.getD_eq_getElem?_getD, List.getElem?_eq_getElem hlt]
    rfl
theorem broken_asc (a : List Bar) (m : Int) : (brokenL a m).Pairwise (· < ·) := by
  unfold brokenL
  rw [List.pairwise_map]
  have h1 : ((List.range a.length).zip a).Pairwise fun p q => p.1 < q.1 := by
    have h2 : (((List.range a.length).zip a).map Prod.fst).Pairwise (· < ·) := by
      rw [List.map_fst_zip (by simp)]
      exact List.pairwise_lt_range
    rw [List.pairwise_map] at h2
    exact h2
  exact (h1.sublist List.filter_sublist).imp fun q => by omega
theorem broken_ord {a : List Bar} (h : Ord a.length o) (m : Int) : sortI ((brokenL (pickBs a o) m).map (atO o)) = brokenL a m := by
  refine h.sorted (broken_asc a m) (asc_nodup (broken_asc _ m)) (fun x => ¬ m % (a.getD x.toNat (1, [])).1 ∈ (a.getD x.toNat (1, [])).2) (fun x => mem_broken) fun x => ?_
  rw [mem_broken, (pick_ord h).length_eq]
  constructor
  · rintro ⟨h1, h2⟩; rw [pick_get h h1] at h2; exact ⟨h1, h2⟩
  · rintro ⟨h1, h2⟩; rw [← pick_get h h1] at h2; exact ⟨h1, h2⟩
end RL

namespace RL
open PySem PySem.Spec PyProof.Rows L2
/-! tests that are chains of any length -/
section
variable {X : Cx}
abbrev TC := V → L2.St → Hp → (Bool → Hp → Prop) → Prop
structure CT (X : Cx) (ops : List CmpOp) (es : List Expr) (t : TC) : Prop where
  run : ∀ (pos : Pos) (pins : List (Addr × Obj)) (s : Shared) (σ : L2.St) (H : Hp) (Q : Bool → Hp → Prop) (x : V) (v : Value), Inv X pins σ H s → RelV x v → t x σ H Q →
    wpAny (model X.prog X.w) X.A (testChain pos v ops (evalEach es X.env)) (TP X pins σ Q) X.xe s
theorem ct_last {op : CmpOp} {r : R2} {b : Expr} {tb : TE} (ho : OpR X (compareOp op) r) (hb : PE X b tb) : CT X [op] [b] fun x σ H Q => tb σ H fun y H1 => r x y H1 fun z H2 => ∃ k, z = .bl k ∧ Q k H2 := by
  constructor
  intro pos pins s σ H Q x v I rx h
  refine test_last (thn (hb.run pins s σ H _ I h) ?_)
  rintro u s1 ⟨y, H1, I1, ry, q1⟩
  refine thn (ho pins s1 σ H1 x y v u _ I1 rx ry q1) ?_
  rintro d s2 ⟨z, H2, I2, rz, k, rfl, q2⟩
  cases rz
  exact wpAny_truthy_bool ⟨H2, I2, q2⟩
theorem ct_more {op op' : CmpOp} {ops : List CmpOp} {r : R2} {b e : Expr} {es : List Expr} {tb : TE} {t : TC} (ho : OpR X (compareOp op) r) (hb : PE X b tb) (hc : CT X (op' :: ops) (e :: es) t) :
    CT X (op :: op' :: ops) (b :: e :: es) fun x σ H Q => tb σ H fun y H1 => r x y H1 fun z H2 => ∃ k, z = .bl k ∧ if k = true then t y σ H2 Q else Q false H2 := by
  constructor
  intro pos pins s σ H Q x v I rx h
  refine test_link (thn (hb.run pins s σ H _ I h) ?_)
  rintro u s1 ⟨y, H1, I1, ry, q1⟩
  refine thn (ho pins s1 σ H1 x y v u _ I1 rx ry q1) ?_
  rintro d s2 ⟨z, H2, I2, rz, k, rfl, q2⟩
  cases rz
  refine wpAny_truthy_bool ?_
  cases k
  · exact ⟨H2, I2, q2⟩
  · exact hc.run pos pins s2 σ H2 Q y u I2 ry q2
theorem pt_ct {a b c : Expr} {es : List Expr} {op op' : CmpOp} {ops : List CmpOp} {pos : Pos} {ta : TE} {t : TC} (ha : PE X a ta) (hc : CT X (op :: op' :: ops) (b :: c :: es) t) (hm : lastMarks (op :: op' :: ops) (b :: c :: es) = false) :
    PT X (.Compare a (op :: op' :: ops) (b :: c :: es) pos) fun σ H Q => ta σ H fun x H1 => t x σ H1 Q := by
  constructor
  intro pins s σ H Q I h
  refine isTrue_chain (thn (ha.run pins s σ H _ I h) ?_) hm
  rintro v s1 ⟨x, H1, I1, rx, q1⟩
  exact hc.run pos pins s1 σ H1 Q x v I1 rx q1
end
section
variable {X : Cx} {K : PySem.W.Frag} {W : WX} {a b c e : Expr} {es : List Expr} {pos : Pos} {op op' : CmpOp} {ops : List CmpOp} {fa fb : FE}
/-- ints alone -/
structure DC (X : Cx) (K : PySem.W.Frag) (W : WX) (ops : List CmpOp) (es : List Expr) (f : Int → FT) : Prop where
  ct : CT X ops es fun x σ H Q => ∃ i, x = .int i ∧ LT K W (f i) σ H Q
def chL (p : Int → Int → Bool) (fb : FE) : Int → FT := fun i ρ => fb ρ >>= fun y => match y.1 with
  | .int j => .ok (p i j, y.2)
  | _ => .no
def chM (p : Int → Int → Bool) (fb : FE) (g : Int → FT) : Int → FT := fun i ρ => fb ρ >>= fun y => match y.1 with
  | .int j => if p i j = true then g j y.2 else .ok (false, y.2)
  | _ => .no
def chS (fa : FE) (g : Int → FT) : FT := fun ρ => fa ρ >>= fun x => match x.1 with
  | .int i => g i x.2
  | _ => .no
theorem CT.weak {t t' : TC} (h : CT X ops es t) (w : ∀ x σ H Q, t' x σ H Q → t x σ H Q) : CT X ops es t' := ⟨fun pos pins s σ H Q x v I rx q => h.run pos pins s σ H Q x v I rx (w _ _ _ _ q)⟩
theorem dc_last {p : Int → Int → Bool} (ho : OpR X (compareOp op) (rI0 fun i j => .bl (p i j))) (hb : DE X K W b fb) : DC X K W [op] [b] (chL p fb) := ⟨(ct_last ho hb.pe).weak fun x σ H Q ⟨i, ex, F, ρ, r, q⟩ => by
  subst ex
  refine ⟨F, ρ, r, (Post.bind q).mono fun y ρ1 F1 H1 A1 q1 u ru => ?_⟩
  cases y with
  | int j => exact ⟨i, j, rfl, ru.int_inv, _, rfl, q1 F1 H1 (Aft.refl A1.rel)⟩
  | _ => exact q1.elim⟩
theorem dc_more {p : Int → Int → Bool} {g : Int → FT} (ho : OpR X (compareOp op) (rI0 fun i j => .bl (p i j))) (hb : DE X K W b fb) (hc : DC X K W (op' :: ops) (e :: es) g) : DC X K W (op :: op' :: ops) (b :: e :: es) (chM p fb g) := ⟨(ct_more ho hb.pe hc.ct).weak fun x σ H Q ⟨i, ex, F, ρ, r, q⟩ => by
  subst ex
  refine ⟨F, ρ, r, (Post.bind q).mono fun y ρ1 F1 H1 A1 q1 u ru => ?_⟩
  cases y with
  | int j =>
    refine ⟨i, j, rfl, ru.int_inv, _, rfl, ?_⟩
    dsimp only at q1
    split
    · rename_i hx
      rw [if_pos hx] at q1
      exact ⟨j, ru.int_inv, F1, ρ1, A1.rel, q1⟩
    · rename_i hx
      rw [if_neg hx] at q1
      exact q1 F1 H1 (Aft.refl A1.rel)
  | _ => exact q1.elim⟩
theorem dt_chs {g : Int → FT} (ha : DE X K W a fa) (hc : DC X K W (op :: op' :: ops) (b :: c :: es) g) (hm : lastMarks (op :: op' :: ops) (b :: c :: es) = false := by with_unfolding_all rfl) : DT X K W (.Compare a (op :: op' :: ops) (b :: c :: es) pos) (chS fa g) := ⟨(pt_ct ha.pe hc.ct hm).weak fun σ H Q ⟨F, ρ, r, q⟩ => by
  refine ⟨F, ρ, r, (Post.bind q).mono fun y ρ1 F1 H1 A1 q1 u ru => ?_⟩
  cases y with
  | int i => exact ⟨i, ru.int_inv, F1, ρ1, A1.rel, q1⟩
  | _ => exact q1.elim⟩
end
end RL

namespace RL
open PySem PySem.Spec PyProof.Rows L2
/-! numbers by their rests: pair by pair is enough -/
theorem nat_pair {g w b : Nat} (h : g ∣ Nat.lcm w b) : g ∣ Nat.lcm (Nat.gcd g w) (Nat.gcd g b) := by
  rcases Nat.eq_zero_or_pos g with rfl | hg
  · rw [Nat.gcd_zero_left, Nat.gcd_zero_left]
    exact h
  have he : 0 < Nat.gcd (Nat.gcd g w) (Nat.gcd g b) := Nat.gcd_pos_of_pos_left _ (Nat.gcd_pos_of_pos_left _ hg)
  have e1 := Nat.gcd_dvd_left (Nat.gcd g w) (Nat.gcd g b)
  have e2 := Nat.gcd_dvd_right (Nat.gcd g w) (Nat.gcd g b)
  have key : Nat.gcd (Nat.gcd g w) (Nat.gcd g b) * g ∣ Nat.gcd g w * Nat.gcd g b := by
    rw [← Nat.gcd_mul_left]
    refine Nat.dvd_gcd (Nat.mul_dvd_mul e1 (Nat.dvd_refl g)) ?_
    rw [show Nat.gcd g w * b = Nat.gcd (g * b) (w * b) from (Nat.gcd_mul_right g b w).symm]
    refine Nat.dvd_gcd ?_ ?_
    · rw [Nat.mul_comm g b]
      exact Nat.mul_dvd_mul (Nat.dvd_trans e2 (Nat.gcd_dvd_right ..)) (Nat.dvd_refl g)
    · rw [show w * b = Nat.gcd w b * Nat.lcm w b from (Nat.gcd_mul_lcm w b).symm]
      exact Nat.mul_dvd_mul (Nat.dvd_gcd (Nat.dvd_trans e1 (Nat.gcd_dvd_right ..)) (Nat.dvd_trans e2 (Nat.gcd_dvd_right ..))) h
  rw [← Nat.gcd_mul_lcm (Nat.gcd g w)] at key
  exact Nat.dvd_of_mul_dvd_mul_left he key
theorem pair_dvd {w b m t : Int} (h1 : ((Int.gcd w m : Nat) : Int) ∣ t) (h2 : ((Int.gcd b m : Nat) : Int) ∣ t) : ((Int.gcd ((Int.lcm w b : Nat) : Int) m : Nat) : Int) ∣ t := by
  rw [← Int.natAbs_dvd_natAbs, Int.natAbs_natCast] at h1 h2 ⊢
  have h3 : Int.gcd ((Int.lcm w b : Nat) : Int) m ∣ Nat.lcm w.natAbs b.natAbs := by
    have : Int.gcd ((Int.lcm w b : Nat) : Int) m = Nat.gcd (Nat.lcm w.natAbs b.natAbs) m.natAbs := rfl
    rw [this]
    exact Nat.gcd_dvd_left ..
  have hm : Int.gcd ((Int.lcm w b : Nat) : Int) m ∣ m.natAbs := Nat.gcd_dvd_right ..
  generalize Int.gcd ((Int.lcm w b : Nat) : Int) m = g at h3 hm
  refine Nat.dvd_trans (nat_pair h3) (Nat.lcm_dvd (Nat.dvd_trans ?_ h1) (Nat.dvd_trans ?_ h2))
  · exact Nat.dvd_gcd (Nat.gcd_dvd_right ..) (Nat.dvd_trans (Nat.gcd_dvd_left ..) hm)
  · exact Nat.dvd_gcd (Nat.gcd_dvd_right ..) (Nat.dvd_trans (Nat.gcd_dvd_left ..) hm)
theorem whole_pair {m t : Int} : ∀ (n : Nat) (bs : List Bar), bs.length = n → (∀ b ∈ bs, ((Int.gcd b.1 m : Nat) : Int) ∣ t) → ((Int.gcd (wholeOf bs) m : Nat) : Int) ∣ t
  | 0, bs, h, _ => by
    rw [List.length_eq_zero_iff.mp h]
    have : Int.gcd (wholeOf []) m = 1 := by show Int.gcd 1 m = 1; simp
    rw [this]
    exact Int.one_dvd t
  | n + 1, bs, h, hb => by
    have hn : bs ≠ [] := fun e => by rw [e] at h; cases h
    have e : bs = bs.dropLast ++ [bs.getLast hn] := (List.dropLast_concat_getLast hn).symm
    rw [e] at hb ⊢
    rw [wholeOf_app]
    exact pair_dvd (whole_pair n _ (by simp [h]) fun b q => hb b (by simp [q])) (hb _ (by simp))
/-- the rests of a number -/
def res (bs : List Bar) (x : Int) : List Int := bs.map fun b => x % b.1
/-- a rest goes with those before -/
def goodB (bs : List Bar) (c : List Int) (m r : Int) : Bool := (zr c.length).all fun k => decide ((c.getD k.toNat 0 - r) % ((Int.gcd (bs.getD k.toNat (1, [])).1 m : Nat) : Int) = 0)
def longerC (bs : List Bar) (b : Bar) (c : List Int) : List (List Int) := (b.2.filter (goodB bs c b.1)).map fun r => c ++ [r]
def stepC (bs : List Bar) (cs : List (List Int)) (b : Bar) : List (List Int) := cs.flatMap (longerC bs b)
def chosen (bs : List Bar) (k : Nat) : List (List Int) := (bs.take k).foldl (stepC bs) [[]]
theorem chosen_succ {bs : List Bar} {k : Nat} {b : Bar} (h : bs[k]? = some b) : chosen bs (k + 1) = stepC bs (chosen bs k) b := by
  unfold chosen
  rw [take_succ_of h, List.foldl_append]
  rfl
theorem res_len (bs : List Bar) (x : Int) : (res bs x).length = bs.length := List.length_map _
theorem res_get {bs : List Bar} {k : Nat} {b : Bar} (h : bs[k]? = some b) (x : Int) : (res bs x).getD k 0 = x % b.1 := by
  unfold res
  rw [List.getD_eq_getElem?_getD, List.getElem?_map, h]
  rfl
theorem good_iff {bs : List Bar} (hb : ∀ b ∈ bs, BarOk b) {k : Nat} (hk : k ≤ bs.length) {x m r : Int} : goodB bs (res (bs.take k) x) m r = true ↔ ∀ b ∈ bs.take k, ((Int.gcd b.1 m : Nat) : Int) ∣ x - r := by
  unfold goodB
  rw [List.all_eq_true, res_len, List.length_take, Nat.min_eq_left hk]
  have key : ∀ (i : Nat) (b : Bar), bs[i]? = some b → i < k → (((res (bs.take k) x).getD i 0 - r) % ((Int.gcd b.1 m : Nat) : Int) = 0 ↔ ((Int.gcd b.1 m : Nat) : Int) ∣ x - r) := fun i b hi hik => by
    rw [res_get (by rw [List.getElem?_take_of_lt hik]; exact hi)]
    have h1 : ((Int.gcd b.1 m : Nat) : Int) ∣ x - x % b.1 := Int.dvd_trans (Int.gcd_dvd_left ..) (dvd_sub_emod x b.1)
    rw [← Int.dvd_iff_emod_eq_zero]
    constructor
    · intro h2
      have := Int.dvd_add h1 h2
      have e : x - x % b.1 + (x % b.1 - r) = x - r := by omega
      rwa [e] at this
    · intro h2
      have := Int.dvd_sub h2 h1
      have e : x - r - (x - x % b.1) = x % b.1 - r := by omega
      rwa [e] at this
  constructor
  · intro h b hbm
    obtain ⟨i, hi⟩ := List.mem_iff_getElem?.mp hbm
    have hik : i < k := by
      have := (List.getElem?_eq_some_iff.mp hi).1
      rw [List.length_take] at this
      omega
    rw [List.getElem?_take_of_lt hik] at hi
    have := h (i : Int) (mem_zr.mpr ⟨by omega, by omega⟩)
    rw [decide_eq_true_iff, show ((i : Int)).toNat = i from rfl, List.getD_eq_getElem?_getD (l := bs), hi] at this
    exact (key i b hi hik).mp this
  · intro h i hi
    obtain ⟨i0, i1⟩ := mem_zr.mp hi
    have hlt : i.toNat < bs.length := by omega
    have hg := List.getElem?_eq_getElem hlt
    rw [decide_eq_true_iff, List.getD_eq_getElem?_getD (l := bs), hg]
    exact (key _ _ hg (by omega)).mpr (h _ (List.mem_iff_getElem?.mpr ⟨i.toNat, by rw [List.getElem?_take_of_lt (by omega)]; exact hg⟩))
theorem res_same {bs : List Bar} {x y : Int} (h : wholeOf bs ∣ y - x) : res bs y = res bs x := List.map_congr_left fun b hb => Int.emod_eq_emod_iff_emod_sub_eq_zero.mpr (Int.emod_eq_zero_of_dvd (Int.dvd_trans (dvd_whole hb) h))
theorem mem_chosen {bs : List Bar} (hb : ∀ b ∈ bs, BarOk b) (hl : bs.length ≤ 6) : ∀ (k : Nat), k ≤ bs.length → ∀ c, c ∈ chosen bs k ↔ ∃ x, fitsB (bs.take k) x = true ∧ c = res (bs.take k) x
  | 0, _, c => by
    show c ∈ [[]] ↔ _
    rw [List.mem_singleton]
    constructor
    · rintro rfl; exact ⟨0, rfl, rfl⟩
    · rintro ⟨x, _, rfl⟩; rfl
  | k + 1, hk, c => by
    have hg := List.getElem?_eq_getElem (show k < bs.length by omega)
    generalize bs[k] = b at hg
    have hbo := hb b (List.mem_of_getElem? hg)
    have hm := hbo.m0
    have htk : ∀ x ∈ bs.take k, BarOk x := fun x hx => hb x (List.mem_of_mem_take hx)
    have hw := (wholeOf_lt (bs := bs.take k) (by rw [List.length_take]; omega) fun x hx => ⟨(htk x hx).m0, (htk x hx).m1⟩).1
    rw [chosen_succ hg, take_succ_of hg]
    unfold stepC
    rw [List.mem_flatMap]
    constructor
    · rintro ⟨c0, hc0, hc⟩
      obtain ⟨x, hx, rfl⟩ := (mem_chosen hb hl k (by omega) c0).mp hc0
      obtain ⟨r, hr, rfl⟩ := List.mem_map.mp hc
      obtain ⟨r1, r2⟩ := List.mem_filter.mp hr
      have h1 := (good_iff hb (by omega)).mp r2
      have h2 := whole_pair _ _ rfl h1
      have h3 : ((Int.gcd (wholeOf (bs.take k)) b.1 : Nat) : Int) ∣ r - x := by
        have := Int.dvd_neg.mpr h2
        rwa [show -(x - r) = r - x by omega] at this
      obtain ⟨y, y1, y2⟩ := crt_any (c := x) (t := r) hw hm (by have := hbo.m1; omega) h3
      have hyr : y % b.1 = r := by
        rw [Int.emod_eq_emod_iff_emod_sub_eq_zero.mpr (Int.emod_eq_zero_of_dvd y2)]
        exact Int.emod_eq_of_lt (hbo.rng r r1).1 (hbo.rng r r1).2
      refine ⟨y, ?_, ?_⟩
      · rw [fits_app, fits_mod y1, hx, hyr, decide_eq_true r1]
        rfl
      · rw [← res_same y1]
        unfold res
        rw [List.map_append, List.map_singleton, hyr]
    · rintro ⟨x, hx, rfl⟩
      rw [fits_app, Bool.and_eq_true] at hx
      refine ⟨res (bs.take k) x, (mem_chosen hb hl k (by omega) _).mpr ⟨x, hx.1, rfl⟩, List.mem_map.mpr ⟨x % b.1, List.mem_filter.mpr ⟨of_decide_eq_true hx.2, (good_iff hb (by omega)).mpr fun a _ => ?_⟩, ?_⟩⟩
      · exact Int.dvd_trans (Int.gcd_dvd_right ..) (dvd_sub_emod x b.1)
      · unfold res
        rw [List.map_append]
        rfl
theorem chosen_nodup {bs : List Bar} (hb : ∀ b ∈ bs, BarOk b) : ∀ k : Nat, k ≤ bs.length → (chosen bs k).Nodup
  | 0, _ => by show [[]].Nodup; simp
  | k + 1, hk => by
    have hg := List.getElem?_eq_getElem (show k < bs.length by omega)
    generalize bs[k] = b at hg
    have hbo := hb b (List.mem_of_getElem? hg)
    rw [chosen_succ hg]
    unfold stepC List.Nodup
    rw [List.pairwise_flatMap]
    refine ⟨fun c _ => ?_, (chosen_nodup hb k (by omega)).imp fun {c d} hcd x hx y hy e => ?_⟩
    · unfold longerC
      rw [List.pairwise_map]
      exact ((asc_nodup hbo.asc).filter _).imp fun h q => h (by simpa using q)
    · obtain ⟨r, _, rfl⟩ := List.mem_map.mp hx
      obtain ⟨t, _, rfl⟩ := List.mem_map.mp hy
      exact hcd (List.append_inj_left' e rfl)
theorem chosen_perm {bs : List Bar} (hb : ∀ b ∈ bs, BarOk b) (hl : bs.length ≤ 6) (hw : 0 < wholeOf bs) : ((ownOf bs).map (res bs)).Perm (chosen bs bs.length) := by
  refine filt_nodup_perm ?_ (chosen_nodup hb _ (Nat.le_refl _)) fun c => ?_
  · unfold List.Nodup
    rw [List.pairwise_map]
    refine (own_asc bs).imp_of_mem fun {x y} hx hy hxy e => ?_
    obtain ⟨x0, x1, _⟩ := mem_own.mp hx
    obtain ⟨y0, y1, _⟩ := mem_own.mp hy
    have hd : ∀ b ∈ bs, b.1 ∣ (((y - x).toNat : Nat) : Int) := fun b hbm => by
      obtain ⟨i, hi⟩ := List.mem_iff_getElem?.mp hbm
      have h1 := res_get hi x
      rw [e, res_get hi y] at h1
      rw [show (((y - x).toNat : Nat) : Int) = y - x by omega]
      exact Int.dvd_of_emod_eq_zero (Int.emod_eq_emod_iff_emod_sub_eq_zero.mp h1)
    have h2 := Int.le_of_dvd (by omega) (whole_dvd hd)
    omega
  · rw [mem_chosen hb hl _ (Nat.le_refl _), List.take_length, List.mem_map]
    constructor
    · rintro ⟨x, hx, rfl⟩; exact ⟨x, (mem_own.mp hx).2.2, rfl⟩
    · rintro ⟨x, hx, rfl⟩
      refine ⟨x % wholeOf bs, (mem_own_iff hw).mpr hx, res_same ?_⟩
      have := Int.dvd_neg.mpr (dvd_sub_emod x (wholeOf bs))
      rwa [show -(x - x % wholeOf bs) = x % wholeOf bs - x by omega] at this
end RL

namespace RL
open PySem PySem.Spec PyProof.Rows L2
/-! dict comprehensions of two clauses -/
/-- one turn of a clause: what is done with a good one is em -/
def turnBy (tg iter : Expr) (ifs : List Expr) (it : Value) (env : Env) (em : Sem Fin) (c : Code) : Sem Fin := do
  standAt iter.pos
  match ← pyNext it with
  | none => pure (.done .next)
  | some v =>
    letOwnedTupleGo tg it v
    assign tg env v
    let mut ok := true
    for c in ifs do
      if ok then ok ← isTrue c env (eval c env)
    if ok then em else again c
/-- what the last clause does -/
def putIn (kx vx : Expr) (D : Addr) (env : Env) : Sem Unit := do
  let kv ← eval kx env
  let vv ← holding [kv] (eval vx env)
  standAt { kx.pos with endLine := vx.pos.endLine, endCol := vx.pos.endCol }
  holding [kv, vv] (dictSet D kv vv)
/-- what the first clause does -/
def goIn (e i1 : Expr) (D : Addr) (env : Env) (c : Code) : Sem Fin := do
  let x ← eval i1 env
  standAt i1.pos
  let x ← foldedSetIterable i1 env x
  let _ ← runOwn (.compStart e 1 (← holding [x] (pyIter x)) (.ref D) env) env
  again c
variable {kx vx t0 i0 t1 i1 : Expr} {f0 f1 : List Expr} {scope : Scope} {pos : Pos} {it : Value} {D : Addr} {env : Env}
theorem turn0_eq : compTurn (.DictComp kx vx [⟨t0, i0, f0, 0⟩, ⟨t1, i1, f1, 0⟩] scope pos) 0 it (.ref D) env = turnBy t0 i0 f0 it env (goIn (.DictComp kx vx [⟨t0, i0, f0, 0⟩, ⟨t1, i1, f1, 0⟩] scope pos) i1 D env (.compLoop (.DictComp kx vx [⟨t0, i0, f0, 0⟩, ⟨t1, i1, f1, 0⟩] scope pos) 0 it (.ref D) env)) (.compLoop (.DictComp kx vx [⟨t0, i0, f0, 0⟩, ⟨t1, i1, f1, 0⟩] scope pos) 0 it (.ref D) env) := by
  rfl
theorem turn1_eq : compTurn (.DictComp kx vx [⟨t0, i0, f0, 0⟩, ⟨t1, i1, f1, 0⟩] scope pos) 1 it (.ref D) env = turnBy t1 i1 f1 it env (do putIn kx vx D env; again (.compLoop (.DictComp kx vx [⟨t0, i0, f0, 0⟩, ⟨t1, i1, f1, 0⟩] scope pos) 1 it (.ref D) env)) (.compLoop (.DictComp kx vx [⟨t0, i0, f0, 0⟩, ⟨t1, i1, f1, 0⟩] scope pos) 1 it (.ref D) env) := by
  rfl
section
variable {P : Program} {w : World} {A : Around} {s : Shared}
/-- the tests of a clause, one by one -/
def allOk (ifs : List Expr) (env : Env) : Sem Bool := forIn ifs true fun c r => if r = true then do let ok ← isTrue c env (eval c env); pure (ForInStep.yield ok) else pure (ForInStep.yield r)
theorem turn_by {tg iter : Expr} {ifs : List Expr} {em : Sem Fin} {c : Code} {Q : PySem.Fin → Shared → Prop} {E : Value → Shared → Prop}
    (h : wpAny (model P w) A (pyNext it) (fun r s1 => match r with
      | none => Q (.done .next) s1
      | some v => wpAny (model P w) A (letOwnedTupleGo tg it v) (fun _ s2 => wpAny (model P w) A (assign tg env v) (fun _ s3 => wpAny (model P w) A (allOk ifs env) (fun ok s4 =>
          if ok = true then wpAny (model P w) A em Q E s4 else Q (.again c) s4) E s3) E s2) E s1) E s) : wpAny (model P w) A (turnBy tg iter ifs it env em c) Q E s := by
  unfold turnBy
  refine wpAny_bind (wpAny_standAt (wpAny_bind (thn h fun r s1 h1 => ?_)))
  cases r with
  | none => exact wpAny_pure h1
  | some v =>
    refine wpAny_bind (thn h1 fun _ s2 h2 => wpAny_bind (thn h2 fun _ s3 h3 => wpAny_bind (thn h3 fun ok s4 h4 => ?_)))
    cases ok with
    | false => exact wpAny_pure h4
    | true => exact h4
theorem loop_by {gs : List Comprehension} {d : Nat} {tg iter : Expr} {ifs : List Expr} {em : Sem Fin} {R : Result → Shared → Prop}
    (heq : compTurn (.DictComp kx vx gs scope pos) d it (.ref D) env = turnBy tg iter ifs it env em (.compLoop (.DictComp kx vx gs scope pos) d it (.ref D) env)) (I : Nat → Shared → Prop)
    (h : ∀ n s, I n s → wpAny (model P w) A (pyNext it) (fun r s1 => match r with
      | none => R (.ok .next) s1
      | some v => wpAny (model P w) A (letOwnedTupleGo tg it v) (fun _ s2 => wpAny (model P w) A (assign tg env v) (fun _ s3 => wpAny (model P w) A (allOk ifs env) (fun ok s4 =>
          if ok = true then wpAny (model P w) A em (fun fin s5 => fin = .again (.compLoop (.DictComp kx vx gs scope pos) d it (.ref D) env) ∧ ∃ m, m < n ∧ I m s5) (notedBy (model P w) A env fun e s' => R (.error e) s') s4 else ∃ m, m < n ∧ I m s4)
            (notedBy (model P w) A env fun e s' => R (.error e) s') s3) (notedBy (model P w) A env fun e s' => R (.error e) s') s2) (notedBy (model P w) A env fun e s' => R (.error e) s') s1) (notedBy (model P w) A env fun e s' => R (.error e) s') s)
    (n : Nat) (h0 : I n s) : codeAny (model P w) A (.compLoop (.DictComp kx vx gs scope pos) d it (.ref D) env) R s := by
  refine codeAny_loop rfl I (fun n s hI => ?_) n h0
  show wpAny _ A ((compTurn (.DictComp kx vx gs scope pos) d it (.ref D) env).onRaise (fun x => do noteFrame x env; theTreesLotGoes x)) _ _ s
  refine wpAny_noted ?_
  rw [heq]
  refine turn_by (thn (h n s hI) fun r s1 h1 => ?_)
  cases r with
  | none => exact h1
  | some v =>
    refine thn h1 fun _ s2 h2 => thn h2 fun _ s3 h3 => thn h3 fun ok s4 h4 => ?_
    cases ok with
    | false => exact ⟨rfl, h4⟩
    | true =>
      refine thn h4 fun fin s5 h5 => ?_
      obtain ⟨rfl, h6⟩ := h5
      exact ⟨rfl, h6⟩
end
/-! a clause in the block -/
def Knows (σ σ' : L2.St) : Prop := σ.length = σ'.length ∧ ∀ (j : Nat) v, σ[j]? = some (some v) → σ'[j]? = some (some v)
theorem Knows.refl (σ : L2.St) : Knows σ σ := ⟨rfl, fun _ _ e => e⟩
theorem Knows.trans {a b c : L2.St} (h : Knows a b) (k : Knows b c) : Knows a c := ⟨h.1.trans k.1, fun j v e => k.2 j v (h.2 j v e)⟩
theorem Knows.wipe (σ : L2.St) (vs : List Nat) : Knows (wipe σ vs) σ := ⟨wipe_length _ _, fun _ _ e => (wipe_some e).1⟩
theorem Knows.inv {Y : Cx} {pins : List (Addr × Obj)} {σ σ' : L2.St} {H : Hp} {s : Shared} (k : Knows σ σ') (I : Inv Y pins σ' H s) : Inv Y pins σ H s := I.weak k.1 k.2
/-- what a clause does, turn by turn: W goes down, Em is done with a good one -/
def Goes (J : It) (g : TG) (tt : TT) (σ0 : L2.St) (Em : L2.St → Hp → (Hp → Prop) → Prop) (Done : Hp → Prop) (W : Nat → Nat → Hp → Prop) : Prop := ∀ i m H, W i m H →
  (J.stop i H ∧ Done H) ∨ (J.go i H ∧ ∃ Nx : Hp → Prop, (∀ H', Nx H' → ∃ m', m' < m ∧ W (i + 1) m' H') ∧ ∀ x H', J.yld i H x H' → g x σ0 H' fun σ2 H2 => Knows σ0 σ2 ∧ tt σ2 H2 fun b H3 => if b = true then Em σ2 H3 Nx else Nx H3)
theorem clause_go {Y : Cx} {gs : List Comprehension} {d : Nat} {tg iter : Expr} {ifs : List Expr} {em : Sem Fin} {it : Addr} {J : It} {fp : List Addr} {tn : Nat → Heap → Prop} {g : TG} {tt : TT} {pins : List (Addr × Obj)} {σ0 : L2.St} {H : Hp} {s : Shared} {m : Nat}
    {Em : L2.St → Hp → (Hp → Prop) → Prop} {Done : Hp → Prop} {W : Nat → Nat → Hp → Prop} {R : Result → Shared → Prop} (hc : Y.calm = true) (hx : Y.xe = fun _ _ => False)
    (heq : compTurn (.DictComp kx vx gs scope pos) d (.ref it) (.ref D) Y.env = turnBy tg iter ifs (.ref it) Y.env em (.compLoop (.DictComp kx vx gs scope pos) d (.ref it) (.ref D) Y.env))
    (T : Turn Y.prog Y.w Y.K tg J fp it tn) (pg : PG Y tg g) (pt : PTs Y ifs tt) (turn : Goes J g tt σ0 Em Done W)
    (hem : ∀ (pins' : List (Addr × Obj)) (σ2 : L2.St) (s3 : Shared) (H3 : Hp) (Nx : Hp → Prop), Inv Y (pins ++ pins') σ2 H3 s3 → Knows σ0 σ2 → Em σ2 H3 Nx →
      wpAny (model Y.prog Y.w) Y.A em (fun fin s5 => fin = .again (.compLoop (.DictComp kx vx gs scope pos) d (.ref it) (.ref D) Y.env) ∧ ∃ σ5 H5, Inv Y (pins ++ pins') σ5 H5 s5 ∧ Knows σ0 σ5 ∧ Nx H5) (fun _ _ => False) s3)
    (fin : ∀ (s' : Shared) (H' : Hp), Inv Y pins σ0 H' s' → Done H' → R (.ok .next) s')
    (I : Inv Y pins σ0 H s) (st : tn 0 s.heap) (f : ∀ b ∈ fp, FpOk Y pins H b) (w : W 0 m H) :
    codeAny (model Y.prog Y.w) Y.A (.compLoop (.DictComp kx vx gs scope pos) d (.ref it) (.ref D) Y.env) R s := by
  refine loop_by heq (fun n s' => ∃ i H', Inv Y pins σ0 H' s' ∧ tn i s'.heap ∧ (∀ b ∈ fp, H' b = none) ∧ W i n H') ?_ m ⟨0, H, I, st, fun b hb => (f b hb).1, w⟩
  rintro n s1 ⟨i, H1, I1, st1, n1, w1⟩
  have fpo : ∀ {H' : Hp}, (∀ b ∈ fp, H' b = none) → ∀ b ∈ fp, FpOk Y pins H' b := fun h b hb => ⟨h b hb, (f b hb).2⟩
  rcases turn i n H1 w1 with ⟨stop, dn⟩ | ⟨go, Nx, down, step⟩
  · refine thnF (T.done Y rfl rfl rfl hc i pins s1 σ0 H1 (fun _ _ => False) I1 (fpo n1) st1 stop) ?_
    rintro r s2 ⟨rfl, I2⟩
    exact fin s2 H1 I2 dn
  · refine thnF (T.item Y rfl rfl rfl hc i pins s1 σ0 H1 (fun _ _ => False) I1 (fpo n1) st1 go) ?_
    rintro r s2 ⟨u, rfl, h2⟩
    refine thnF h2 ?_
    rintro _ s3 ⟨x, H3, I3, r3, y3, st3, n3⟩
    have A1 := pg.run _ s3 σ0 H3 x u _ (I3.pinned (fpo n3) (T.obj _ _ st3)) r3 (step x H3 y3)
    rw [hx] at A1
    refine thnF A1 ?_
    rintro _ s4 ⟨σ4, H4, I4, k4, q4⟩
    have A2 := pt.run _ s4 σ4 H4 _ I4 q4
    rw [hx] at A2
    refine thnF A2 ?_
    rintro b s5 ⟨H5, I5, q5⟩
    have back : ∀ (s' : Shared) (H' : Hp) (σ' : L2.St), Inv Y (pins ++ pinsAt fp s3.heap) σ' H' s' → Knows σ0 σ' → Nx H' → ∃ k, k < n ∧ ∃ i H', Inv Y pins σ0 H' s' ∧ tn i s'.heap ∧ (∀ b ∈ fp, H' b = none) ∧ W i k H' := fun s' H' σ' I' kn nx => by
      obtain ⟨k, hk, wk⟩ := down H' nx
      have same : ∀ b ∈ fp, ∀ o, s3.heap.get? b = some o → s'.heap.get? b = some o ∧ H' b = none := fun b hb o e => by
        have z := I'.pin (b, o) (List.mem_append_right _ (List.mem_append_right _ (mem_pinsAt hb e)))
        exact ⟨z.1, z.2.1⟩
      refine ⟨k, hk, i + 1, H', kn.inv I'.unpinned, T.keep _ _ _ st3 fun b hb o e => (same b hb o e).1, fun b hb => ?_, wk⟩
      obtain ⟨o, e, _⟩ := T.obj _ _ st3 b hb
      exact (same b hb o e).2
    cases b with
    | false => exact back s5 H5 σ4 I5 k4 q5
    | true =>
      refine thnF (hem _ σ4 s5 H5 Nx I5 k4 q5) ?_
      rintro fn s6 ⟨e6, σ6, H6, I6, k6, nx6⟩
      exact ⟨e6, back s6 H6 σ6 I6 k6 nx6⟩
/-! what the two clauses do -/
def EmK (tk tv : TE) (D : Addr) (σ : L2.St) (H : Hp) (N : Hp → Prop) : Prop := tk σ H fun y H1 => tv σ H1 fun z H2 => ∃ H3, DPut H2 D y z H3 ∧ N H3
/-- a comprehension's own d[y] = z -/
theorem put_own {Y : Cx} {pins : List (Addr × Obj)} {σ : L2.St} {H H3 : Hp} {s : Shared} {E : Value → Shared → Prop} {D : Addr} {y z : V} {u r : Value} {Q : Unit → Shared → Prop} (hu : Y.A.units < cLine) (I : Inv Y pins σ H s) (g : DPut H D y z H3) (ry : RelV y u) (rv : RelV z r)
    (q : ∀ s', Inv Y pins σ H3 s' → Q () s') : wpAny (model Y.prog Y.w) Y.A (dictSet D u r) Q E s := by
  rcases g with ⟨kvs, k, hD, rfl, lt, rfl⟩ | ⟨kvs, k, b, hD, rfl, hb, lt, rfl⟩
  · exact d_dictSet (X := Y) I hD lt ry rv q
  · obtain rfl : u = Value.ref b := ry
    obtain ⟨z1, z2, xs, rel, dd⟩ := dt_of I.hok hD
    have z3 := length_putK kvs k z
    refine wpAny_dictSet_heap (knd := tupleKind (mixKind Y.prog Y.w)) (hsz := by rw [← Paired.length rel]; exact z1) hu (key_of I.hok hb) dd fun h' d9 same => q _ ?_
    obtain ⟨o9, es9, ep9, a1, a2, a3, a4, _, a6⟩ := d9
    have stays : ∀ (c : Addr) (ys : List V), H c = some (.tup ys) → upd H D (.dT (putK kvs k z)) c = some (.tup ys) := fun c ys ec => by rw [upd_ne (ne_of ec hD (fun w => nomatch w)), ec]
    exact d_write I (by rw [hD]; exact True.intro) same ⟨o9, a1⟩ ⟨by omega, z2, _, (rel.put k hb rv).keeps stays, o9, es9, ep9, a1, a2, a3, a4, a6⟩
def EmI (wi1 : TI) (g1 : TG) (tt1 : TT) (tk tv : TE) (vs1 : List Nat) (D : Addr) (σ : L2.St) (H : Hp) (N : Hp → Prop) : Prop := wi1 σ H fun J H1 => ∃ W : Nat → Nat → Hp → Prop, (∃ m, W 0 m H1) ∧ Goes J g1 tt1 (wipe σ vs1) (EmK tk tv D) N W
section
variable {Y : Cx} {c : Code}
theorem em_put {tk tv : TE} {pins : List (Addr × Obj)} {σ : L2.St} {H : Hp} {s : Shared} {N : Hp → Prop} (hu : Y.A.units < cLine) (hx : Y.xe = fun _ _ => False) (pk : PE Y kx tk) (pv : PE Y vx tv) (I : Inv Y pins σ H s) (h : EmK tk tv D σ H N) :
    wpAny (model Y.prog Y.w) Y.A (do putIn kx vx D Y.env; again c) (fun fin s5 => fin = .again c ∧ ∃ H5, Inv Y pins σ H5 s5 ∧ N H5) (fun _ _ => False) s := by
  have A1 := pk.run pins s σ H _ I h
  rw [hx] at A1
  unfold putIn
  refine wpAny_bind (wpAny_bind (thnF A1 ?_))
  rintro u s1 ⟨y, H1, I1, r1, q1⟩
  have A2 := pv.run pins s1 σ H1 _ I1 q1
  rw [hx] at A2
  refine wpAny_bind (wpAny_holding (thnF A2 ?_))
  rintro v s2 ⟨z, H2, I2, r2, H3, hp, n2⟩
  refine wpAny_bind (wpAny_standAt (wpAny_holding (put_own hu I2 hp r1 r2 fun s3 I3 => ?_)))
  exact wpAny_pure ⟨rfl, _, I3, n2⟩
/-- the second clause starts -/
theorem start_in {R : Result → Shared → Prop} {s : Shared} {e : Expr} (he : e = .DictComp kx vx [⟨t0, i0, f0, 0⟩, ⟨t1, i1, f1, 0⟩] scope pos) {it1 : Addr} (self : ∀ (Q : Value → Shared → Prop) (E : Value → Shared → Prop), Q (.ref it1) s → wpAny (model Y.prog Y.w) Y.A (pyIter (.ref it1)) Q E s)
    (h : codeAny (model Y.prog Y.w) Y.A (.compLoop e 1 (.ref it1) (.ref D) Y.env) R s) : codeAny (model Y.prog Y.w) Y.A (.compStart e 1 (.ref it1) (.ref D) Y.env) R s := by
  subst he
  refine codeAny_of_tree ?_
  show wpAny _ _ ((compStart (.DictComp kx vx [⟨t0, i0, f0, 0⟩, ⟨t1, i1, f1, 0⟩] scope pos) 1 (.ref it1) (.ref D) Y.env).onRaise (fun x => do noteFrame x Y.env; standAt theWindowsPlace)) _ _ s
  refine wpAny_notedAt ?_
  unfold compStart
  show wpAny _ _ (ask >>= _) _ _ s
  refine wpAny_bind (wpAny_askSetting (wpAny_ite ?_))
  split
  · exact wpAny_pure ⟨rfl, h⟩
  · refine wpAny_bind (wpAny_rule ?_)
    show wpAny _ _ (standAt i1.pos >>= _) _ _ s
    exact wpAny_bind (wpAny_standAt (wpAny_bind (self _ _ (wpAny_pure ⟨rfl, h⟩))))
theorem em_go {e : Expr} (he : e = .DictComp kx vx [⟨t0, i0, f0, 0⟩, ⟨t1, i1, f1, 0⟩] scope pos) {wi1 : TI} {g1 : TG} {tt1 : TT} {tk tv : TE} {vs1 : List Nat} {pins : List (Addr × Obj)} {σ : L2.St} {H : Hp} {s : Shared} {N : Hp → Prop} (hu : Y.A.units < cLine) (hc : Y.calm = true) (hx : Y.xe = fun _ _ => False)
    (pi : PI Y t1 i1 wi1) (pg : PG Y t1 g1) (pt : PTs Y f1 tt1) (pk : PE Y kx tk) (pv : PE Y vx tv) (hs : ∀ x, foldedSetIterable i1 Y.env x = pure x) (I : Inv Y pins σ H s) (h : EmI wi1 g1 tt1 tk tv vs1 D σ H N) :
    wpAny (model Y.prog Y.w) Y.A (goIn e i1 D Y.env c) (fun fin s5 => fin = .again c ∧ ∃ H5, Inv Y pins (wipe σ vs1) H5 s5 ∧ N H5) (fun _ _ => False) s := by
  have A1 := pi.run pins s σ H _ I h
  rw [hx] at A1
  unfold goIn
  refine wpAny_bind (thnF A1 ?_)
  intro x s1 h1
  refine wpAny_bind (wpAny_standAt (wpAny_bind (wpAny_of_eq (hs x) (wpAny_bind (wpAny_holding (thnF h1 ?_))))))
  rintro itv s2 ⟨it1, fp, tn, J, H2, rfl, I2, T, st2, f2, W, ⟨m, w0⟩, turn⟩
  refine wpAny_bind (wpAny_runOwn ?_)
  rw [Around.mark_none]
  refine start_in he (fun Q E q => T.self Y.A 0 s2 Q E st2 q) ?_
  subst he
  refine clause_go (σ0 := wipe σ vs1) (Done := N) hc hx turn1_eq T pg pt turn (fun pins' σ2 s3 H3 Nx I3 k3 q3 => ?_) (fun s' H' I' dn => ?_) ((Knows.wipe σ vs1).inv I2) st2 f2 w0
  · refine thnF (em_put hu hx pk pv I3 q3) ?_
    rintro fn s5 ⟨e5, H5, I5, n5⟩
    exact ⟨e5, σ2, H5, I5, k3, n5⟩
  · exact wpAny_pure ⟨rfl, H', I', dn⟩
end
/-- {k: v for .. in .. if .. for .. in .. if ..} -/
def tDc2 (o0 : HO) (wi : TI) (g : TG) (tt : TT) (wi1 : TI) (g1 : TG) (tt1 : TT) (tk tv : TE) (vs vs1 : List Nat) : TE := fun σ H Q => wi σ H fun J H1 => ∀ D, H1 D = none → ∃ W : Nat → Nat → Hp → Prop, (∃ m, W 0 m (upd H1 D o0)) ∧ Goes J g tt (wipe σ vs) (EmI wi1 g1 tt1 tk tv vs1 D) (Q (.ref D)) W
/-- said of each block that the comprehension may run in -/
abbrev InBlk (X : Cx) (scope : Scope) (Pr : Cx → Prop) : Prop := ∀ (s : Shared) (H : Hp) (C : Addr) (cl : List (Str × Addr)) (fp : List Addr), Pr (X.blk s H scope (compEnvC scope cl C X.env) fp)
theorem dc2_run {X : Cx} {o0 : HO} {pins : List (Addr × Obj)} {s : Shared} {σ : L2.St} {H : Hp} {Q : VK} {own : List (Str × Nat)} {vs1 : List Nat} {pos' : Pos} {wi wi1 : TI} {g g1 : TG} {tt tt1 : TT} {tk tv : TE} {use : Option (Value → Sem Unit)} {Qf : Value → Shared → Prop}
    (hu : X.A.units < cLine) (ho : o0 = .dK [] ∨ o0 = .dT []) (hc : X.calm = true) (hN : X.N.Nodup) (I : Inv X pins σ H s) (hi : PI X t0 i0 wi) (ok : BlkOk X.N X.env.scope scope own) (hv : ∀ i ∈ vs1, i ∈ own.map (·.2))
    (hg : InBlk X scope fun Y => PG Y t0 g) (ht : InBlk X scope fun Y => PTs Y f0 tt) (hi1 : InBlk X scope fun Y => PI Y t1 i1 wi1) (hg1 : InBlk X scope fun Y => PG Y t1 g1) (ht1 : InBlk X scope fun Y => PTs Y f1 tt1) (hk : InBlk X scope fun Y => PE Y kx tk) (hvx : InBlk X scope fun Y => PE Y vx tv)
    (hs : ∀ x, foldedSetIterable i0 X.env x = pure x) (hs1 : ∀ env x, foldedSetIterable i1 env x = pure x) (h : tDc2 o0 wi g tt wi1 g1 tt1 tk tv (own.map (·.2)) vs1 σ H Q)
    (hRR : ∀ D C s' m H', Inv X pins σ H' s' → Q (.ref D) H' → s'.heap.Ns C m → FpOk X pins H' C → compPost (model X.prog X.w) X.A X.xe use Qf (.ref D) C (.ok .next) s') :
    wpAny (model X.prog X.w) X.A (comprehension (.DictComp kx vx [⟨t0, i0, f0, 0⟩, ⟨t1, i1, f1, 0⟩] scope pos) scope X.env pos' newDict false (eval i0 X.env) use) Qf X.xe s := by
  have free : ∀ y ∈ scope.names, y.2 = .free → ∃ c, X.env.cells.lookup y.1 = some c := fun y hy e => (ok.free y hy e).elim (fun k => I.ok.has _ (.inl k)) fun k => I.ok.has _ (.inr k)
  refine wpAny_comprehension_free (use := use) rfl hs (closure_ok free) ok.kind (fun y hy e => by rw [ok.uniq y hy, e]) (thn (hi.run pins s σ H _ I h) ?_)
  intro xv s1 hx
  refine thn hx ?_
  rintro itv s2 ⟨it, fp, tn, J, H2, rfl, I2, T, st2, f2, q⟩
  refine wpAny_newObj_type (newEnv_comp ?_)
  have hDn : H2 s2.heap.objs.size = none := I2.hok.fresh (Nat.le_refl _)
  obtain ⟨W, ⟨m0, w0⟩, turn⟩ := q _ hDn
  have at2 : ∀ b o, s2.heap.get? b = some o → (s2.heap.push { cls := .type "dict", data := .dict #[] }).get? b = some o := fun b o e => Heap.get?_push_of_some _ e
  have I3 : Inv X pins σ (upd H2 s2.heap.objs.size o0) { s2 with heap := s2.heap.push { cls := .type "dict", data := .dict #[] } } := I2.laid (t' := s2.toks) at2 (Nat.le_refl _) (by rcases ho with rfl | rfl <;> first | exact dk_empty s2.heap I2.big | exact dt_empty s2.heap I2.big)
  have low : ∀ b ∈ fp, b < s2.heap.objs.size := fun b hb => by
    obtain ⟨o, e, _⟩ := T.obj _ _ st2 b hb
    exact Heap.lt_size e
  have n3 : ∀ b ∈ fp, upd H2 s2.heap.objs.size o0 b = none := fun b hb => by
    rw [upd_ne (Nat.ne_of_lt (low b hb))]
    exact (f2 b hb).1
  have f3 : ∀ b ∈ fp, FpOk X pins (upd H2 s2.heap.objs.size o0) b ∧ b < (s2.heap.push { cls := .type "dict", data := .dict #[] }).objs.size := fun b hb => ⟨⟨n3 b hb, (f2 b hb).2⟩, by rw [Heap.size_push]; exact Nat.lt_succ_of_lt (low b hb)⟩
  have I4 := block_start I3 ok hN f3
  have st4 := T.keep _ _ (pushCells ((s2.heap.push { cls := .type "dict", data := .dict #[] }).push { cls := .type "dict", data := .dict #[] }) scope.names) st2 fun b _ o e => pushCells_keeps _ _ _ _ (Heap.get?_push_of_some _ (at2 b o e))
  generalize hs3 : ({ s2 with heap := s2.heap.push { cls := .type "dict", data := .dict #[] } } : Shared) = s3 at I3 I4
  have h3 : s2.heap.push { cls := .type "dict", data := .dict #[] } = s3.heap := by rw [← hs3]
  rw [h3] at st4 f3
  generalize s2.heap.objs.size = D at *
  generalize hH3 : upd H2 D o0 = H3 at *
  have pg := hg s3 H3 s3.heap.objs.size (cellsFrom (s3.heap.objs.size + 1) scope.names (cloFrom X.env.cells scope.names [])) fp
  have pt := ht s3 H3 s3.heap.objs.size (cellsFrom (s3.heap.objs.size + 1) scope.names (cloFrom X.env.cells scope.names [])) fp
  have pi1 := hi1 s3 H3 s3.heap.objs.size (cellsFrom (s3.heap.objs.size + 1) scope.names (cloFrom X.env.cells scope.names [])) fp
  have pg1 := hg1 s3 H3 s3.heap.objs.size (cellsFrom (s3.heap.objs.size + 1) scope.names (cloFrom X.env.cells scope.names [])) fp
  have pt1 := ht1 s3 H3 s3.heap.objs.size (cellsFrom (s3.heap.objs.size + 1) scope.names (cloFrom X.env.cells scope.names [])) fp
  have pk := hk s3 H3 s3.heap.objs.size (cellsFrom (s3.heap.objs.size + 1) scope.names (cloFrom X.env.cells scope.names [])) fp
  have pv := hvx s3 H3 s3.heap.objs.size (cellsFrom (s3.heap.objs.size + 1) scope.names (cloFrom X.env.cells scope.names [])) fp
  generalize hce : compEnvC scope (cellsFrom (s3.heap.objs.size + 1) scope.names (cloFrom X.env.cells scope.names [])) s3.heap.objs.size X.env = ce at I4 pg pt pi1 pg1 pt1 pk pv
  have cL : ce.locals = s3.heap.objs.size := by rw [← hce]; rfl
  have loop : codeAny (model X.prog X.w) X.A (.compLoop (.DictComp kx vx [⟨t0, i0, f0, 0⟩, ⟨t1, i1, f1, 0⟩] scope pos) 0 (.ref it) (.ref D) ce) (compPost (model X.prog X.w) X.A X.xe use Qf (.ref D) s3.heap.objs.size) { s3 with heap := pushCells (s3.heap.push { cls := .type "dict", data := .dict #[] }) scope.names } := by
    refine clause_go (Y := X.blk s3 H3 scope ce fp) (σ0 := wipe σ (own.map (·.2))) (pins := []) hc rfl turn0_eq T pg pt turn (fun pins' σ2 s5 H5 Nx I5 k5 q5 => ?_) (fun s' H' I' dn => ?_) I4 st4 (fun b hb => ?_) w0
    · refine thnF (em_go (Y := X.blk s3 H3 scope ce fp) rfl hu hc rfl pi1 pg1 pt1 pk pv (hs1 _) I5 q5) ?_
      rintro fn s6 ⟨e6, H6, I6, n6⟩
      refine ⟨e6, wipe σ2 vs1, H6, I6, ⟨k5.1.trans (wipe_length σ2 vs1).symm, fun j v e => ?_⟩, n6⟩
      rw [wipe_out fun z => (wipe_some e).2 (hv j z)]
      exact k5.2 j v e
    · have I7 : Inv X pins σ H' s' := I3.call' (ch := fp) I'.os I'.base I'.hok I'.bare fun b hb => ⟨(f3 b hb).1.2.2.2.1, (f3 b hb).1.2.1, (f3 b hb).1.2.2.2.2.1, (f3 b hb).1.2.2.2.2.2⟩
      have nC : H' ce.locals = none := I'.free
      obtain ⟨m, hn, _⟩ := I'.loc
      have hn : s'.heap.Ns ce.locals m := hn
      rw [cL] at hn nC
      exact hRR D s3.heap.objs.size s' m H' I7 dn hn (I3.fpOk (Nat.le_refl _) nC)
    · exact ⟨n3 b hb, (I4.ok.exf b hb).1, I4.ok.exfs b hb, .inl hb, fun x c e => (I4.ok.exf b hb).2 x c e, fun p hp => absurd (show p ∈ ([] : List (Addr × Obj)) ++ [] from hp) (by simp)⟩
  subst hce
  exact codeAny_compStart_dict loop (T.self X.A 0 _ _ _ st4 loop)
end RL

namespace RL
open PySem PySem.Spec PyProof.Rows L2
/-! dict comprehensions of two clauses over data -/
def dcL2 (g : FG) (ft : FT) (fi1 : FI) (g1 : FG) (ft1 : FT) (fk fv : FE) (vs vs1 : List Nat) : List D → Sl → List (Key × V) → Rs (List (Key × V) × Sl)
  | [], ρ, acc => .ok (acc, ρ)
  | x :: r, ρ, acc => match g x ρ with
    | none => .no
    | some ρ1 => match ft ρ1 with
      | .ok (b, ρ2) => if b = true then (match fi1 ρ2 with
          | .ok (items1, ρ3) => (match dcL g1 ft1 fk fv vs1 items1 (wipeD ρ3 vs1) acc with
            | .ok (acc', ρ4) => dcL2 g ft fi1 g1 ft1 fk fv vs vs1 r (wipeD ρ4 vs) acc'
            | _ => .no)
          | _ => .no) else dcL2 g ft fi1 g1 ft1 fk fv vs vs1 r (wipeD ρ2 vs) acc
      | _ => .no
def dDc2 (fi : FI) (g : FG) (ft : FT) (fi1 : FI) (g1 : FG) (ft1 : FT) (fk fv : FE) (vs vs1 : List Nat) : FN := fun ρ => fi ρ >>= fun p => dcL2 g ft fi1 g1 ft1 fk fv vs vs1 p.1 (wipeD p.2 vs) [] >>= fun q => .ok (.o ⟨none, .od q.1⟩, q.2)
section
variable {X : Cx} {K : PySem.W.Frag} {W : WX} {tg iter tg1 iter1 kx vx e : Expr} {ifs ifs1 : List Expr} {pos : Pos} {fi fi1 : FI} {g g1 : FG} {ft ft1 : FT} {fk fv : FE} {vs vs1 : List Nat}
theorem dc_in {F0 H0 F1 H1 : Hp} {σ0 σ : L2.St} {ρ0 ρ1 ρ9 : Sl} {J : It} {items : List D} {D : Addr} {acc acc9 : List (Key × V)} {Nx : Hp → Prop} (w : WalkF K F1 J items) (A : Aft K F0 H0 σ0 ρ0 F1 H1 (wipe σ vs) ρ1) (h0 : H0 D = none) (d1 : H1 D = some (.dK acc)) (d2 : F1 D = none) (d3 : ¬ OwnS (wipe σ vs) ρ1 D)
    (ef : dcL g ft fk fv vs items ρ1 acc = .ok (acc9, ρ9)) (hN : ∀ F' H', Aft K F0 H0 σ0 ρ0 F' H' (wipe σ vs) ρ9 → H' D = some (.dK acc9) → F' D = none → ¬ OwnS (wipe σ vs) ρ9 D → Nx H') :
    ∃ W1 : Nat → Nat → Hp → Prop, (∃ m, W1 0 m H1) ∧ Goes J (LG K vs g) (LT K W0 ft) (wipe σ vs) (EmK (LE K W0 fk) (LE K W0 fv) D) Nx W1 := by
  refine walk_turns w (T := fun N x H' => LG K vs g x (wipe σ vs) H' fun σ3 H5 => Knows (wipe σ vs) σ3 ∧ LT K W0 ft σ3 H5 fun b H6 => if b = true then EmK (LE K W0 fk) (LE K W0 fv) D σ3 H6 N else N H6)
    (fun i H' => ∃ F' ρ' acc, Aft K F0 H0 σ0 ρ0 F' H' (wipe σ vs) ρ' ∧ Same F1 F' ∧ H' D = some (.dK acc) ∧ F' D = none ∧ ¬ OwnS (wipe σ vs) ρ' D ∧ dcL g ft fk fv vs (items.drop i) ρ' acc = .ok (acc9, ρ9))
    ⟨F1, ρ1, acc, A, Same.refl _, d1, d2, d3, ef⟩ (fun i H' _ ⟨F', ρ', acc, A, s, _⟩ => s.trans A.rel.sub) (fun i x H' H'' hi ⟨F', ρ', acc, A, sm, d1, d2, d3, ef⟩ y => ?_) (fun H' ⟨F', ρ', acc, A, sm, d1, d2, d3, ef⟩ => ?_)
  · obtain ⟨d, F2, ed, rd, A2⟩ := y.take sm A.rel
    obtain ⟨b1, b2, b3⟩ := A2.stays d1 d2 d3
    refine ⟨F2, ρ', d, A2.rel, rd, ?_⟩
    rw [drop_at hi ed] at ef
    unfold dcL at ef
    cases eg : g d ρ' with
    | none => rw [eg] at ef; cases ef
    | some ρ2 =>
      rw [eg] at ef
      dsimp only at ef
      intro σ2 F3 H3 A3 s3 m3
      obtain ⟨c1, c2, c3⟩ := A3.stays b1 b2 b3
      have hw : wipe σ2 vs = wipe σ vs := wipe_eq (by rw [s3.1, wipe_length]) s3.2
      refine ⟨hw ▸ Knows.wipe σ2 vs, F3, ρ2, A3.rel, ?_⟩
      cases et : ft ρ2 with
      | no => rw [et] at ef; cases ef
      | er x y => rw [et] at ef; cases ef
      | ok bp =>
        obtain ⟨b, ρ3⟩ := bp
        rw [et] at ef
        dsimp only at ef
        intro F4 H4 A5
        have A6 := ((A.trans A2).trans A3).trans A5
        obtain ⟨f1, f2, f3⟩ := A5.stays c1 c2 c3
        dsimp only
        split
        · rename_i hb
          rw [if_pos hb] at ef
          refine ⟨F4, ρ3, A5.rel, ?_⟩
          cases ek : fk ρ3 with
          | no => rw [ek] at ef; cases ef
          | er x y => rw [ek] at ef; cases ef
          | ok kp =>
            obtain ⟨kd, ρ4⟩ := kp
            rw [ek] at ef
            cases kd with
            | int k =>
              dsimp only at ef
              intro F5 H5 A7 kv rk
              obtain ⟨g1, g2, g3⟩ := A7.stays f1 f2 f3
              refine ⟨F5, ρ4, A7.rel, ?_⟩
              cases ee : fv ρ4 with
              | no => rw [ee] at ef; cases ef
              | er x y => rw [ee] at ef; cases ef
              | ok yp =>
                obtain ⟨yd, ρ5⟩ := yp
                rw [ee] at ef
                dsimp only at ef
                intro F6 H6 A8 yv ry
                obtain ⟨i1, i2, i3⟩ := A8.stays g1 g2 g3
                by_cases hz : flatD yd = true ∧ acc.length < sizeLine
                · rw [if_pos hz] at ef
                  have A9 := ((A6.trans A7).trans A8).wipe (vs := vs)
                  rw [hw] at A9
                  have i4 : ¬ OwnS (wipe σ vs) (wipeD ρ5 vs) D := fun z => i3 (by rw [← hw] at z; exact z.unwipe)
                  have s5 := (A2.tr.ff.trans A3.tr.ff).trans ((A5.tr.ff.trans A7.tr.ff).trans A8.tr.ff)
                  refine ⟨_, by rw [rk.int_inv]; exact DPut.k (k := .inl k) i1 hz.2, F6, wipeD ρ5 vs, putK acc (.inl k) yv, A9.mutFree h0 i2 i4, sm.trans s5, upd_same, i2, i4, ?_⟩
                  rw [(ry.flat hz.1).1]
                  exact ef
                · rw [if_neg hz] at ef; cases ef
            | _ => cases ef
        · rename_i hb
          rw [if_neg hb] at ef
          have A8 := A6.wipe (vs := vs)
          rw [hw] at A8
          have s5 := (A2.tr.ff.trans A3.tr.ff).trans A5.tr.ff
          exact ⟨F4, wipeD ρ3 vs, acc, A8, sm.trans s5, f1, f2, fun z => f3 (by rw [← hw] at z; exact z.unwipe), ef⟩
  · rw [List.drop_length] at ef
    unfold dcL at ef
    cases ef
    exact hN F' H' A d1 d2 d3
theorem dcL2_er : ∀ (items : List RL.D) (ρ : Sl) (acc : List (Key × V)) (x : Ex) (y : Sl), dcL2 g ft fi1 g1 ft1 fk fv vs vs1 items ρ acc ≠ .er x y
  | [], _, _, _, _ => fun h => nomatch h
  | a :: r, ρ, acc, x, y => by
    intro h
    unfold dcL2 at h
    split at h
    · cases h
    · split at h
      · split at h
        · split at h
          · split at h
            · exact dcL2_er r _ _ x y h
            · cases h
          · cases h
        · exact dcL2_er r _ _ x y h
      · cases h
theorem ln_dc2 (hv : ∀ i ∈ vs1, i ∈ vs) {σ : L2.St} {H : Hp} {Q : VK} (h : LN K W (dDc2 fi g ft fi1 g1 ft1 fk fv vs vs1) σ H Q) : tDc2 (.dK []) (LI K W fi) (LG K vs g) (LT K W0 ft) (LI K W0 fi1) (LG K vs1 g1) (LT K W0 ft1) (LE K W0 fk) (LE K W0 fv) vs vs1 σ H Q := by
  obtain ⟨F, ρ, r, q⟩ := h
  refine ⟨F, ρ, r, (Post.bind q).mono fun items ρ1 F1 H1 A1 q1 J w D hD => ?_⟩
  dsimp only at q1
  cases hR : dcL2 g ft fi1 g1 ft1 fk fv vs vs1 items (wipeD ρ1 vs) [] with
  | no => rw [hR] at q1; exact q1.elim
  | er x y => exact absurd hR (dcL2_er _ _ _ _ _)
  | ok p9 =>
  obtain ⟨acc9, ρ9⟩ := p9
  rw [hR] at q1
  have r1 : Rel K F1 H1 (wipe σ vs) (wipeD ρ1 vs) := A1.rel.wipe
  have nD : ∀ {σ : L2.St} {ρ : Sl}, Rel K F1 H1 σ ρ → ¬ OwnS σ ρ D := fun r z => by
    obtain ⟨_, o, e⟩ := z.there r
    rw [hD] at e; cases e
  refine walk_turns w (T := fun N x H' => LG K vs g x (wipe σ vs) H' fun σ2 H2 => Knows (wipe σ vs) σ2 ∧ LT K W0 ft σ2 H2 fun b H3 =>
    if b = true then EmI (LI K W0 fi1) (LG K vs1 g1) (LT K W0 ft1) (LE K W0 fk) (LE K W0 fv) vs1 D σ2 H3 N else N H3)
    (fun i H' => ∃ F' ρ' acc, Aft K F1 H1 (wipe σ vs) (wipeD ρ1 vs) F' H' (wipe σ vs) ρ' ∧ H' D = some (.dK acc) ∧ F' D = none ∧ ¬ OwnS (wipe σ vs) ρ' D ∧ dcL2 g ft fi1 g1 ft1 fk fv vs vs1 (items.drop i) ρ' acc = .ok (acc9, ρ9))
    ⟨F1, _, [], Aft.step r1 (.alloc hD) (Same.alloc r1.sub hD), upd_same, none_of r1.sub hD, nD r1, hR⟩ (fun i H' _ ⟨F', ρ', acc, A, _⟩ => A.tr.ff.trans A.rel.sub) (fun i x H' H'' hi ⟨F', ρ', acc, A, d1, d2, d3, ef⟩ y => ?_) (fun H' ⟨F', ρ', acc, A, d1, d2, d3, ef⟩ => ?_)
  · obtain ⟨d, F2, ed, rd, A2⟩ := y.take A.tr.ff A.rel
    obtain ⟨b1, b2, b3⟩ := A2.stays d1 d2 d3
    refine ⟨F2, ρ', d, A2.rel, rd, ?_⟩
    rw [drop_at hi ed] at ef
    unfold dcL2 at ef
    cases eg : g d ρ' with
    | none => rw [eg] at ef; cases ef
    | some ρ2 =>
      rw [eg] at ef
      dsimp only at ef
      intro σ2 F3 H3 A3 s3 m3
      obtain ⟨c1, c2, c3⟩ := A3.stays b1 b2 b3
      have hw : wipe σ2 vs = wipe σ vs := wipe_eq (by rw [s3.1, wipe_length]) s3.2
      refine ⟨hw ▸ Knows.wipe σ2 vs, F3, ρ2, A3.rel, ?_⟩
      cases et : ft ρ2 with
      | no => rw [et] at ef; cases ef
      | er x y => rw [et] at ef; cases ef
      | ok bp =>
        obtain ⟨b, ρ3⟩ := bp
        rw [et] at ef
        dsimp only at ef
        intro F4 H4 A5
        have A6 := ((A.trans A2).trans A3).trans A5
        obtain ⟨f1, f2, f3⟩ := A5.stays c1 c2 c3
        dsimp only
        split
        · rename_i hb
          rw [if_pos hb] at ef
          refine ⟨F4, ρ3, A5.rel, ?_⟩
          cases ei : fi1 ρ3 with
          | no => rw [ei] at ef; cases ef
          | er x y => rw [ei] at ef; cases ef
          | ok ip =>
            obtain ⟨items1, ρ4⟩ := ip
            rw [ei] at ef
            dsimp only at ef
            intro F5 H5 A7 J1 w1
            obtain ⟨g1', g2', g3'⟩ := A7.stays f1 f2 f3
            cases el : dcL g1 ft1 fk fv vs1 items1 (wipeD ρ4 vs1) acc with
            | no => rw [el] at ef; cases ef
            | er x y => rw [el] at ef; cases ef
            | ok lp =>
              obtain ⟨acc', ρ5⟩ := lp
              rw [el] at ef
              dsimp only at ef
              refine dc_in (σ := σ2) w1 ((A6.trans A7).wipe (vs := vs1)) hD g1' g2' (fun z => g3' z.unwipe) el fun F' H' A' e1 e2 e3 => ?_
              have A8 := A'.wipe (vs := vs)
              rw [wipe_sub hv, hw] at A8
              exact ⟨F', wipeD ρ5 vs, acc', A8, e1, e2, fun z => e3 (by rw [← hw, ← wipe_sub hv] at z; exact z.unwipe), ef⟩
        · rename_i hb
          rw [if_neg hb] at ef
          have A8 := A6.wipe (vs := vs)
          rw [hw] at A8
          exact ⟨F4, wipeD ρ3 vs, acc, A8, f1, f2, fun z => f3 (by rw [← hw] at z; exact z.unwipe), ef⟩
  · rw [List.drop_length] at ef
    unfold dcL2 at ef
    cases ef
    have A9 := A.unwipe A1.rel.len
    refine q1 F' H' A9 (.ref D) ⟨D, _, rfl, A1.tr.dom D hD, d2, d1, (fun _ z => nomatch z), rfl⟩ (fun p e _ z => ?_)
    cases e
    exact nD A1.rel (by
      rcases A9.ow D z with w | w
      · exact w
      · obtain ⟨i, c, h1, h2⟩ := z
        obtain ⟨v, ev, qv⟩ := A.rel.at_ i _ h1
        have e3 := (wipe_some ev).1
        rw [h2] at e3
        cases e3
        exact absurd ⟨i, c, h1, ev⟩ d3)
end
section
variable {X : Cx} {K : PySem.W.Frag} {W : WX} {tg iter tg1 iter1 kx vx e : Expr} {ifs ifs1 : List Expr} {pos : Pos} {fi fi1 : FI} {g g1 : FG} {ft ft1 : FT} {fk fv : FE} {own : List (Str × Nat)} {vs1 : List Nat} {scope : Scope}
theorem dn_dc2 {k : Nat} (hr : Room k X.A) (hc : X.calm = true) (hN : X.N.Nodup) (hi : DI X K W tg iter fi) (ok : BlkOk X.N X.env.scope scope own) (hv : ∀ i ∈ vs1, i ∈ own.map (·.2))
    (hg : InBlk X scope fun Y => DG Y K (own.map (·.2)) tg g) (ht : InBlk X scope fun Y => DTs Y K W0 ifs ft) (hi1 : InBlk X scope fun Y => DI Y K W0 tg1 iter1 fi1) (hg1 : InBlk X scope fun Y => DG Y K vs1 tg1 g1) (ht1 : InBlk X scope fun Y => DTs Y K W0 ifs1 ft1)
    (hk : InBlk X scope fun Y => DE Y K W0 kx fk) (he : InBlk X scope fun Y => DE Y K W0 vx fv) (hs : ∀ x, foldedSetIterable iter X.env x = pure x := by intro _; rfl) (hs1 : ∀ env x, foldedSetIterable iter1 env x = pure x := by intro _ _; rfl) :
    DN X K W (.DictComp kx vx [⟨tg, iter, ifs, 0⟩, ⟨tg1, iter1, ifs1, 0⟩] scope pos) (dDc2 fi g ft fi1 g1 ft1 fk fv (own.map (·.2)) vs1) := by
  refine ⟨⟨fun pins s σ H Q I h => ?_⟩⟩
  rw [arm_eval_DictComp]
  refine dc2_run (by have := hr.un; omega) (.inl rfl) hc hN I hi.pi ok hv (fun s H C cl fp => (hg s H C cl fp).pg) (fun s H C cl fp => (ht s H C cl fp).pt) (fun s H C cl fp => (hi1 s H C cl fp).pi) (fun s H C cl fp => (hg1 s H C cl fp).pg) (fun s H C cl fp => (ht1 s H C cl fp).pt) (fun s H C cl fp => (hk s H C cl fp).pe) (fun s H C cl fp => (he s H C cl fp).pe) hs hs1 (ln_dc2 hv h) ?_
  rintro D C s' m H' I' q hn ⟨f0, f1, f2, f3, f4, f5⟩
  exact ⟨m, hn, fun h'' sb => ⟨.ref D, H', I'.turned (t' := s'.toks) (fun b o hb e => (sb.2 b hb).trans e) f0 f1 f3 f4 f5, rfl, q⟩⟩
end
end RL

namespace RL
open PySem PySem.Spec PyProof.Rows L2
/-! what comes of two, by a modulus -/
theorem foldS_len : ∀ (l ns : List Int), (l.foldl addS ns).length ≤ ns.length + l.length
  | [], ns => Nat.le_refl _
  | x :: l, ns => by
    have h := foldS_len l (addS ns x)
    have h2 : (addS ns x).length ≤ ns.length + 1 := by
      unfold addS
      split
      · omega
      · rw [List.length_append]; exact Nat.le_refl _
    rw [List.foldl_cons, List.length_cons]
    omega
theorem dcL2_S {g g1 : FG} {fi1 : FI} {fk fv : FE} {vs vs1 : List Nat} (key : Int → Int → Int) (bs : List Int) (ρ : Sl) : ∀ (as ns : List Int), ns.length + as.length * bs.length ≤ sizeLine →
    (∀ a ∈ as, ∃ ρ1 ρ2 ρ3, g (.int a) ρ = some ρ1 ∧ fi1 ρ1 = .ok (bs.map .int, ρ2) ∧ (∀ ns' : List Int, ns'.length + bs.length ≤ sizeLine → dcL g1 tYesD fk fv vs1 (bs.map .int) (wipeD ρ2 vs1) (kS ns') = .ok (kS ((bs.map (key a)).foldl addS ns'), ρ3)) ∧ wipeD ρ3 vs = ρ) →
    dcL2 g tYesD fi1 g1 tYesD fk fv vs vs1 (as.map .int) ρ (kS ns) = .ok (kS ((as.flatMap fun a => bs.map (key a)).foldl addS ns), ρ)
  | [], ns, _, _ => rfl
  | a :: as, ns, hl, h => by
    obtain ⟨ρ1, ρ2, ρ3, h1, h2, h3, h4⟩ := h a (by simp)
    rw [List.length_cons, Nat.add_mul, Nat.one_mul] at hl
    have hf := foldS_len (bs.map (key a)) ns
    rw [List.length_map] at hf
    have ih := dcL2_S (g := g) (g1 := g1) (fi1 := fi1) (fk := fk) (fv := fv) (vs := vs) (vs1 := vs1) key bs ρ as ((bs.map (key a)).foldl addS ns) (by omega) fun x hx => h x (by simp [hx])
    rw [List.map_cons]
    unfold dcL2
    rw [h1]
    dsimp only [tYesD]
    rw [if_pos rfl, h2]
    dsimp only
    rw [h3 ns (by omega)]
    dsimp only
    rw [h4, ih, List.flatMap_cons, List.foldl_append]
/-- by a modulus: all that come of two -/
def bothL (f : Int → Int → Int) (a b : List Bar) (m : Int) : List Int := uniq ((restsBy a m).flatMap fun x => (restsBy b m).map fun y => f x y % m)
theorem rests_len (a : List Bar) {m : Int} (h : 1 ≤ m ∧ m ≤ 200) : (restsBy a m).length ≤ 200 := by
  refine Nat.le_trans (List.length_filter_le _ _) ?_
  rw [zr_len]
  omega
theorem rests_in {a : List Bar} {m x : Int} (h : 0 < m) (hx : x ∈ restsBy a m) : 0 ≤ x ∧ x < m := ⟨((mem_restsBy h).mp hx).1, ((mem_restsBy h).mp hx).2.1⟩
theorem due_rests {bs : List Bar} (hw : 0 < wholeOf bs) {m : Int} (hm : 0 < m ∧ m < 2 ^ 60) : uniq (((zr (Int.lcm (wholeOf bs) m)).filter (fitsB bs)).map (· % m)) = restsBy bs m := by
  have hg : gW bs m ∣ wholeOf bs := Int.gcd_dvd_left ..
  have hg2 : gW bs m ∣ m := Int.gcd_dvd_right ..
  refine uniq_eq ((zr_asc _).sublist List.filter_sublist) fun x => ?_
  rw [mem_restsBy hm.1]
  constructor
  · rintro ⟨h0, h1, h2⟩
    obtain ⟨c, hc, ec⟩ := List.mem_map.mp h2
    obtain ⟨c0, c1, cf⟩ := mem_own.mp hc
    have hd : ((Int.gcd (wholeOf bs) m : Nat) : Int) ∣ x - c := by
      have e : c % gW bs m = x % gW bs m := ec
      exact Int.dvd_of_emod_eq_zero ((Int.emod_eq_emod_iff_emod_sub_eq_zero (m := x) (n := gW bs m) (k := c)).mp e.symm)
    obtain ⟨j0, j1, j2, j3⟩ := crt (t := x) c0 c1 hm.1 hm.2 hd
    refine List.mem_map.mpr ⟨_, List.mem_filter.mpr ⟨mem_zr.mpr ⟨j0, j1⟩, ?_⟩, ?_⟩
    · rw [← mem_own_iff hw]
      have e2 : jn c (wholeOf bs) x m % wholeOf bs = c := by
        rw [Int.emod_eq_emod_iff_emod_sub_eq_zero.mpr (Int.emod_eq_zero_of_dvd j2), Int.emod_eq_of_lt c0 c1]
      rw [e2]
      exact hc
    · show jn c (wholeOf bs) x m % m = x
      rw [Int.emod_eq_emod_iff_emod_sub_eq_zero.mpr (Int.emod_eq_zero_of_dvd j3), Int.emod_eq_of_lt h0 h1]
  · intro hx
    obtain ⟨n, hn, rfl⟩ := List.mem_map.mp hx
    obtain ⟨n1, n2⟩ := List.mem_filter.mp hn
    refine ⟨Int.emod_nonneg _ (Int.ne_of_gt hm.1), Int.emod_lt_of_pos _ hm.1, List.mem_map.mpr ⟨n % wholeOf bs, (mem_own_iff hw).mpr n2, ?_⟩⟩
    show n % wholeOf bs % gW bs m = n % m % gW bs m
    rw [Int.emod_emod_of_dvd _ hg, Int.emod_emod_of_dvd _ hg2]
end RL

namespace RL
open PySem PySem.Spec PyProof.Rows L2
/-! a dict that is owned is locked while a comprehension walks it -/
def less (F : Hp) (a : Addr) : Hp := fun b => if b = a then none else F b
theorem less_same {F : Hp} {a : Addr} : less F a a = none := if_pos rfl
theorem less_ne {F : Hp} {a b : Addr} (h : b ≠ a) : less F a b = F b := if_neg h
/-- no data leans on a thing that is locked so -/
def Lk (F : Hp) (a : Addr) : Prop := ∃ o u, F a = some (.frz o u) ∧ ∀ xs, u ≠ .lst xs
section
variable {K : PySem.W.Frag} {F : Hp} {a : Addr}
theorem Lk.ne {b : Addr} {o : HO} (l : Lk F a) (h : F b = some o) (n : ∀ x u, o ≠ .frz x u) : b ≠ a := by
  rintro rfl
  obtain ⟨x, u, e, _⟩ := l
  rw [h] at e
  exact n x u (Option.some.inj e)
mutual
theorem Rp.less (l : Lk F a) : ∀ {v : V} {d : D}, Rp K F v d → Rp K (less F a) v d
  | _, _, .non => .non
  | _, _, .bl b => .bl b
  | _, _, .int i => .int i
  | _, _, .str x => .str x
  | _, _, .lst s t => .lst (by rw [less_ne (l.ne s (fun _ _ z => nomatch z))]; exact s) (RpA.less l t)
  | _, _, .tup s t => .tup (by rw [less_ne (l.ne s (fun _ _ z => nomatch z))]; exact s) (RpA.less l t)
  | _, _, .scr s => .scr (by
      rcases s with (h | ⟨o, h⟩) | h
      · exact .inl (.inl (by rw [less_ne (l.ne h (fun _ _ z => nomatch z))]; exact h))
      · refine .inl (.inr ⟨o, ?_⟩)
        rw [less_ne ?_]
        · exact h
        · rintro rfl
          obtain ⟨x, u, e, n⟩ := l
          rw [h] at e
          cases e
          exact n _ rfl
      · exact .inr h)
  | _, _, .dK h => .dK (by rw [less_ne (l.ne h (fun _ _ z => nomatch z))]; exact h)
  | _, _, .dT h => .dT (by rw [less_ne (l.ne h (fun _ _ z => nomatch z))]; exact h)
  | _, _, .ob h1 h2 h3 => .ob (by rw [less_ne (l.ne h1 (fun _ _ z => nomatch z))]; exact h1) h2 (RpA.less l h3)
theorem RpA.less (l : Lk F a) : ∀ {vs : List V} {ds : List D}, RpA K F vs ds → RpA K (less F a) vs ds
  | _, _, .nil => .nil
  | _, _, .cons h t => .cons (Rp.less l h) (RpA.less l t)
end
theorem RO.less {p : Addr} {o : HO} {c : OC} (l : Lk F a) (h : RO K F p o c) : RO K (less F a) p o c := by
  obtain ⟨t, c⟩ := c
  obtain ⟨h1, h⟩ := h
  refine ⟨h1, ?_⟩
  cases c <;> cases o <;> first | exact h | exact RpA.less l h | exact ⟨h.1, h.2.1, RpA.less l h.2.2⟩
end
section
variable {K : PySem.W.Frag} {F H F' H' : Hp} {σ : L2.St} {ρ ρ' : Sl} {i : Nat} {a : Addr} {u : HO} {od : Obj} {c : OC}
theorem set_none_some {j : Nat} {s : S} (h : (ρ.set i none)[j]? = some (some s)) : ρ[j]? = some (some s) ∧ j ≠ i := by
  rcases get_set_some h with ⟨_, z⟩ | ⟨hj, z⟩
  · cases z
  · exact ⟨z, hj⟩
theorem OwnS.unset {p : Addr} (h : OwnS σ (ρ.set i none) p) : OwnS σ ρ p := by
  obtain ⟨j, c, h1, h2⟩ := h
  exact ⟨j, c, (set_none_some h1).1, h2⟩
theorem Rel.lock (r : Rel K F H σ ρ) (hi : ρ[i]? = some (some (.o c))) (hp : σ[i]? = some (some (.ref a))) (hF : F a = none) :
    Rel K (upd F a (.frz od u)) (upd H a (.frz od u)) σ (ρ.set i none) := by
  have sF : Same F (upd F a (.frz od u)) := Same.new hF
  refine ⟨fun b x e => ?_, fun j s e => ?_, fun j k c1 c2 p e1 e2 e3 e4 => r.dis j k c1 c2 p (set_none_some e1).1 (set_none_some e2).1 e3 e4, by rw [List.length_set]; exact r.len⟩
  · by_cases hb : b = a
    · subst hb; rw [upd_same] at e ⊢; exact e
    · rw [upd_ne hb] at e ⊢; exact r.sub b x e
  · obtain ⟨e, hj⟩ := set_none_some e
    obtain ⟨v, ev, q⟩ := r.at_ j s e
    refine ⟨v, ev, ?_⟩
    cases s with
    | d x => exact Rp.mono sF q
    | o c1 =>
      obtain ⟨p, o, rfl, g1, g2, g3⟩ := q
      have hpa : p ≠ a := fun z => hj (r.dis j i c1 c a e hi (by rw [ev, z]) hp)
      exact ⟨p, o, rfl, by rw [upd_ne hpa]; exact g1, by rw [upd_ne hpa]; exact g2, g3.mono sF⟩
/-- behind it all stands as it did -/
theorem Aft.unlock (r : Rel K F H σ ρ) (hi : ρ[i]? = some (some (.o c))) (hp : σ[i]? = some (some (.ref a))) (hF : F a = none) (hH : H a = some u) (hu : ∀ xs, u ≠ .lst xs) (hc : ∀ F, RO K F a u c)
    (A : Aft K (upd F a (.frz od u)) (upd H a (.frz od u)) σ (ρ.set i none) F' H' σ ρ') :
    H' a = some (.frz od u) ∧ Lk F' a ∧ Aft K F H σ ρ (less F' a) (upd H' a u) σ (ρ'.set i (some (.o c))) := by
  have f1 : F' a = some (.frz od u) := A.tr.ff a _ upd_same
  have l : Lk F' a := ⟨od, u, f1, hu⟩
  have il : i < ρ'.length := by
    have h1 := A.rel.len
    have h2 := (List.getElem?_eq_some_iff.mp hp).1
    omega
  have ow : OwnS σ ρ a := ⟨i, c, hi, hp⟩
  have nd : ∀ p, OwnS σ ρ' p → p ≠ a := fun p h z => by
    obtain ⟨h1, _⟩ := h.there A.rel
    rw [z, f1] at h1
    cases h1
  refine ⟨A.rel.sub _ _ f1, l, ⟨fun b x e => ?_, fun j s e => ?_, fun j k c1 c2 p e1 e2 e3 e4 => ?_, by rw [List.length_set]; exact A.rel.len⟩, ⟨fun b x e => ?_, fun p e => ?_, fun p o h1 h2 h3 => ?_⟩, fun p h => ?_⟩
  · have hb : b ≠ a := by rintro rfl; rw [less_same] at e; cases e
    rw [less_ne hb] at e
    rw [upd_ne hb]
    exact A.rel.sub b x e
  · rcases get_set_some e with ⟨rfl, z⟩ | ⟨hj, z⟩
    · cases z
      exact ⟨_, hp, a, u, rfl, less_same, upd_same, hc _⟩
    · obtain ⟨v, ev, q⟩ := A.rel.at_ j s z
      refine ⟨v, ev, ?_⟩
      cases s with
      | d x => exact Rp.less l q
      | o c1 =>
        obtain ⟨p, o, rfl, g1, g2, g3⟩ := q
        have hpa : p ≠ a := nd p ⟨j, c1, z, ev⟩
        exact ⟨p, o, rfl, by rw [less_ne hpa]; exact g1, by rw [upd_ne hpa]; exact g2, g3.less l⟩
  · rcases get_set_some e1 with ⟨rfl, z1⟩ | ⟨hj, z1⟩ <;> rcases get_set_some e2 with ⟨rfl, z2⟩ | ⟨hk, z2⟩
    · rfl
    · rw [hp] at e3
      cases e3
      exact absurd rfl (nd _ ⟨k, c2, z2, e4⟩)
    · rw [hp] at e4
      cases e4
      exact absurd rfl (nd _ ⟨j, c1, z1, e3⟩)
    · exact A.rel.dis j k c1 c2 p z1 z2 e3 e4
  · have hb : b ≠ a := ne_of_none e hF
    rw [less_ne hb]
    exact A.tr.ff b x (by rw [upd_ne hb]; exact e)
  · have hb : p ≠ a := by rintro rfl; rw [upd_same] at e; cases e
    rw [upd_ne hb] at e
    have := A.tr.dom p e
    rwa [upd_ne hb] at this
  · have hb : p ≠ a := by rintro rfl; exact h3 ow
    rw [upd_ne hb, less_ne hb]
    exact A.tr.keep p o (by rw [upd_ne hb]; exact h1) (by rw [upd_ne hb]; exact h2) fun z => h3 z.unset
  · obtain ⟨j, c1, h1, h2⟩ := h
    rcases get_set_some h1 with ⟨rfl, z⟩ | ⟨hj, z⟩
    · rw [hp] at h2
      cases h2
      exact .inl ow
    · have hb := nd p ⟨j, c1, z, h2⟩
      rcases A.ow p ⟨j, c1, z, h2⟩ with w | w
      · exact .inl w.unset
      · rw [upd_ne hb] at w; exact .inr w
end
/-- the keys -/
def keyD : Key → D
  | .inl i => .int i
  | .inr x => .str x
theorem keyD_rp {K : PySem.W.Frag} {F : Hp} (k : Key) : Rp K F (kV k) (keyD k) := by
  cases k
  · exact .int _
  · exact .str _
theorem wf_keys {K : PySem.W.Frag} {F : Hp} {a : Addr} {od : Obj} {kvs : List (Key × V)} (h : F a = some (.frz od (.dK kvs))) : WalkF K F (Itk a od kvs) (kvs.map fun kv => keyD kv.1) := by
  have hl : (kvs.map fun kv => keyD kv.1).length = kvs.length := List.length_map ..
  refine ⟨fun i H hi s => ⟨s _ _ h, by omega⟩, fun H s => ⟨s _ _ h, by omega⟩, fun i H x H' hi s y => ?_⟩
  obtain ⟨e, k, v, h1, rfl⟩ := y
  exact ⟨keyD k, by rw [List.getElem?_map, h1]; rfl, .inl ⟨e, keyD_rp k⟩⟩
theorem keysA {K : PySem.W.Frag} {F : Hp} : ∀ k : List Key, RpA K F (k.map kV) (k.map keyD)
  | [] => .nil
  | x :: r => .cons (keyD_rp x) (keysA r)
def dLcK (i : Nat) (g : FG) (ft : FT) (fe : FE) (vs : List Nat) : FN := fun ρ => match ρ[i]? with
  | some (some (.o ⟨t, .od kvs⟩)) => (match lcL g ft fe vs (kvs.map fun kv => keyD kv.1) (wipeD (ρ.set i none) vs) [] with
    | .ok q => .ok (.o (oL q.1), q.2.set i (some (.o ⟨t, .od kvs⟩)))
    | _ => .no)
  | _ => .no
section
variable {X : Cx} {K : PySem.W.Frag} {W : WX} {tg iter elt : Expr} {ifs : List Expr} {pos : Pos} {g : FG} {ft : FT} {fe : FE} {own : List (Str × Nat)} {scope : Scope}
theorem ln_lcK {vs : List Nat} {i : Nat} {σ : L2.St} {H : Hp} {Q : VK} (h : LN K W (dLcK i g ft fe vs) σ H Q) : tLockE (tLc (iKeys (tVar i)) (LG K vs g) (LT K W0 ft) (LE K W0 fe) vs) σ H Q := by
  obtain ⟨F, ρ, r, q⟩ := h
  unfold dLcK at q
  split at q
  · rename_i t kvs e1
    obtain ⟨a, o, ev, g1, g2, g3⟩ := own_at r e1
    have eo : o = .dK kvs ∧ ∀ b, t = some b → a = b := by
      obtain ⟨h1, h2⟩ := g3
      cases o <;> first | exact h2.elim | exact ⟨congrArg _ h2, h1⟩
    obtain ⟨rfl, ht⟩ := eo
    have hc : ∀ F, RO K F a (.dK kvs) ⟨t, .od kvs⟩ := fun F => ⟨ht, rfl⟩
    refine ⟨a, _, g2, trivial, fun od => ?_⟩
    refine ⟨.ref a, ev, a, od, rfl, .inl ⟨kvs, upd_same, ?_⟩⟩
    show bodyLc (Itk a od kvs) (LG K vs g) (LT K W0 ft) (LE K W0 fe) vs σ (upd H a (.frz od (.dK kvs))) (fun v H' => H' a = some (.frz od (.dK kvs)) ∧ Q v (upd H' a (.dK kvs)))
    refine lc_body (K := K) (W := W) (F1 := upd F a (.frz od (.dK kvs))) (ρ1 := ρ.set i none) (r.lock e1 ev g1) (wf_keys upd_same) ?_
    cases el : lcL g ft fe vs (kvs.map fun kv => keyD kv.1) (wipeD (ρ.set i none) vs) [] with
    | no => rw [el] at q; exact q.elim
    | er x y => rw [el] at q; exact q.elim
    | ok p =>
      rw [el] at q
      intro F' H' A v rn n
      obtain ⟨k1, l, A2⟩ := A.unlock r e1 ev g1 g2 (fun _ z => nomatch z) hc
      refine ⟨k1, q _ _ A2 v ?_ fun p' e h z => ?_⟩
      · obtain ⟨p', o, rfl, h1, h2, h3, h4⟩ := rn
        have hpa : p' ≠ a := by rintro rfl; rw [upd_same] at h1; cases h1
        rw [upd_ne hpa] at h1
        exact ⟨p', o, rfl, h1, by rw [less_ne hpa]; exact h2, by rw [upd_ne hpa]; exact h3, h4.less l⟩
      · obtain ⟨j, c1, h1, h2⟩ := z
        rcases get_set_some h1 with ⟨rfl, z⟩ | ⟨hj, z⟩
        · rw [ev] at h2
          cases h2
          obtain ⟨p', o, e2, h1, _⟩ := rn
          rw [e] at e2
          cases e2
          rw [upd_same] at h1
          cases h1
        · exact n p' e h ⟨j, c1, z, h2⟩
  · exact q.elim
theorem dn_lcK {i : Nat} (hc : X.calm = true) (hN : X.N.Nodup) (hi : PE X iter (tVar i)) (ok : BlkOk X.N X.env.scope scope own)
    (hg : ∀ (s : Shared) (H : Hp) (C : Addr) (cl : List (Str × Addr)) (fp : List Addr), DG (X.blk s H scope (compEnvC scope cl C X.env) fp) K (own.map (·.2)) tg g) (ht : ∀ (s : Shared) (H : Hp) (C : Addr) (cl : List (Str × Addr)) (fp : List Addr), DTs (X.blk s H scope (compEnvC scope cl C X.env) fp) K W0 ifs ft)
    (he : ∀ (s : Shared) (H : Hp) (C : Addr) (cl : List (Str × Addr)) (fp : List Addr), DE (X.blk s H scope (compEnvC scope cl C X.env) fp) K W0 elt fe) (hs : ∀ x, foldedSetIterable iter X.env x = pure x := by intro _; rfl) :
    DN X K W (.ListComp elt [⟨tg, iter, ifs, 0⟩] scope pos) (dLcK i g ft fe (own.map (·.2))) :=
  ⟨(pe_lock (pe_lc hc hN (pi_keys hi) ok (fun s H C cl fp => (hg s H C cl fp).pg) (fun s H C cl fp => (ht s H C cl fp).pt) (fun s H C cl fp => (he s H C cl fp).pe) hs)).weak fun _ _ _ h => ln_lcK h⟩
end
section
variable {X : Cx} {K : PySem.W.Frag} {W : WX} {tg iter kx vx : Expr} {ifs : List Expr} {pos : Pos} {fi : FI} {g : FG} {ft : FT} {fk fv : FE} {own : List (Str × Nat)} {scope : Scope}
theorem ds_setDc {i : Nat} {y : Str} {py spos : Pos} (hc : X.calm = true) (hN : X.N.Nodup) (hy : X.N[i]? = some y) (hyl : X.env.scope.names.lookup y = some .local)
    (hsw : swapsWith (.DictComp kx vx [⟨tg, iter, ifs, 0⟩] scope pos) (some (.Name y py)) spos.line X.env = pure true) (hi : DI X K W tg iter fi) (ok : BlkOk X.N X.env.scope scope own)
    (hg : ∀ (s : Shared) (H : Hp) (C : Addr) (cl : List (Str × Addr)) (fp : List Addr), DG (X.blk s H scope (compEnvC scope cl C X.env) fp) K (own.map (·.2)) tg g) (ht : ∀ (s : Shared) (H : Hp) (C : Addr) (cl : List (Str × Addr)) (fp : List Addr), DTs (X.blk s H scope (compEnvC scope cl C X.env) fp) K W0 ifs ft)
    (hk : ∀ (s : Shared) (H : Hp) (C : Addr) (cl : List (Str × Addr)) (fp : List Addr), DE (X.blk s H scope (compEnvC scope cl C X.env) fp) K W0 kx fk) (he : ∀ (s : Shared) (H : Hp) (C : Addr) (cl : List (Str × Addr)) (fp : List Addr), DE (X.blk s H scope (compEnvC scope cl C X.env) fp) K W0 vx fv)
    (hs : ∀ x, foldedSetIterable iter X.env x = pure x := by intro _; rfl) : DS X K W (.Assign [.Name y py] (.DictComp kx vx [⟨tg, iter, ifs, 0⟩] scope pos) spos) (sSetN i (dDc fi g ft fk fv (own.map (·.2)))) :=
  ⟨(ps_setDc hc hN hy hyl hsw hi.pi ok (fun s H C cl fp => (hg s H C cl fp).pg) (fun s H C cl fp => (ht s H C cl fp).pt) (fun s H C cl fp => (hk s H C cl fp).pe) (fun s H C cl fp => (he s H C cl fp).pe) hs).weak fun _ _ _ h => ln_dc (ls_setN h)⟩
end
end RL

namespace RL
open PySem PySem.Spec PyProof.Rows L2
/-! the least distance of numbers of two kinds round a ring -/
def cyc (c a b : Int) : Int := min ((a - b) % c) ((b - a) % c)
def IsDist (c : Int) (A B : List Int) (m : Int) : Prop := (∃ a ∈ A, ∃ b ∈ B, m = cyc c a b) ∧ ∀ a ∈ A, ∀ b ∈ B, m ≤ cyc c a b
theorem IsDist.uniq {c : Int} {A B : List Int} {m m' : Int} (h : IsDist c A B m) (h' : IsDist c A B m') : m = m' := by
  obtain ⟨a, ha, b, hb, e⟩ := h.1
  obtain ⟨a', ha', b', hb', e'⟩ := h'.1
  have := h.2 a' ha' b' hb'
  have := h'.2 a ha b hb
  omega
theorem cyc_comm (c a b : Int) : cyc c a b = cyc c b a := Int.min_comm _ _
theorem cyc_pos {c : Int} (hc : 0 < c) (a b : Int) : 0 ≤ cyc c a b := by
  have h1 := Int.emod_nonneg (a - b) (Int.ne_of_gt hc)
  have h2 := Int.emod_nonneg (b - a) (Int.ne_of_gt hc)
  unfold cyc
  omega
theorem cyc_self (c a : Int) : cyc c a a = 0 := by
  unfold cyc
  rw [Int.sub_self, Int.zero_emod]
  rfl
theorem cyc_lt {c a b : Int} (h0 : 0 ≤ a) (h1 : a < b) (h2 : b < c) : cyc c a b = min (b - a) (a + c - b) := by
  unfold cyc
  rw [Int.emod_eq_of_lt (a := b - a) (by omega) (by omega), show (a - b) % c = a + c - b by
    rw [← Int.add_emod_right (a - b) c, Int.emod_eq_of_lt (by omega) (by omega)]; omega]
  omega
theorem dist_zero {c : Int} {A B : List Int} (hc : 0 < c) {a : Int} (ha : a ∈ A) (hb : a ∈ B) : IsDist c A B 0 := ⟨⟨a, ha, a, hb, (cyc_self c a).symm⟩, fun x _ y _ => cyc_pos hc x y⟩
theorem cyc_mod {c : Int} (k b : Int) : cyc c (k % c) (b % c) = cyc c k b := by
  unfold cyc
  rw [← Int.sub_emod, ← Int.sub_emod]
def gapsP (l : List (Int × Int)) : List Int := ((l.zip (l.drop 1)).filter fun p => decide (p.1.2 ≠ p.2.2)).map fun p => p.2.1 - p.1.1
theorem mem_gaps {l : List (Int × Int)} {g : Int} : g ∈ gapsP l ↔ ∃ (k : Nat) (x y : Int × Int), l[k]? = some x ∧ l[k + 1]? = some y ∧ x.2 ≠ y.2 ∧ g = y.1 - x.1 := by
  unfold gapsP
  rw [List.mem_map]
  constructor
  · rintro ⟨p, hp, rfl⟩
    obtain ⟨hp, hd⟩ := List.mem_filter.mp hp
    obtain ⟨k, hk⟩ := List.mem_iff_getElem?.mp hp
    have h1 := List.getElem?_zip_eq_some.mp hk
    refine ⟨k, p.1, p.2, h1.1, ?_, of_decide_eq_true hd, rfl⟩
    have := h1.2
    rw [List.getElem?_drop] at this
    rw [Nat.add_comm]
    exact this
  · rintro ⟨k, x, y, h1, h2, hd, rfl⟩
    refine ⟨(x, y), List.mem_filter.mpr ⟨List.mem_iff_getElem?.mpr ⟨k, List.getElem?_zip_eq_some.mpr ⟨h1, ?_⟩⟩, decide_eq_true hd⟩, rfl⟩
    rw [List.getElem?_drop, Nat.add_comm]
    exact h2
/-- between two of unlike kinds two neighbours are unlike -/
theorem turn_between {l : List (Int × Int)} : ∀ (d i : Nat) (x y : Int × Int), l[i]? = some x → l[i + d]? = some y → x.2 ≠ y.2 → ∃ (k : Nat) (u v : Int × Int), i ≤ k ∧ k < i + d ∧ l[k]? = some u ∧ l[k + 1]? = some v ∧ u.2 ≠ v.2
  | 0, i, x, y, h1, h2, hd => by
    rw [Nat.add_zero, h1] at h2
    cases h2
    exact absurd rfl hd
  | d + 1, i, x, y, h1, h2, hd => by
    have hl : i + (d + 1) < l.length := (List.getElem?_eq_some_iff.mp h2).1
    obtain ⟨z, hz⟩ : ∃ z, l[i + d]? = some z := ⟨_, List.getElem?_eq_getElem (by omega)⟩
    by_cases hzd : x.2 = z.2
    · exact ⟨i + d, z, y, by omega, by omega, hz, h2, fun e => hd (hzd.trans e)⟩
    · obtain ⟨k, u, v, q1, q2, q3⟩ := turn_between d i x z h1 hz hzd
      exact ⟨k, u, v, q1, by omega, q3⟩
theorem gap_between {l : List (Int × Int)} (asc : l.Pairwise fun x y => x.1 ≤ y.1) {i j : Nat} {x y : Int × Int} (hij : i ≤ j) (hx : l[i]? = some x) (hy : l[j]? = some y) (hd : x.2 ≠ y.2) : ∃ g ∈ gapsP l, g ≤ y.1 - x.1 := by
  obtain ⟨k, u, v, h1, h2, hu, hv, hne⟩ := turn_between (l := l) (j - i) i x y hx (by rw [show i + (j - i) = j by omega]; exact hy) hd
  refine ⟨_, mem_gaps.mpr ⟨k, u, v, hu, hv, hne, rfl⟩, ?_⟩
  have le : ∀ {a b : Nat} {p q : Int × Int}, a ≤ b → l[a]? = some p → l[b]? = some q → p.1 ≤ q.1 := fun {a b p q} hab hp hq => by
    obtain ⟨ha, rfl⟩ := List.getElem?_eq_some_iff.mp hp
    obtain ⟨hb, rfl⟩ := List.getElem?_eq_some_iff.mp hq
    by_cases e : a = b
    · subst e; exact Int.le_refl _
    · exact List.pairwise_iff_getElem.mp asc a b ha hb (by omega)
  have := le h1 hx hu
  have := le (show k + 1 ≤ j by omega) hv hy
  omega
structure Rows2 (c : Int) (A B : List Int) (R : List (Int × Int)) : Prop where
  mem : ∀ p, p ∈ R ↔ (p.2 = 0 ∧ p.1 ∈ A) ∨ (p.2 = 1 ∧ p.1 ∈ B)
  asc : R.Pairwise fun x y => x.1 ≤ y.1
  inA : ∀ a ∈ A, 0 ≤ a ∧ a < c
  inB : ∀ a ∈ B, 0 ≤ a ∧ a < c
  dis : ∀ a ∈ A, a ∉ B
  neA : A ≠ []
  neB : B ≠ []
def closed (c : Int) (R : List (Int × Int)) : List (Int × Int) := R ++ [((R.headD (0, 0)).1 + c, (R.headD (0, 0)).2)]
section
variable {c : Int} {A B : List Int} {R : List (Int × Int)}
theorem Rows2.in_ (h : Rows2 c A B R) {p : Int × Int} (hp : p ∈ R) : 0 ≤ p.1 ∧ p.1 < c := by
  rcases (h.mem p).mp hp with ⟨_, q⟩ | ⟨_, q⟩
  · exact h.inA _ q
  · exact h.inB _ q
theorem Rows2.ne (h : Rows2 c A B R) : R ≠ [] := by
  obtain ⟨a, ha⟩ := List.exists_mem_of_ne_nil A h.neA
  have : (a, (0 : Int)) ∈ R := (h.mem _).mpr (.inl ⟨rfl, ha⟩)
  intro e
  rw [e] at this
  cases this
theorem closed_asc (h : Rows2 c A B R) : (closed c R).Pairwise fun x y => x.1 ≤ y.1 := by
  unfold closed
  refine List.pairwise_append.mpr ⟨h.asc, List.pairwise_singleton _ _, fun x hx y hy => ?_⟩
  rw [List.mem_singleton] at hy
  subst hy
  have h1 := h.in_ hx
  have hh : R.headD (0, 0) ∈ R := by
    have := h.ne
    cases R with
    | nil => exact absurd rfl this
    | cons p r => simp
  have h2 := h.in_ hh
  dsimp only
  omega
/-- the way from one to another is not shorter than some gap -/
theorem gap_le (h : Rows2 c A B R) {p q : Int × Int} (hp : p ∈ R) (hq : q ∈ R) (hd : p.2 ≠ q.2) : ∃ g ∈ gapsP (closed c R), g ≤ (q.1 - p.1) % c := by
  obtain ⟨i, hi⟩ := List.mem_iff_getElem?.mp hp
  obtain ⟨j, hj⟩ := List.mem_iff_getElem?.mp hq
  have il := (List.getElem?_eq_some_iff.mp hi).1
  have jl := (List.getElem?_eq_some_iff.mp hj).1
  have ca := closed_asc h
  have ci : (closed c R)[i]? = some p := by unfold closed; rw [List.getElem?_append_left il]; exact hi
  have cj : (closed c R)[j]? = some q := by unfold closed; rw [List.getElem?_append_left jl]; exact hj
  have hp2 := h.in_ hp
  have hq2 := h.in_ hq
  have hne : i ≠ j := fun e => by subst e; rw [hi] at hj; cases hj; exact hd rfl
  have hle : ∀ {a b : Nat} {u v : Int × Int}, a < b → R[a]? = some u → R[b]? = some v → u.1 ≤ v.1 := fun {a b u v} hab hu hv => by
    obtain ⟨ha, rfl⟩ := List.getElem?_eq_some_iff.mp hu
    obtain ⟨hb, rfl⟩ := List.getElem?_eq_some_iff.mp hv
    exact List.pairwise_iff_getElem.mp h.asc a b ha hb hab
  by_cases hij : i < j
  · obtain ⟨g, hg, hl⟩ := gap_between ca (by omega) ci cj hd
    have := hle hij hi hj
    exact ⟨g, hg, by rw [Int.emod_eq_of_lt (by omega) (by omega)]; exact hl⟩
  · have hji : j < i := by omega
    have l1 := hle hji hj hi
    have hlt : q.1 < p.1 := by
      rcases Int.lt_or_eq_of_le l1 with z | z
      · exact z
      · exfalso
        rcases (h.mem p).mp hp with ⟨a1, a2⟩ | ⟨a1, a2⟩ <;> rcases (h.mem q).mp hq with ⟨b1, b2⟩ | ⟨b1, b2⟩
        · exact hd (a1.trans b1.symm)
        · rw [z] at b2; exact h.dis _ a2 b2
        · rw [← z] at a2; exact h.dis _ b2 a2
        · exact hd (a1.trans b1.symm)
    have em : (q.1 - p.1) % c = q.1 + c - p.1 := by
      rw [← Int.add_emod_right (q.1 - p.1) c, Int.emod_eq_of_lt (by omega) (by omega)]; omega
    rw [em]
    obtain ⟨r, hr⟩ : ∃ r, R[0]? = some r := ⟨_, List.getElem?_eq_getElem (by omega)⟩
    have er : R.headD (0, 0) = r := by
      cases R with
      | nil => cases hr
      | cons x y => cases hr; rfl
    have cl : (closed c R)[R.length]? = some (r.1 + c, r.2) := by
      unfold closed
      rw [List.getElem?_append_right (Nat.le_refl _), Nat.sub_self, er]
      rfl
    have c0 : (closed c R)[0]? = some r := by unfold closed; rw [List.getElem?_append_left (by omega)]; exact hr
    have rin := h.in_ (List.mem_iff_getElem?.mpr ⟨0, hr⟩)
    by_cases hpr : p.2 = r.2
    · have hj0 : 0 < j := by
        rcases Nat.eq_zero_or_pos j with e | e
        · subst e; rw [hr] at hj; cases hj; exact absurd hpr hd
        · exact e
      obtain ⟨g, hg, hl⟩ := gap_between ca (Nat.zero_le j) c0 cj (fun e => hd (hpr.trans e))
      exact ⟨g, hg, by omega⟩
    · have hq0 : r.1 ≤ q.1 := by
        rcases Nat.eq_zero_or_pos j with e | e
        · subst e; rw [hr] at hj; cases hj; exact Int.le_refl _
        · exact hle e hr hj
      obtain ⟨g, hg, hl⟩ := gap_between ca (by omega : i ≤ R.length) ci cl hpr
      exact ⟨g, hg, by dsimp only at hl; omega⟩
/-- a gap is the way from one to another -/
theorem gap_is (h : Rows2 c A B R) {g : Int} (hg : g ∈ gapsP (closed c R)) : ∃ p ∈ R, ∃ q ∈ R, p.2 ≠ q.2 ∧ g = (q.1 - p.1) % c := by
  obtain ⟨k, x, y, hx, hy, hd, rfl⟩ := mem_gaps.mp hg
  have kl : k + 1 < (closed c R).length := (List.getElem?_eq_some_iff.mp hy).1
  have cle : (closed c R).length = R.length + 1 := by unfold closed; simp
  have hx' : R[k]? = some x := by
    unfold closed at hx
    rwa [List.getElem?_append_left (by omega)] at hx
  have hxm : x ∈ R := List.mem_iff_getElem?.mpr ⟨k, hx'⟩
  have xin := h.in_ hxm
  by_cases hk : k + 1 < R.length
  · have hy' : R[k + 1]? = some y := by
      unfold closed at hy
      rwa [List.getElem?_append_left hk] at hy
    have hym : y ∈ R := List.mem_iff_getElem?.mpr ⟨k + 1, hy'⟩
    have yin := h.in_ hym
    have le : x.1 ≤ y.1 := by
      obtain ⟨ha, rfl⟩ := List.getElem?_eq_some_iff.mp hx'
      obtain ⟨hb, rfl⟩ := List.getElem?_eq_some_iff.mp hy'
      exact List.pairwise_iff_getElem.mp h.asc k (k + 1) ha hb (by omega)
    exact ⟨x, hxm, y, hym, hd, (Int.emod_eq_of_lt (by omega) (by omega)).symm⟩
  · have hk' : k + 1 = R.length := by omega
    rw [hk'] at hy
    unfold closed at hy
    rw [List.getElem?_append_right (Nat.le_refl _), Nat.sub_self] at hy
    have hy : ((R.headD (0, 0)).1 + c, (R.headD (0, 0)).2) = y := Option.some.inj hy
    subst hy
    obtain ⟨r, hr⟩ : ∃ r, R[0]? = some r := ⟨_, List.getElem?_eq_getElem (by omega)⟩
    have er : R.headD (0, 0) = r := by
      cases R with
      | nil => cases hr
      | cons x y => cases hr; rfl
    rw [er] at hd ⊢
    have hrm : r ∈ R := List.mem_iff_getElem?.mpr ⟨0, hr⟩
    have rin := h.in_ hrm
    refine ⟨x, hxm, r, hrm, hd, ?_⟩
    dsimp only at hd ⊢
    have hlt : r.1 < x.1 := by
      have k0 : k ≠ 0 := by
        rintro rfl
        rw [hx'] at hr
        cases hr
        exact hd rfl
      have le : r.1 ≤ x.1 := by
        obtain ⟨ha, rfl⟩ := List.getElem?_eq_some_iff.mp hr
        obtain ⟨hb, rfl⟩ := List.getElem?_eq_some_iff.mp hx'
        exact List.pairwise_iff_getElem.mp h.asc 0 k ha hb (by omega)
      rcases Int.lt_or_eq_of_le le with z | z
      · exact z
      · exfalso
        rcases (h.mem x).mp hxm with ⟨a1, a2⟩ | ⟨a1, a2⟩ <;> rcases (h.mem r).mp hrm with ⟨b1, b2⟩ | ⟨b1, b2⟩
        · exact hd (a1.trans b1.symm)
        · rw [z] at b2; exact h.dis _ a2 b2
        · rw [← z] at a2; exact h.dis _ b2 a2
        · exact hd (a1.trans b1.symm)
    rw [← Int.add_emod_right (r.1 - x.1) c, Int.emod_eq_of_lt (by omega) (by omega)]
    omega
theorem gaps_dist (h : Rows2 c A B R) {m : Int} (hm : m ∈ gapsP (closed c R)) (hl : ∀ g ∈ gapsP (closed c R), m ≤ g) : IsDist c A B m := by
  have lo : ∀ a ∈ A, ∀ b ∈ B, m ≤ cyc c a b := fun a ha b hb => by
    have ma : (a, (0 : Int)) ∈ R := (h.mem _).mpr (.inl ⟨rfl, ha⟩)
    have mb : (b, (1 : Int)) ∈ R := (h.mem _).mpr (.inr ⟨rfl, hb⟩)
    obtain ⟨g, hg, h1⟩ := gap_le h ma mb (show (0 : Int) ≠ 1 by decide)
    obtain ⟨g', hg', h2⟩ := gap_le h mb ma (show (1 : Int) ≠ 0 by decide)
    have := hl g hg
    have := hl g' hg'
    unfold cyc
    dsimp only at h1 h2
    omega
  refine ⟨?_, lo⟩
  obtain ⟨p, hp, q, hq, hd, e⟩ := gap_is h hm
  have key : ∀ {a b : Int}, a ∈ A → b ∈ B → m = (a - b) % c ∨ m = (b - a) % c → ∃ a ∈ A, ∃ b ∈ B, m = cyc c a b := fun {a b} ha hb e => by
    have := lo a ha b hb
    refine ⟨a, ha, b, hb, ?_⟩
    unfold cyc at this ⊢
    omega
  rcases (h.mem p).mp hp with ⟨a1, a2⟩ | ⟨a1, a2⟩ <;> rcases (h.mem q).mp hq with ⟨b1, b2⟩ | ⟨b1, b2⟩
  · exact absurd (a1.trans b1.symm) hd
  · exact key a2 b2 (.inr e)
  · exact key b2 a2 (.inl e)
  · exact absurd (a1.trans b1.symm) hd
theorem gaps_ne (h : Rows2 c A B R) : gapsP (closed c R) ≠ [] := by
  obtain ⟨a, ha⟩ := List.exists_mem_of_ne_nil A h.neA
  obtain ⟨b, hb⟩ := List.exists_mem_of_ne_nil B h.neB
  obtain ⟨g, hg, _⟩ := gap_le h ((h.mem (a, 0)).mpr (.inl ⟨rfl, ha⟩)) ((h.mem (b, 1)).mpr (.inr ⟨rfl, hb⟩)) (by dsimp only; decide)
  exact List.ne_nil_of_mem hg
end
end RL
namespace RL
open PySem PySem.Spec PyProof.Rows L2
def pairL (A B : List Int) : List (List Int) := A.map (fun a => [a, 0]) ++ B.map fun b => [b, 1]
theorem rows2_ex {c : Int} {A B : List Int} (hA : ∀ a ∈ A, 0 ≤ a ∧ a < c) (hB : ∀ a ∈ B, 0 ≤ a ∧ a < c) (dis : ∀ a ∈ A, a ∉ B) (nA : A ≠ []) (nB : B ≠ []) :
    ∃ R : List (Int × Int), (pairL A B).mergeSort leL = R.map (fun p => [p.1, p.2]) ∧ Rows2 c A B R ∧ R.length = A.length + B.length := by
  have hp := List.mergeSort_perm (pairL A B) leL
  have hmem : ∀ t, t ∈ (pairL A B).mergeSort leL ↔ (∃ a ∈ A, t = [a, 0]) ∨ ∃ b ∈ B, t = [b, 1] := fun t => by
    rw [hp.mem_iff]
    unfold pairL
    rw [List.mem_append, List.mem_map, List.mem_map]
    constructor
    · rintro (⟨a, ha, e⟩ | ⟨a, ha, e⟩)
      · exact .inl ⟨a, ha, e.symm⟩
      · exact .inr ⟨a, ha, e.symm⟩
    · rintro (⟨a, ha, e⟩ | ⟨a, ha, e⟩)
      · exact .inl ⟨a, ha, e.symm⟩
      · exact .inr ⟨a, ha, e.symm⟩
  have hlen : ((pairL A B).mergeSort leL).length = A.length + B.length := by
    rw [hp.length_eq]
    unfold pairL
    simp
  have asc := sortT_pw (pairL A B)
  generalize (pairL A B).mergeSort leL = S at hmem hlen asc
  let pr : List Int → Int × Int := fun t => (t.headD 0, t.getD 1 0)
  have back : ∀ t ∈ S, [(pr t).1, (pr t).2] = t := fun t ht => by
    rcases (hmem t).mp ht with ⟨a, _, rfl⟩ | ⟨a, _, rfl⟩ <;> rfl
  have eS : S = (S.map pr).map fun p => [p.1, p.2] := by
    rw [List.map_map]
    conv => lhs; rw [← List.map_id S]
    exact List.map_congr_left fun t ht => (back t ht).symm
  refine ⟨S.map pr, eS, ⟨fun p => ?_, ?_, hA, hB, dis, nA, nB⟩, by rw [List.length_map, hlen]⟩
  · rw [List.mem_map]
    constructor
    · rintro ⟨t, ht, rfl⟩
      rcases (hmem t).mp ht with ⟨a, ha, rfl⟩ | ⟨a, ha, rfl⟩
      · exact .inl ⟨rfl, ha⟩
      · exact .inr ⟨rfl, ha⟩
    · obtain ⟨x, k⟩ := p
      rintro (⟨h1, h2⟩ | ⟨h1, h2⟩) <;> dsimp only at h1 h2 <;> subst h1
      · exact ⟨[x, 0], (hmem _).mpr (.inl ⟨x, h2, rfl⟩), rfl⟩
      · exact ⟨[x, 1], (hmem _).mpr (.inr ⟨x, h2, rfl⟩), rfl⟩
  · rw [List.pairwise_map]
    refine asc.imp_of_mem fun {s t} hs ht h => ?_
    rw [← back s hs, ← back t ht, pair_le] at h
    show (pr s).1 ≤ (pr t).1
    omega
theorem pair_ok (A B : List Int) : SrtOk (pairL A B) := .inl fun t ht => by
  unfold pairL at ht
  rcases List.mem_append.mp ht with h | h <;> obtain ⟨x, _, rfl⟩ := List.mem_map.mp h <;> exact fun z => nomatch z
theorem pair_tI (R : List (Int × Int)) : (R.map fun p => [p.1, p.2]).map tI = R.map pI := by
  rw [List.map_map]
  exact List.map_congr_left fun _ _ => rfl
theorem closed_D (c : Int) {r : Int × Int} {R : List (Int × Int)} : (closed c (r :: R)).map pI = (r :: R).map pI ++ [pI (r.1 + c, r.2)] := by
  unfold closed
  rw [List.map_append]
  rfl
theorem IsDist.congr {c : Int} {A B A' B' : List Int} {m : Int} (h : IsDist c A B m) (hA : ∀ x, x ∈ A ↔ x ∈ A') (hB : ∀ x, x ∈ B ↔ x ∈ B') : IsDist c A' B' m := by
  obtain ⟨⟨a, ha, b, hb, e⟩, h2⟩ := h
  exact ⟨⟨a, (hA a).mp ha, b, (hB b).mp hb, e⟩, fun a ha b hb => h2 a ((hA a).mpr ha) b ((hB b).mpr hb)⟩
end RL

namespace RL
open PySem PySem.Spec PyProof.Rows L2
/-! comprehensions whose tests or elements draw -/
theorem lcL_some {St α : Type} (Ok : St → Prop) {g : FG} {ft : FT} {fe : FE} {vs : List Nat} (enc y : α → D) (R : St → Sl) : ∀ (items : List α) (acc : List D) (q : St), Ok q → acc.length + items.length ≤ sizeLine →
    (∀ a ∈ items, ∀ q, Ok q → ∃ (b : Bool) (ρ1 ρ2 : Sl) (q' : St), Ok q' ∧ g (enc a) (R q) = some ρ1 ∧ ft ρ1 = .ok (b, ρ2) ∧ (b = true → ∃ ρ3, fe ρ2 = .ok (y a, ρ3) ∧ wipeD ρ3 vs = R q') ∧ (b = false → wipeD ρ2 vs = R q')) →
    ∃ (l : List α) (q' : St), Ok q' ∧ l.Sublist items ∧ lcL g ft fe vs (items.map enc) (R q) acc = .ok (acc ++ l.map y, R q')
  | [], acc, q, hq, _, _ => ⟨[], q, hq, .slnil, by simp [lcL]⟩
  | a :: r, acc, q, hq, hl, h => by
    obtain ⟨b, ρ1, ρ2, q1, hq1, h1, h2, h3, h4⟩ := h a (by simp) q hq
    have hl2 : acc.length + (r.length + 1) ≤ sizeLine := by simpa using hl
    rw [List.map_cons]
    unfold lcL
    rw [h1]
    dsimp only
    rw [h2]
    dsimp only
    cases b with
    | true =>
      obtain ⟨ρ3, h5, h6⟩ := h3 rfl
      obtain ⟨l, q', hq', hs, e⟩ := lcL_some Ok (g := g) (ft := ft) (fe := fe) (vs := vs) enc y R r (acc ++ [y a]) q1 hq1 (by simp; omega) fun x hx => h x (by simp [hx])
      refine ⟨a :: l, q', hq', hs.cons₂ a, ?_⟩
      simp only [h5, h6, if_true]
      rw [if_pos (by omega), e]
      simp
    | false =>
      obtain ⟨l, q', hq', hs, e⟩ := lcL_some Ok (g := g) (ft := ft) (fe := fe) (vs := vs) enc y R r acc q1 hq1 (by omega) fun x hx => h x (by simp [hx])
      refine ⟨l, q', hq', hs.cons a, ?_⟩
      simp only [h4 rfl, Bool.false_eq_true, if_false]
      exact e
theorem lcL_drawn {St α β : Type} (Ok : St → Prop) (P : β → Prop) {g : FG} {fe : FE} {vs : List Nat} (enc : α → D) (y : β → D) (R : St → Sl) : ∀ (items : List α) (acc : List D) (q : St), Ok q → acc.length + items.length ≤ sizeLine →
    (∀ a ∈ items, ∀ q, Ok q → ∃ (b : β) (ρ1 ρ3 : Sl) (q' : St), Ok q' ∧ P b ∧ g (enc a) (R q) = some ρ1 ∧ fe ρ1 = .ok (y b, ρ3) ∧ wipeD ρ3 vs = R q') →
    ∃ (l : List β) (q' : St), Ok q' ∧ l.length = items.length ∧ (∀ b ∈ l, P b) ∧ lcL g tYesD fe vs (items.map enc) (R q) acc = .ok (acc ++ l.map y, R q')
  | [], acc, q, hq, _, _ => ⟨[], q, hq, rfl, (fun _ h => nomatch h), by simp [lcL]⟩
  | a :: r, acc, q, hq, hl, h => by
    obtain ⟨b, ρ1, ρ3, q1, hq1, hp, h1, h5, h6⟩ := h a (by simp) q hq
    have hl2 : acc.length + (r.length + 1) ≤ sizeLine := by simpa using hl
    obtain ⟨l, q', hq', hs, hP, e⟩ := lcL_drawn Ok P (g := g) (fe := fe) (vs := vs) enc y R r (acc ++ [y b]) q1 hq1 (by simp; omega) fun x hx => h x (by simp [hx])
    refine ⟨b :: l, q', hq', by simp [hs], fun c hc => ?_, ?_⟩
    · rcases List.mem_cons.mp hc with rfl | hc
      · exact hp
      · exact hP c hc
    · rw [List.map_cons]
      unfold lcL
      rw [h1]
      dsimp only [tYesD]
      simp only [h5, h6, if_true]
      rw [if_pos (by omega), e]
      simp
end RL

namespace RL
open PySem PySem.Spec PyProof.Rows L2
/-! dict comprehensions whose keys are tuples -/
def dcLT (g : FG) (ft : FT) (fk fv : FE) (vs : List Nat) : List D → Sl → List (List Key × V) → Rs (List (List Key × V) × Sl)
  | [], ρ, acc => .ok (acc, ρ)
  | x :: r, ρ, acc => match g x ρ with
    | none => .no
    | some ρ1 => match ft ρ1 with
      | .ok (b, ρ2) => if b = true then (match fk ρ2 with
          | .ok (kd, ρ3) => (match asTup kd with
            | some ns => (match fv ρ3 with
              | .ok (v, ρ4) => if flatD v = true ∧ acc.length < sizeLine then dcLT g ft fk fv vs r (wipeD ρ4 vs) (putK acc (ns.map .inl) (toV v)) else .no
              | _ => .no)
            | none => .no)
          | _ => .no) else dcLT g ft fk fv vs r (wipeD ρ2 vs) acc
      | _ => .no
def dcT2 (g : FG) (ft : FT) (fi1 : FI) (g1 : FG) (ft1 : FT) (fk fv : FE) (vs vs1 : List Nat) : List D → Sl → List (List Key × V) → Rs (List (List Key × V) × Sl)
  | [], ρ, acc => .ok (acc, ρ)
  | x :: r, ρ, acc => match g x ρ with
    | none => .no
    | some ρ1 => match ft ρ1 with
      | .ok (b, ρ2) => if b = true then (match fi1 ρ2 with
          | .ok (items1, ρ3) => (match dcLT g1 ft1 fk fv vs1 items1 (wipeD ρ3 vs1) acc with
            | .ok (acc', ρ4) => dcT2 g ft fi1 g1 ft1 fk fv vs vs1 r (wipeD ρ4 vs) acc'
            | _ => .no)
          | _ => .no) else dcT2 g ft fi1 g1 ft1 fk fv vs vs1 r (wipeD ρ2 vs) acc
      | _ => .no
def dDcT2 (fi : FI) (g : FG) (ft : FT) (fi1 : FI) (g1 : FG) (ft1 : FT) (fk fv : FE) (vs vs1 : List Nat) : FN := fun ρ => fi ρ >>= fun p => dcT2 g ft fi1 g1 ft1 fk fv vs vs1 p.1 (wipeD p.2 vs) [] >>= fun q => .ok (.o ⟨none, .oT q.1⟩, q.2)
section
variable {X : Cx} {K : PySem.W.Frag} {W : WX} {tg iter tg1 iter1 kx vx e : Expr} {ifs ifs1 : List Expr} {pos : Pos} {fi fi1 : FI} {g g1 : FG} {ft ft1 : FT} {fk fv : FE} {vs vs1 : List Nat}
theorem dc_inT {F0 H0 F1 H1 : Hp} {σ0 σ : L2.St} {ρ0 ρ1 ρ9 : Sl} {J : It} {items : List D} {D : Addr} {acc acc9 : List (List Key × V)} {Nx : Hp → Prop} (w : WalkF K F1 J items) (A : Aft K F0 H0 σ0 ρ0 F1 H1 (wipe σ vs) ρ1) (h0 : H0 D = none) (d1 : H1 D = some (.dT acc)) (d2 : F1 D = none) (d3 : ¬ OwnS (wipe σ vs) ρ1 D)
    (ef : dcLT g ft fk fv vs items ρ1 acc = .ok (acc9, ρ9)) (hN : ∀ F' H', Aft K F0 H0 σ0 ρ0 F' H' (wipe σ vs) ρ9 → H' D = some (.dT acc9) → F' D = none → ¬ OwnS (wipe σ vs) ρ9 D → Nx H') :
    ∃ W1 : Nat → Nat → Hp → Prop, (∃ m, W1 0 m H1) ∧ Goes J (LG K vs g) (LT K W0 ft) (wipe σ vs) (EmK (LE K W0 fk) (LE K W0 fv) D) Nx W1 := by
  refine walk_turns w (T := fun N x H' => LG K vs g x (wipe σ vs) H' fun σ3 H5 => Knows (wipe σ vs) σ3 ∧ LT K W0 ft σ3 H5 fun b H6 => if b = true then EmK (LE K W0 fk) (LE K W0 fv) D σ3 H6 N else N H6)
    (fun i H' => ∃ F' ρ' acc, Aft K F0 H0 σ0 ρ0 F' H' (wipe σ vs) ρ' ∧ Same F1 F' ∧ H' D = some (.dT acc) ∧ F' D = none ∧ ¬ OwnS (wipe σ vs) ρ' D ∧ dcLT g ft fk fv vs (items.drop i) ρ' acc = .ok (acc9, ρ9))
    ⟨F1, ρ1, acc, A, Same.refl _, d1, d2, d3, ef⟩ (fun i H' _ ⟨F', ρ', acc, A, s, _⟩ => s.trans A.rel.sub) (fun i x H' H'' hi ⟨F', ρ', acc, A, sm, d1, d2, d3, ef⟩ y => ?_) (fun H' ⟨F', ρ', acc, A, sm, d1, d2, d3, ef⟩ => ?_)
  · obtain ⟨d, F2, ed, rd, A2⟩ := y.take sm A.rel
    obtain ⟨b1, b2, b3⟩ := A2.stays d1 d2 d3
    refine ⟨F2, ρ', d, A2.rel, rd, ?_⟩
    rw [drop_at hi ed] at ef
    unfold dcLT at ef
    cases eg : g d ρ' with
    | none => rw [eg] at ef; cases ef
    | some ρ2 =>
      rw [eg] at ef
      dsimp only at ef
      intro σ2 F3 H3 A3 s3 m3
      obtain ⟨c1, c2, c3⟩ := A3.stays b1 b2 b3
      have hw : wipe σ2 vs = wipe σ vs := wipe_eq (by rw [s3.1, wipe_length]) s3.2
      refine ⟨hw ▸ Knows.wipe σ2 vs, F3, ρ2, A3.rel, ?_⟩
      cases et : ft ρ2 with
      | no => rw [et] at ef; cases ef
      | er x y => rw [et] at ef; cases ef
      | ok bp =>
        obtain ⟨b, ρ3⟩ := bp
        rw [et] at ef
        dsimp only at ef
        intro F4 H4 A5
        have A6 := ((A.trans A2).trans A3).trans A5
        obtain ⟨f1, f2, f3⟩ := A5.stays c1 c2 c3
        dsimp only
        split
        · rename_i hb
          rw [if_pos hb] at ef
          refine ⟨F4, ρ3, A5.rel, ?_⟩
          cases ek : fk ρ3 with
          | no => rw [ek] at ef; cases ef
          | er x y => rw [ek] at ef; cases ef
          | ok kp =>
            obtain ⟨kd, ρ4⟩ := kp
            rw [ek] at ef
            cases ea : asTup kd with
            | none => dsimp only at ef; rw [ea] at ef; cases ef
            | some ns =>
              dsimp only at ef
              rw [ea] at ef
              dsimp only at ef
              intro F5 H5 A7 kv rk
              rw [asTup_some ea] at rk
              obtain ⟨kb, us, rfl, kb2, kb3⟩ := rk.tup_inv
              rw [RpA.ints_inv kb3, ← kV_ints] at kb2
              obtain ⟨g1, g2, g3⟩ := A7.stays f1 f2 f3
              refine ⟨F5, ρ4, A7.rel, ?_⟩
              cases ee : fv ρ4 with
              | no => rw [ee] at ef; cases ef
              | er x y => rw [ee] at ef; cases ef
              | ok yp =>
                obtain ⟨yd, ρ5⟩ := yp
                rw [ee] at ef
                dsimp only at ef
                intro F6 H6 A8 yv ry
                obtain ⟨i1, i2, i3⟩ := A8.stays g1 g2 g3
                by_cases hz : flatD yd = true ∧ acc.length < sizeLine
                · rw [if_pos hz] at ef
                  have A9 := ((A6.trans A7).trans A8).wipe (vs := vs)
                  rw [hw] at A9
                  have i4 : ¬ OwnS (wipe σ vs) (wipeD ρ5 vs) D := fun z => i3 (by rw [← hw] at z; exact z.unwipe)
                  have s5 := (A2.tr.ff.trans A3.tr.ff).trans ((A5.tr.ff.trans A7.tr.ff).trans A8.tr.ff)
                  refine ⟨_, DPut.t i1 (A8.rel.sub _ _ (A8.tr.ff _ _ kb2)) hz.2, F6, wipeD ρ5 vs, putK acc (ns.map .inl) yv, A9.mutFree h0 i2 i4, sm.trans s5, upd_same, i2, i4, ?_⟩
                  rw [(ry.flat hz.1).1]
                  exact ef
                · rw [if_neg hz] at ef; cases ef
        · rename_i hb
          rw [if_neg hb] at ef
          have A8 := A6.wipe (vs := vs)
          rw [hw] at A8
          have s5 := (A2.tr.ff.trans A3.tr.ff).trans A5.tr.ff
          exact ⟨F4, wipeD ρ3 vs, acc, A8, sm.trans s5, f1, f2, fun z => f3 (by rw [← hw] at z; exact z.unwipe), ef⟩
  · rw [List.drop_length] at ef
    unfold dcLT at ef
    cases ef
    exact hN F' H' A d1 d2 d3
theorem dcT2_er : ∀ (items : List RL.D) (ρ : Sl) (acc : List (List Key × V)) (x : Ex) (y : Sl), dcT2 g ft fi1 g1 ft1 fk fv vs vs1 items ρ acc ≠ .er x y
  | [], _, _, _, _ => fun h => nomatch h
  | a :: r, ρ, acc, x, y => by
    intro h
    unfold dcT2 at h
    split at h
    · cases h
    · split at h
      · split at h
        · split at h
          · split at h
            · exact dcT2_er r _ _ x y h
            · cases h
          · cases h
        · exact dcT2_er r _ _ x y h
      · cases h
theorem ln_dcT2 (hv : ∀ i ∈ vs1, i ∈ vs) {σ : L2.St} {H : Hp} {Q : VK} (h : LN K W (dDcT2 fi g ft fi1 g1 ft1 fk fv vs vs1) σ H Q) : tDc2 (.dT []) (LI K W fi) (LG K vs g) (LT K W0 ft) (LI K W0 fi1) (LG K vs1 g1) (LT K W0 ft1) (LE K W0 fk) (LE K W0 fv) vs vs1 σ H Q := by
  obtain ⟨F, ρ, r, q⟩ := h
  refine ⟨F, ρ, r, (Post.bind q).mono fun items ρ1 F1 H1 A1 q1 J w D hD => ?_⟩
  dsimp only at q1
  cases hR : dcT2 g ft fi1 g1 ft1 fk fv vs vs1 items (wipeD ρ1 vs) [] with
  | no => rw [hR] at q1; exact q1.elim
  | er x y => exact absurd hR (dcT2_er _ _ _ _ _)
  | ok p9 =>
  obtain ⟨acc9, ρ9⟩ := p9
  rw [hR] at q1
  have r1 : Rel K F1 H1 (wipe σ vs) (wipeD ρ1 vs) := A1.rel.wipe
  have nD : ∀ {σ : L2.St} {ρ : Sl}, Rel K F1 H1 σ ρ → ¬ OwnS σ ρ D := fun r z => by
    obtain ⟨_, o, e⟩ := z.there r
    rw [hD] at e; cases e
  refine walk_turns w (T := fun N x H' => LG K vs g x (wipe σ vs) H' fun σ2 H2 => Knows (wipe σ vs) σ2 ∧ LT K W0 ft σ2 H2 fun b H3 =>
    if b = true then EmI (LI K W0 fi1) (LG K vs1 g1) (LT K W0 ft1) (LE K W0 fk) (LE K W0 fv) vs1 D σ2 H3 N else N H3)
    (fun i H' => ∃ F' ρ' acc, Aft K F1 H1 (wipe σ vs) (wipeD ρ1 vs) F' H' (wipe σ vs) ρ' ∧ H' D = some (.dT acc) ∧ F' D = none ∧ ¬ OwnS (wipe σ vs) ρ' D ∧ dcT2 g ft fi1 g1 ft1 fk fv vs vs1 (items.drop i) ρ' acc = .ok (acc9, ρ9))
    ⟨F1, _, [], Aft.step r1 (.alloc hD) (Same.alloc r1.sub hD), upd_same, none_of r1.sub hD, nD r1, hR⟩ (fun i H' _ ⟨F', ρ', acc, A, _⟩ => A.tr.ff.trans A.rel.sub) (fun i x H' H'' hi ⟨F', ρ', acc, A, d1, d2, d3, ef⟩ y => ?_) (fun H' ⟨F', ρ', acc, A, d1, d2, d3, ef⟩ => ?_)
  · obtain ⟨d, F2, ed, rd, A2⟩ := y.take A.tr.ff A.rel
    obtain ⟨b1, b2, b3⟩ := A2.stays d1 d2 d3
    refine ⟨F2, ρ', d, A2.rel, rd, ?_⟩
    rw [drop_at hi ed] at ef
    unfold dcT2 at ef
    cases eg : g d ρ' with
    | none => rw [eg] at ef; cases ef
    | some ρ2 =>
      rw [eg] at ef
      dsimp only at ef
      intro σ2 F3 H3 A3 s3 m3
      obtain ⟨c1, c2, c3⟩ := A3.stays b1 b2 b3
      have hw : wipe σ2 vs = wipe σ vs := wipe_eq (by rw [s3.1, wipe_length]) s3.2
      refine ⟨hw ▸ Knows.wipe σ2 vs, F3, ρ2, A3.rel, ?_⟩
      cases et : ft ρ2 with
      | no => rw [et] at ef; cases ef
      | er x y => rw [et] at ef; cases ef
      | ok bp =>
        obtain ⟨b, ρ3⟩ := bp
        rw [et] at ef
        dsimp only at ef
        intro F4 H4 A5
        have A6 := ((A.trans A2).trans A3).trans A5
        obtain ⟨f1, f2, f3⟩ := A5.stays c1 c2 c3
        dsimp only
        split
        · rename_i hb
          rw [if_pos hb] at ef
          refine ⟨F4, ρ3, A5.rel, ?_⟩
          cases ei : fi1 ρ3 with
          | no => rw [ei] at ef; cases ef
          | er x y => rw [ei] at ef; cases ef
          | ok ip =>
            obtain ⟨items1, ρ4⟩ := ip
            rw [ei] at ef
            dsimp only at ef
            intro F5 H5 A7 J1 w1
            obtain ⟨g1', g2', g3'⟩ := A7.stays f1 f2 f3
            cases el : dcLT g1 ft1 fk fv vs1 items1 (wipeD ρ4 vs1) acc with
            | no => rw [el] at ef; cases ef
            | er x y => rw [el] at ef; cases ef
            | ok lp =>
              obtain ⟨acc', ρ5⟩ := lp
              rw [el] at ef
              dsimp only at ef
              refine dc_inT (σ := σ2) w1 ((A6.trans A7).wipe (vs := vs1)) hD g1' g2' (fun z => g3' z.unwipe) el fun F' H' A' e1 e2 e3 => ?_
              have A8 := A'.wipe (vs := vs)
              rw [wipe_sub hv, hw] at A8
              exact ⟨F', wipeD ρ5 vs, acc', A8, e1, e2, fun z => e3 (by rw [← hw, ← wipe_sub hv] at z; exact z.unwipe), ef⟩
        · rename_i hb
          rw [if_neg hb] at ef
          have A8 := A6.wipe (vs := vs)
          rw [hw] at A8
          exact ⟨F4, wipeD ρ3 vs, acc, A8, f1, f2, fun z => f3 (by rw [← hw] at z; exact z.unwipe), ef⟩
  · rw [List.drop_length] at ef
    unfold dcT2 at ef
    cases ef
    have A9 := A.unwipe A1.rel.len
    refine q1 F' H' A9 (.ref D) ⟨D, _, rfl, A1.tr.dom D hD, d2, d1, (fun _ z => nomatch z), rfl⟩ (fun p e _ z => ?_)
    cases e
    exact nD A1.rel (by
      rcases A9.ow D z with w | w
      · exact w
      · obtain ⟨i, c, h1, h2⟩ := z
        obtain ⟨v, ev, qv⟩ := A.rel.at_ i _ h1
        have e3 := (wipe_some ev).1
        rw [h2] at e3
        cases e3
        exact absurd ⟨i, c, h1, ev⟩ d3)
end
section
variable {X : Cx} {K : PySem.W.Frag} {W : WX} {tg iter tg1 iter1 kx vx e : Expr} {ifs ifs1 : List Expr} {pos : Pos} {fi fi1 : FI} {g g1 : FG} {ft ft1 : FT} {fk fv : FE} {own : List (Str × Nat)} {vs1 : List Nat} {scope : Scope}
theorem dn_dcT2 {k : Nat} (hr : Room k X.A) (hc : X.calm = true) (hN : X.N.Nodup) (hi : DI X K W tg iter fi) (ok : BlkOk X.N X.env.scope scope own) (hv : ∀ i ∈ vs1, i ∈ own.map (·.2))
    (hg : InBlk X scope fun Y => DG Y K (own.map (·.2)) tg g) (ht : InBlk X scope fun Y => DTs Y K W0 ifs ft) (hi1 : InBlk X scope fun Y => DI Y K W0 tg1 iter1 fi1) (hg1 : InBlk X scope fun Y => DG Y K vs1 tg1 g1) (ht1 : InBlk X scope fun Y => DTs Y K W0 ifs1 ft1)
    (hk : InBlk X scope fun Y => DE Y K W0 kx fk) (he : InBlk X scope fun Y => DE Y K W0 vx fv) (hs : ∀ x, foldedSetIterable iter X.env x = pure x := by intro _; rfl) (hs1 : ∀ env x, foldedSetIterable iter1 env x = pure x := by intro _ _; rfl) :
    DN X K W (.DictComp kx vx [⟨tg, iter, ifs, 0⟩, ⟨tg1, iter1, ifs1, 0⟩] scope pos) (dDcT2 fi g ft fi1 g1 ft1 fk fv (own.map (·.2)) vs1) := by
  refine ⟨⟨fun pins s σ H Q I h => ?_⟩⟩
  rw [arm_eval_DictComp]
  refine dc2_run (by have := hr.un; omega) (.inr rfl) hc hN I hi.pi ok hv (fun s H C cl fp => (hg s H C cl fp).pg) (fun s H C cl fp => (ht s H C cl fp).pt) (fun s H C cl fp => (hi1 s H C cl fp).pi) (fun s H C cl fp => (hg1 s H C cl fp).pg) (fun s H C cl fp => (ht1 s H C cl fp).pt) (fun s H C cl fp => (hk s H C cl fp).pe) (fun s H C cl fp => (he s H C cl fp).pe) hs hs1 (ln_dcT2 hv h) ?_
  rintro D C s' m H' I' q hn ⟨f0, f1, f2, f3, f4, f5⟩
  exact ⟨m, hn, fun h'' sb => ⟨.ref D, H', I'.turned (t' := s'.toks) (fun b o hb e => (sb.2 b hb).trans e) f0 f1 f3 f4 f5, rfl, q⟩⟩
end
end RL

namespace RL
open PySem PySem.Spec PyProof.Rows L2
/-! isinstance(x, (T1, T2)) -/
def gIsi2 (T1 T2 : String) (d : D) : Option S := (tyN d).bind fun t => (kitB t T1).bind fun b1 => (kitB t T2).map fun b2 => .d (.bl (b1 || b2))
def dIsi2 (T1 T2 : String) (fa : FE) : FN := dUn (gIsi2 T1 T2) fa
theorem dn_isi2 {X : Cx} {K : PySem.W.Frag} {W : WX} {a : Expr} {fa : FE} {kk} {p p2 p3 pos tpos : Pos} {x y : Str} {T1 T2 : String} (hg : Gl X "isinstance") (hm : X.mg "isinstance" = none) (ha : DE X K W a fa) (gx : Gl X x) (mx : X.mg x = none) (vx : bootBuiltins x = some (.type T1)) (gy : Gl X y) (my : X.mg y = none) (vy : bootBuiltins y = some (.type T2)) (hK : X.K = K := by rfl)
    (nx : x ≠ "__name__" := by decide) (dx : (x == ("__debug__" : Str)) = false := by decide) (ny : y ≠ "__name__" := by decide) (dy : (y == ("__debug__" : Str)) = false := by decide)
    (h1 : starEach [a, .Tuple [.Name x p2, .Name y p3] kk tpos] X.env = (false, eval a X.env) :: starEach [.Tuple [.Name x p2, .Name y p3] kk tpos] X.env := by rfl)
    (h2 : starEach [.Tuple [.Name x p2, .Name y p3] kk tpos] X.env = [(false, eval (.Tuple [.Name x p2, .Name y p3] kk tpos) X.env)] := by rfl)
    (h3 : starEach [.Name x p2, .Name y p3] X.env = (false, eval (.Name x p2) X.env) :: starEach [.Name y p3] X.env := by rfl) (h4 : starEach [.Name y p3] X.env = [(false, eval (.Name y p3) X.env)] := by rfl)
    (hpl : (backTo pos (starEach [.Tuple [.Name x p2, .Name y p3] kk tpos] X.env)).any (·.1) = false := by rfl) :
    DN X K W (.Call (.Name "isinstance" p) [a, .Tuple [.Name x p2, .Name y p3] kk tpos] [] pos) (dIsi2 T1 T2 fa) := by
  subst hK
  have ht : PE X (.Tuple [.Name x p2, .Name y p3] kk tpos) (tTup (tCons (tC (.ty T1)) (tCons (tC (.ty T2)) tNil))) := pe_tup (pa_cons (pe_ty gx mx vx nx dx) (pa_cons (pe_ty gy my vy ny dy) pa_nil h4) h3)
  have hp := pa_cons ha.pe (pa_cons ht pa_nil h2) h1
  refine ⟨(pe_callB call_isiT hg hm bt_isinstance hp (by decide) (by decide) h1 hpl).weak fun σ H Q ⟨F, ρ, rl, q⟩ => ?_⟩
  refine ⟨F, ρ, rl, (Post.bind q).mono fun x ρ1 F1 H1 A1 q1 v rv => ?_⟩
  dsimp only at q1
  cases eg : gIsi2 T1 T2 x with
  | none => rw [eg] at q1; exact q1.elim
  | some s =>
    rw [eg] at q1
    unfold gIsi2 at eg
    cases e1 : tyN x with
    | none => rw [e1] at eg; cases eg
    | some t =>
      rw [e1] at eg
      dsimp only [Option.bind] at eg
      cases e2 : kitB t T1 with
      | none => rw [e2] at eg; cases eg
      | some b1 =>
        rw [e2] at eg
        dsimp only [Option.bind] at eg
        cases e3 : kitB t T2 with
        | none => rw [e3] at eg; cases eg
        | some b2 =>
          rw [e3] at eg
          cases eg
          refine ⟨by show (2 : Nat) ≤ sizeLine; decide, fun tp hp => ?_⟩
          have h2 : Same F1 (upd H1 tp (.tup [.ty T1, .ty T2])) := Same.alloc A1.rel.sub hp
          refine ⟨v, tp, [.ty T1, .ty T2], .type t, [.type T1, .type T2], b1 || b2, rfl, upd_same, .cons (.ty T1) (.cons (.ty T2) .nil), rv.tyX h2 e1, ?_, ?_⟩
          · unfold PySem.W.kitAny
            rw [show PySem.W.kitOne X.K (.type t) (.type T1) = some b1 from kit_ty e2]
            cases b1 with
            | true => rfl
            | false =>
              dsimp only
              unfold PySem.W.kitAny
              rw [show PySem.W.kitOne X.K (.type t) (.type T2) = some b2 from kit_ty e3]
              cases b2 <;> rfl
          · exact q1 F1 _ (Aft.step A1.rel (.alloc hp) h2) (.bl (b1 || b2)) (.bl _) (fun _ z => nomatch z)
/-! dict(d): keys tuples of ints -/
def hP (ns : List Int) : Int := reduceHash (Builtin.Tuple.tupleHashOf (ns.map hashInt))
def HashOk (kvs : List (List Key × V)) : Prop := ∃ nss : List (List Int), kvs.map (·.1) = nss.map (fun ns => ns.map Sum.inl) ∧ (nss.map hP).Nodup
section
variable {X : Cx} {K : PySem.W.Frag} {W : WX}
theorem hash_ints {P : Program} {w : World} (ns : List Int) : (tupleKind (mixKind P w)).hash (ns.map Sum.inl) = hP ns := by
  show reduceHash (Builtin.Tuple.tupleHashOf ((ns.map Sum.inl).map (keyH w))) = _
  rw [List.map_map]
  rfl
def rDictT : List V → Hp → VK → Prop := fun xs H Q => ∃ (a : Addr) (kvs : List (List Key × V)), xs = [.ref a] ∧ H a = some (.dT kvs) ∧ HashOk kvs ∧ ∀ p, H p = none → Q (.ref p) (upd H p (.dT kvs))
theorem call_dictT {k : Nat} (hr : Room k X.A) : CallR X (.type "dict") rDictT := by
  intro pins s σ H xs us Q I r h
  obtain ⟨a, kvs, rfl, hd, ⟨nss, ek, hn⟩, q⟩ := h
  rw [Vals.ref1 r]
  obtain ⟨z, lo, ys, rel, dd⟩ := dt_of I.hok hd
  have fresh : H s.heap.objs.size = none := I.hok.fresh (Nat.le_refl _)
  have room : (tupleKind (mixKind X.prog X.w)).room X.A.in1.in1 := by
    have := hr.un
    show X.A.units + 2 < cLine
    omega
  have keys : ys.map (·.1) = nss.map (fun ns => ns.map Sum.inl) := by
    rw [← ek]
    have all : ∀ {l : List (List Key × V)} {m : List (List Key × Addr × Value)}, KT H l m → m.map (·.1) = l.map (·.1) := by
      intro l m t
      induction t with
      | nil => rfl
      | cons c _ ih => rw [List.map_cons, List.map_cons, ih, c.1]
    exact all rel
  have apart : (ys.map fun y => (tupleKind (mixKind X.prog X.w)).hash y.1).Nodup := by
    have : ys.map (fun y => (tupleKind (mixKind X.prog X.w)).hash y.1) = nss.map hP := by
      rw [show ys.map (fun y => (tupleKind (mixKind X.prog X.w)).hash y.1) = (ys.map (·.1)).map (tupleKind (mixKind X.prog X.w)).hash by rw [List.map_map]; rfl, keys, List.map_map]
      exact List.map_congr_left fun ns _ => hash_ints ns
    rw [this]
    exact hn
  have ne : s.heap.objs.size ≠ a := fun e => by
    rw [← e, fresh] at hd
    cases hd
  have tups : ∀ y ∈ ys, H y.2.1 = some (.tup (y.1.map kV)) := by
    have all : ∀ {l : List (List Key × V)} {m : List (List Key × Addr × Value)}, KT H l m → ∀ y ∈ m, H y.2.1 = some (.tup (y.1.map kV)) := by
      intro l m t
      induction t with
      | nil => exact fun _ z => nomatch z
      | cons c _ ih =>
        intro y hy
        rcases List.mem_cons.mp hy with rfl | hy
        · rw [← c.1]; exact c.2.1
        · exact ih y hy
    exact all rel
  refine callType_codes (Q₁ := fun o s1 => o = .ref s.heap.objs.size ∧ s1 = { s with heap := s.heap.push { cls := .type "dict", data := .dict #[] } }) F.kt_called_dict (F.kt_typeCall_dict_1 _) F.entry_dict_init (kt_code_dict_new _ ⟨rfl, rfl⟩) ?_
  rintro o s1 ⟨rfl, rfl⟩
  have d0 := Heap.DictOfH.new (knd := tupleKind (mixKind X.prog X.w)) s.heap
  have keeps : ∀ b u, s.heap.get? b = some u → (s.heap.push { cls := .type "dict", data := .dict #[] }).get? b = some u := fun b u e => Heap.get?_push_of_some _ e
  have d1 : (s.heap.push { cls := .type "dict", data := .dict #[] }).DictOfH (tupleKind (mixKind X.prog X.w)) a ys := by
    have I1 : Inv X pins σ (upd H s.heap.objs.size (.dT [])) { s with heap := s.heap.push { cls := .type "dict", data := .dict #[] } } := I.laid (t' := s.toks) keeps (Nat.le_refl _) (dt_empty s.heap I.big)
    obtain ⟨o9, es9, ep9, a1, a2, a3, a4, a5, a6⟩ := dd
    exact ⟨o9, es9, ep9, keeps _ _ a1, a2, a3, a4, fun y hy => key_of I1.hok (by rw [upd_ne (ne_of_none (tups y hy) fresh)]; exact tups y hy), a6⟩
  refine ⟨d0.typeIs, F.args_dict_init_2 _ _, ?_⟩
  have tt : ∀ y ∈ ys, ({ s with heap := s.heap.push { cls := .type "dict", data := .dict #[] } } : Shared).TypeIs (.ref y.2.1) "tuple" := fun y hy => by
    obtain ⟨_, _, _, o5, c1, c2, _⟩ := (show ObjOk X.prog X.w H s.heap y.2.1 (.tup (y.1.map kV)) from I.hok _ _ (tups y hy))
    exact ⟨o5, keeps _ _ c1, c2⟩
  have l0 : ([] : List (List Key × Addr × Value)).length + ys.length ≤ sizeLine := by
    rw [List.length_nil, Nat.zero_add, ← Paired.length rel]
    exact z
  unfold Builtin.«dict.__init__»
  refine wpAny_bind (by
    unfold Builtin.Dict.selfAndRest
    refine wpAny_bind (wpAny_notOrdered_dict d0.typeIs (wpAny_pure (a := (s.heap.objs.size, [Value.ref a])) ?_))
    exact updateFrom_dictH (nm := "dict.__init__") .none room ne lo d0 d1 (.inr ⟨tt, apart⟩) l0 fun h9 d9 _ same => ⟨rfl, by
      rw [storedAllH_nil_of_nodup ys d1.nodup] at d9
      obtain ⟨o9, es9, ep9, a1, a2, a3, a4, _, a6⟩ := d9
      have big : (s.heap.objs.size == sysModules) = false := beq_eq_false_iff_ne.mpr (Nat.ne_of_gt I.big)
      refine ⟨.ref s.heap.objs.size, upd H s.heap.objs.size (.dT kvs), I.laid (t' := s.toks) (fun b u e => (same.2 b (Nat.ne_of_lt (Heap.lt_size e))).trans (keeps b u e)) (Nat.le_refl _) ⟨z, big, ys, rel.keeps fun c zs ec => ?_, o9, es9, ep9, a1, a2, a3, a4, a6⟩, rfl, q _ fresh⟩
      rw [upd_ne (ne_of_none ec fresh)]
      exact ec⟩)
end
open Classical in
noncomputable def gDict : List D → Option S
  | [.dK kvs] => some (.o ⟨none, .od kvs⟩)
  | [.dT kvs] => if HashOk kvs then some (.o ⟨none, .oT kvs⟩) else none
  | _ => none
section
variable {X : Cx} {K : PySem.W.Frag} {W : WX}
def rDict : List V → Hp → VK → Prop := fun xs H Q => (∃ (a : Addr) (kvs : List (Key × V)), xs = [.ref a] ∧ Rd H a (.dK kvs) ∧ ∀ p, H p = none → Q (.ref p) (upd H p (.dK kvs))) ∨ rDictT xs H Q
theorem call_dictB {k : Nat} (hr : Room k X.A) : CallR X (.type "dict") rDict := fun pins s σ H xs us Q I r h => h.elim (fun z => call_dictD pins s σ H xs us Q I r z) fun z => call_dictT hr pins s σ H xs us Q I r z
theorem prDict : PrL K rDict gDict := by
  intro F H vs ds s Q sm r eg hq
  unfold gDict at eg
  split at eg
  · cases eg
    obtain ⟨u, rfl, ru⟩ := RpA.one r
    obtain ⟨a, rfl, h1⟩ := ru.dK_inv
    exact .inl ⟨a, _, rfl, .inl (sm _ _ h1), fun p hp => hq _ F _ (.alloc hp) (Same.alloc sm hp) ⟨p, _, rfl, hp, none_of sm hp, upd_same, (fun _ z => nomatch z), rfl⟩⟩
  · split at eg
    · rename_i hk
      cases eg
      obtain ⟨u, rfl, ru⟩ := RpA.one r
      obtain ⟨a, rfl, h1⟩ := ru.dT_inv
      exact .inr ⟨a, _, rfl, sm _ _ h1, hk, fun p hp => hq _ F _ (.alloc hp) (Same.alloc sm hp) ⟨p, _, rfl, hp, none_of sm hp, upd_same, (fun _ z => nomatch z), rfl⟩⟩
    · cases eg
  · cases eg
/-! len(d), keys tuples -/
def gLenT : List D → Option S
  | [.dT kvs] => some (.d (.int (kvs.length : Nat)))
  | _ => none
theorem prLenT : PrL K rLenT gLenT := by
  intro F H vs ds s Q sm r eg hq
  unfold gLenT at eg
  split at eg
  · cases eg
    obtain ⟨u, rfl, ru⟩ := RpA.one r
    obtain ⟨a, rfl, h1⟩ := ru.dT_inv
    exact ⟨a, _, rfl, sm _ _ h1, hq.here sm (.int _)⟩
  · cases eg
/-! x in d, keys tuples -/
def gInT (neg : Bool) : D → D → Option S
  | k, .dT kvs => (asTup k).map fun ns => .d (.bl (if neg then !(valV kvs (ns.map .inl)).isSome else (valV kvs (ns.map .inl)).isSome))
  | _, _ => none
def rInT (neg : Bool) : R2 := fun x y H Q => ∃ a b kvs k, x = .ref b ∧ y = .ref a ∧ H a = some (.dT kvs) ∧ H b = some (.tup (k.map kV)) ∧ Q (.bl (if neg then !(valV kvs k).isSome else (valV kvs k).isSome)) H
theorem op_inT {k : Nat} (hr : Room k X.A) : OpR X (compareOp .In) (rInT false) := by
  intro pins s σ H x y v u Q I rx ry h
  obtain ⟨a, b, kvs, ks, rfl, rfl, hd, hb, q⟩ := h
  cases ry
  exact d_in (by have := hr.un; omega) I (DGet.t hd hb) rx fun s' I' => ⟨.bl _, H, I', rfl, q⟩
theorem op_notInT {k : Nat} (hr : Room k X.A) : OpR X (compareOp .NotIn) (rInT true) := by
  intro pins s σ H x y v u Q I rx ry h
  obtain ⟨a, b, kvs, ks, rfl, rfl, hd, hb, q⟩ := h
  cases ry
  exact d_notIn (by have := hr.un; omega) I (DGet.t hd hb) rx fun s' I' => ⟨.bl _, H, I', rfl, q⟩
theorem prInT {neg : Bool} : Pr2 K (rInT neg) (gInT neg) := by
  intro F H x y d e s Q sm rx ry eg hq
  unfold gInT at eg
  split at eg
  · rename_i kvs
    cases ea : asTup d with
    | none => rw [ea] at eg; cases eg
    | some ns =>
      rw [ea] at eg
      cases eg
      obtain ⟨a, rfl, h1⟩ := ry.dT_inv
      rw [asTup_some ea] at rx
      obtain ⟨b, us, rfl, h2, h3⟩ := rx.tup_inv
      rw [RpA.ints_inv h3, ← kV_ints] at h2
      exact ⟨a, b, kvs, _, rfl, rfl, sm _ _ h1, sm _ _ h2, hq.here sm (.bl _)⟩
  · cases eg
/-! {} that is to have tuples as keys -/
def dDict0T : FN := fun ρ => .ok (.o ⟨none, .oT []⟩, ρ)
theorem dn_dict0T {pos : Pos} : DN X K W (.Dict [] [] pos) dDict0T := ⟨pe_dnewT.weak fun σ H Q ⟨F, ρ, r, q⟩ p hp =>
  q F _ (Aft.step r (.alloc hp) (Same.alloc r.sub hp)) _ ⟨p, _, rfl, hp, none_of r.sub hp, upd_same, (fun _ z => nomatch z), rfl⟩ fun _ e _ z => by
    cases e
    obtain ⟨_, o, e⟩ := z.there r
    rw [hp] at e
    cases e⟩
end
/-! sum(t), a tuple of ints -/
section
variable {X : Cx} {K : PySem.W.Frag}
def rSumTu (K : PySem.W.Frag) : List V → Hp → VK → Prop := fun vs H Q => ∃ (a : Addr) (ns : List Int), vs = [V.ref a] ∧ SqT K H a (ns.map V.int) ∧ Q (.int ns.sum) H
theorem cr_sumTu (hc : X.calm = true) : CallR X (.builtin "sum") (rSumTu X.K) := by
  intro pins s σ H vs us Q I r h
  obtain ⟨a, ns, rfl, hs, q⟩ := h
  obtain ⟨its, rv, pt, _⟩ := I.tuple hs
  rw [Vals.ref1 r]
  have hl : s.heap.IsTuple a its.toArray := pt
  obtain ⟨xs, hx⟩ := rv.ints.allInts.items
  have hn : numsOf its.toArray.toList = ns := rv.ints.numsOf
  rw [hx] at hl hn
  rw [nums_intItems] at hn
  refine PySem.W.ktm_sumG (I.ok.hd hc) hl fun h9 tk t9 keep => ⟨.int _, H, I.kept keep, ⟨_, rfl⟩, ?_⟩
  rw [preSum_eq, List.take_of_length_le (by simp), hn]
  exact q
def gSumT : List D → Option S
  | [.tup xs] => (intsOf xs).map fun ns => .d (.int ns.sum)
  | _ => none
theorem prSumT : PrL K (rSumTu K) gSumT := by
  intro F H vs ds s Q sm r eg hq
  unfold gSumT at eg
  split at eg
  · rename_i xs
    cases e : intsOf xs with
    | none => rw [e] at eg; cases eg
    | some ns =>
      rw [e] at eg
      cases eg
      rw [ints_of e] at r
      obtain ⟨u, rfl, ru⟩ := RpA.one r
      obtain ⟨a, us, rfl, h1, h2⟩ := ru.tup_inv
      rw [RpA.ints_inv h2] at h1
      exact ⟨a, ns, rfl, sqT_of (sm _ _ h1), hq.here sm (.int _)⟩
  · cases eg
theorem q_sumT (K : PySem.W.Frag) (hK : X.K = K := by rfl) (hc : X.calm = true := by rfl) : CallR X (.builtin "sum") (rSumTu K) := by subst hK; exact cr_sumTu hc
theorem gSumT_ints (ns : List Int) : gSumT [tI ns] = some (.d (.int ns.sum)) := by
  show (intsOf (ns.map .int)).map _ = _
  rw [intsOf_map]
  rfl
end
/-! a tuple in a tuple, by equality -/
section
variable {X : Cx} {K : PySem.W.Frag}
def rInDT (K : PySem.W.Frag) : R2 := fun x y H Q => ∃ d ds, Dp K H x d ∧ Dp K H y (.tuple ds) ∧ SeqAt.shaped d = true ∧ SeqAt.shaped (.tuple ds) = true ∧ Q (.bl (ds.any fun z => PyData.eqv z d)) H
theorem op_inDT {k : Nat} (hr : Room k X.A) : OpR X (compareOp .In) (rInDT X.K) := by
  intro pins s σ H x y v u Q I rx ry h
  obtain ⟨d, ds, hd, he, sd, se, q⟩ := h
  obtain ⟨as, w1⟩ := Dp.reads I d x v hd rx
  obtain ⟨bs, w2⟩ := Dp.reads I (.tuple ds) y u he ry
  have hu := hr.un
  exact SeqAt.in_tuple_reads w2 w1 (SeqAt.canLay_of_shaped se) (SeqAt.canLay_of_shaped sd) (room_in_shaped sd (by omega)) ⟨.bl _, H, I, rfl, q⟩
theorem q_inU (K : PySem.W.Frag) {k : Nat} (hr : Room k X.A) (hK : X.K = K := by rfl) : OpR X (compareOp .In) (rInDT K) := by subst hK; exact op_inDT hr
def gInU : D → D → Option S
  | d, .tup xs => if plainD 60 d = true ∧ plainD 60 (.tup xs) = true then some (.d (.bl (xs.any fun z => eqD z d))) else none
  | _, _ => none
theorem prInU : Pr2 K (rInDT K) gInU := by
  intro F H x y d e s Q sm rx ry eg hq
  unfold gInU at eg
  split at eg
  · rename_i xs
    split at eg
    · cases eg
      rename_i h
      refine ⟨_, toPs xs, rx.dp sm 60 h.1, ry.dp sm 60 h.2, plain_shaped h.1, plain_shaped h.2, ?_⟩
      rw [any_toPs]
      exact hq.here sm (.bl _)
    · cases eg
  · cases eg
theorem gInU_enc {α : Type} [DecidableEq α] {n : Nat} {enc : α → D} (h : EqE n enc) (x : α) (l : List α) (hn : n ≤ 50 := by decide) : gInU (enc x) (.tup (l.map enc)) = some (.d (.bl (decide (x ∈ l)))) := by
  have h1 : plainD 60 (enc x) = true := plainD_mono (by omega) (h.pl x)
  have h2 : plainD 60 (.tup (l.map enc)) = true := plainD_mono (show n + 1 ≤ 60 by omega) (h.tup.pl l)
  show (if plainD 60 (enc x) = true ∧ plainD 60 (.tup (l.map enc)) = true then some (S.d (.bl ((l.map enc).any fun z => eqD z (enc x)))) else none) = _
  rw [if_pos ⟨h1, h2⟩, List.any_map]
  congr 3
  rw [Bool.eq_iff_iff, List.any_eq_true, decide_eq_true_iff]
  constructor
  · rintro ⟨y, hy, e⟩
    have e : eqD (enc y) (enc x) = true := e
    rw [h.eq] at e
    rw [← of_decide_eq_true e]
    exact hy
  · intro hx
    refine ⟨x, hx, ?_⟩
    show eqD (enc x) (enc x) = true
    rw [h.eq]
    simp
end
/-! a def that calls itself: at no depth nothing is promised -/
theorem calNo {P : Program} {w : World} {K : PySem.W.Frag} {mg : Str → Option Value} {base : Heap} {x : Str} {st : Stmt} {N ps : List Str} (k : Nat) (T : TxD K mg x st) (S : FnScope N ps (defScope st))
    (hbd : ∀ (dV kV doc pm : Value) (an : Option Addr) (cdv ct : Value) (us : List Value), us.length = ps.length → bindArgs (PySem.W.fnOf x x (defArgs st) (defBody st) (defScope st) .none kV doc pm an cdv ct) ⟨us, []⟩ = pure (ps.zip us)) : Cal P w K mg base (k + 1) x ps.length fun _ => .no :=
  ⟨kal T S (fun vs H Q E ⟨_, _, _, _, _, z⟩ => z.elim) hbd (fun f cdv A outer s H vs Q E hr ⟨_, _, _, _, _, z⟩ => z.elim), fun _ z => absurd rfl z⟩
end RL

namespace RL
open PySem PySem.Spec PyProof.Rows L2
/-! lots told back: dicts of pairs, and the count of lots -/
abbrev Rst := List Int
/-- each True -/
def kT (nss : List Rst) : List (List Key × V) := nss.map fun ns => (ns.map .inl, .bl true)
abbrev dTs (nss : List Rst) : D := .dT (kT nss)
theorem inl_inj {a b : Rst} (h : a.map (Sum.inl : Int → Key) = b.map .inl) : a = b := (List.map_inj_right fun _ _ z => Sum.inl.inj z).mp h
def addT (nss : List Rst) (ns : Rst) : List Rst := if ns ∈ nss then nss else nss ++ [ns]
theorem any_kT (nss : List Rst) (ns : Rst) : ((kT nss).any fun kv => decide (kv.1 = ns.map .inl)) = decide (ns ∈ nss) := by
  unfold kT
  rw [List.any_map, Bool.eq_iff_iff, List.any_eq_true, decide_eq_true_iff]
  constructor
  · rintro ⟨x, hx, h⟩
    have h : x.map (Sum.inl : Int → Key) = ns.map .inl := by simpa using h
    rw [← inl_inj h]
    exact hx
  · intro h
    exact ⟨ns, h, by simp⟩
theorem putK_T (nss : List Rst) (ns : Rst) : putK (kT nss) (ns.map .inl) (.bl true) = kT (addT nss ns) := by
  have e := any_kT nss ns
  unfold putK addT
  rw [e]
  by_cases h : ns ∈ nss
  · rw [if_pos (decide_eq_true h), if_pos h]
    unfold kT
    rw [List.map_map]
    refine List.map_congr_left fun x _ => ?_
    simp only [Function.comp]
    split
    · rename_i h2; rw [h2]
    · rfl
  · rw [if_neg (by simpa using h), if_neg h]
    unfold kT
    rw [List.map_append]
    rfl
theorem valV_T (nss : List Rst) (ns : Rst) : (valV (kT nss) (ns.map .inl)).isSome = decide (ns ∈ nss) := by
  unfold valV
  rw [Option.isSome_map, Bool.eq_iff_iff, List.find?_isSome, decide_eq_true_iff]
  have := any_kT nss ns
  rw [Bool.eq_iff_iff, List.any_eq_true, decide_eq_true_iff] at this
  exact this
theorem mem_addT {nss : List Rst} {ns x : Rst} : x ∈ addT nss ns ↔ x ∈ nss ∨ x = ns := by
  unfold addT
  split
  · rename_i h
    exact ⟨.inl, fun z => z.elim id fun e => by rw [e]; exact h⟩
  · rw [List.mem_append, List.mem_singleton]
theorem addT_nodup {nss : List Rst} {ns : Rst} (h : nss.Nodup) : (addT nss ns).Nodup := by
  unfold addT
  split
  · exact h
  · rename_i h1
    rw [List.nodup_append]
    exact ⟨h, by simp, fun x hx y hy e => h1 (by rw [List.mem_singleton.mp hy] at e; rw [← e]; exact hx)⟩
theorem mem_foldT : ∀ (l nss : List Rst) (x : Rst), x ∈ l.foldl addT nss ↔ x ∈ nss ∨ x ∈ l
  | [], nss, x => by simp
  | a :: r, nss, x => by
    rw [List.foldl_cons, mem_foldT r, mem_addT, List.mem_cons]
    exact ⟨fun h => h.elim (fun h => h.elim .inl fun e => .inr (.inl e)) fun h => .inr (.inr h), fun h => h.elim (fun h => .inl (.inl h)) fun h => h.elim (fun e => .inl (.inr e)) .inr⟩
theorem foldT_nodup : ∀ (l nss : List Rst), nss.Nodup → (l.foldl addT nss).Nodup
  | [], _, h => h
  | a :: r, nss, h => foldT_nodup r _ (addT_nodup h)
/-! the rests of moduli -/
structure MsOk (ms : List Int) : Prop where
  one : 1 ≤ ms.length
  len : ms.length ≤ 4
  rng : ∀ m ∈ ms, 1 ≤ m ∧ m ≤ 30
def univF (k : Nat) : List Int → List Rst
  | [] => []
  | m :: r => (zr m.toNat).map (fun t => [(k : Int), t]) ++ univF (k + 1) r
def univ (ms : List Int) : List Rst := univF 0 ms
def restF (k : Nat) (n : Int) : List Int → List Rst
  | [] => []
  | m :: r => [(k : Int), n % m] :: restF (k + 1) n r
def restsOf (ms : List Int) (n : Int) : List Rst := restF 0 n ms
theorem mem_univF : ∀ {ms : List Int} {k : Nat} {x : Rst}, x ∈ univF k ms ↔ ∃ (i : Nat) (m t : Int), ms[i]? = some m ∧ 0 ≤ t ∧ t < m ∧ x = [((k + i : Nat) : Int), t]
  | [], k, x => by simp [univF]
  | m :: r, k, x => by
    unfold univF
    rw [List.mem_append, List.mem_map, mem_univF]
    constructor
    · rintro (⟨t, ht, rfl⟩ | ⟨i, m', t, h1, h2, h3, rfl⟩)
      · have := mem_zr.mp ht
        exact ⟨0, m, t, rfl, this.1, by omega, rfl⟩
      · exact ⟨i + 1, m', t, h1, h2, h3, by rw [show k + 1 + i = k + (i + 1) by omega]⟩
    · rintro ⟨i, m', t, h1, h2, h3, rfl⟩
      cases i with
      | zero =>
        cases h1
        exact .inl ⟨t, mem_zr.mpr ⟨h2, by omega⟩, rfl⟩
      | succ i => exact .inr ⟨i, m', t, h1, h2, h3, by rw [show k + 1 + i = k + (i + 1) by omega]⟩
theorem mem_univ {ms : List Int} {x : Rst} : x ∈ univ ms ↔ ∃ (i : Nat) (m t : Int), ms[i]? = some m ∧ 0 ≤ t ∧ t < m ∧ x = [(i : Int), t] := by
  unfold univ
  rw [mem_univF]
  simp only [Nat.zero_add]
theorem univF_nodup : ∀ (ms : List Int) (k : Nat), (univF k ms).Nodup
  | [], k => List.nodup_nil
  | m :: r, k => by
    unfold univF
    rw [List.nodup_append]
    refine ⟨?_, univF_nodup r (k + 1), fun x hx y hy e => ?_⟩
    · exact List.pairwise_map.mpr ((zr_asc _).imp fun h e => Int.ne_of_lt h (List.cons.inj (List.cons.inj e).2).1)
    · obtain ⟨t, _, rfl⟩ := List.mem_map.mp hx
      obtain ⟨i, m', t', _, _, _, rfl⟩ := mem_univF.mp hy
      have e := (List.cons.inj e).1
      omega
theorem univF_len : ∀ (ms : List Int) (k : Nat), (∀ m ∈ ms, 0 ≤ m) → ((univF k ms).length : Int) = ms.sum
  | [], k, _ => rfl
  | m :: r, k, h => by
    unfold univF
    rw [List.length_append, List.length_map, zr_len, List.sum_cons]
    have := univF_len r (k + 1) fun x hx => h x (by simp [hx])
    have := h m (by simp)
    omega
theorem mem_restF : ∀ {ms : List Int} {k : Nat} {n : Int} {x : Rst}, x ∈ restF k n ms ↔ ∃ (i : Nat) (m : Int), ms[i]? = some m ∧ x = [((k + i : Nat) : Int), n % m]
  | [], k, n, x => by simp [restF]
  | m :: r, k, n, x => by
    unfold restF
    rw [List.mem_cons, mem_restF]
    constructor
    · rintro (rfl | ⟨i, m', h1, rfl⟩)
      · exact ⟨0, m, rfl, rfl⟩
      · exact ⟨i + 1, m', h1, by rw [show k + 1 + i = k + (i + 1) by omega]⟩
    · rintro ⟨i, m', h1, rfl⟩
      cases i with
      | zero => cases h1; exact .inl rfl
      | succ i => exact .inr ⟨i, m', h1, by rw [show k + 1 + i = k + (i + 1) by omega]⟩
theorem mem_restsOf {ms : List Int} {n : Int} {x : Rst} : x ∈ restsOf ms n ↔ ∃ (i : Nat) (m : Int), ms[i]? = some m ∧ x = [(i : Int), n % m] := by
  unfold restsOf
  rw [mem_restF]
  simp only [Nat.zero_add]
theorem restF_len : ∀ (ms : List Int) (k : Nat) (n : Int), (restF k n ms).length = ms.length
  | [], _, _ => rfl
  | m :: r, k, n => congrArg Nat.succ (restF_len r (k + 1) n)
theorem restsOf_len (ms : List Int) (n : Int) : (restsOf ms n).length = ms.length := restF_len ms 0 n
theorem rests_univ {ms : List Int} (h : ∀ m ∈ ms, 0 < m) {n : Int} {x : Rst} (hx : x ∈ restsOf ms n) : x ∈ univ ms := by
  obtain ⟨i, m, hi, rfl⟩ := mem_restsOf.mp hx
  have := h m (List.mem_of_getElem? hi)
  exact mem_univ.mpr ⟨i, m, _, hi, Int.emod_nonneg _ (by omega), Int.emod_lt_of_pos _ this, rfl⟩
/-- what is had: no rest twice, each one there is -/
structure Had (ms : List Int) (had : List Rst) : Prop where
  nd : had.Nodup
  sub : ∀ x ∈ had, x ∈ univ ms
theorem Had.nil (ms : List Int) : Had ms [] := ⟨List.nodup_nil, fun _ h => by cases h⟩
theorem Had.add {ms : List Int} {had : List Rst} (h : Had ms had) {x : Rst} (hx : x ∈ univ ms) : Had ms (addT had x) := ⟨addT_nodup h.nd, fun y hy => (mem_addT.mp hy).elim (h.sub y) fun e => by rw [e]; exact hx⟩
theorem Had.fold {ms : List Int} : ∀ {l had : List Rst}, Had ms had → (∀ x ∈ l, x ∈ univ ms) → Had ms (l.foldl addT had)
  | [], _, h, _ => h
  | a :: r, had, h, hl => Had.fold (l := r) (had := addT had a) (h.add (hl a (by simp))) fun x hx => hl x (by simp [hx])
theorem Had.len {ms : List Int} {had : List Rst} (h : Had ms had) : had.length ≤ (univ ms).length := List.Nodup.length_le_of_subset h.nd fun x hx => h.sub x hx
theorem MsOk.pos {ms : List Int} (h : MsOk ms) : ∀ m ∈ ms, 0 < m := fun m hm => by have := h.rng m hm; omega
theorem sum_le {ms : List Int} {c : Int} (h : ∀ m ∈ ms, m ≤ c) : ms.sum ≤ ms.length * c := by
  induction ms with
  | nil => simp
  | cons a r ih =>
    have h1 := h a (by simp)
    have h2 := ih fun m hm => h m (by simp [hm])
    rw [List.sum_cons, List.length_cons]
    have e : ((r.length + 1 : Nat) : Int) * c = r.length * c + c := by rw [Int.natCast_add, Int.add_mul]; simp
    omega
theorem MsOk.univ_len {ms : List Int} (h : MsOk ms) : ((univ ms).length : Int) = ms.sum ∧ ms.sum ≤ 120 := by
  refine ⟨univF_len ms 0 fun m hm => by have := h.rng m hm; omega, ?_⟩
  have h1 := sum_le (c := 30) fun m hm => (h.rng m hm).2
  have := h.len
  omega
/-! the pairs' hashes -/
def allP : List Rst := univ [30, 30, 30, 30]
theorem hash_apart : (allP.map hP).Nodup := by
  decide +kernel
theorem nodup_map_inj {α β : Type} {f : α → β} : ∀ {l : List α}, (l.map f).Nodup → ∀ {a b : α}, a ∈ l → b ∈ l → f a = f b → a = b
  | [], _, a, _, ha, _, _ => by cases ha
  | x :: r, h, a, b, ha, hb, e => by
    rw [List.map_cons, List.nodup_cons] at h
    rcases List.mem_cons.mp ha with ea | ha <;> rcases List.mem_cons.mp hb with eb | hb
    · rw [ea, eb]
    · exact absurd (List.mem_map.mpr ⟨b, hb, by rw [← e, ea]⟩) h.1
    · exact absurd (List.mem_map.mpr ⟨a, ha, by rw [e, eb]⟩) h.1
    · exact nodup_map_inj h.2 ha hb e
theorem hash_ok {ms : List Int} (h : MsOk ms) {had : List Rst} (hh : Had ms had) : HashOk (kT had) := by
  refine ⟨had, by unfold kT; rw [List.map_map]; rfl, ?_⟩
  have inn : ∀ x ∈ had, x ∈ allP := fun x hx => by
    obtain ⟨i, m, t, hi, h0, h1, rfl⟩ := mem_univ.mp (hh.sub x hx)
    have hil := (List.getElem?_eq_some_iff.mp hi).1
    have := h.len
    have := h.rng m (List.mem_of_getElem? hi)
    refine mem_univ.mpr ⟨i, 30, t, ?_, h0, by omega, rfl⟩
    obtain rfl | rfl | rfl | rfl : i = 0 ∨ i = 1 ∨ i = 2 ∨ i = 3 := by omega
    all_goals rfl
  have key : ∀ l : List Rst, l.Nodup → (∀ x ∈ l, x ∈ allP) → (l.map hP).Nodup := by
    intro l
    induction l with
    | nil => exact fun _ _ => List.nodup_nil
    | cons a r ih =>
      intro hn hs
      rw [List.nodup_cons] at hn
      rw [List.map_cons, List.nodup_cons]
      refine ⟨fun z => ?_, ih hn.2 fun x hx => hs x (by simp [hx])⟩
      obtain ⟨b, hb, e⟩ := List.mem_map.mp z
      have := nodup_map_inj hash_apart (hs b (by simp [hb])) (hs a (by simp)) e
      rw [this] at hb
      exact hn.1 hb
  exact key had hh.nd inn
/-! how many lots -/
def wayS (ms : List Int) (had : List Rst) : List Int → Int
  | [] => 2 ^ ((univ ms).length - had.length)
  | x :: out => wayS ms had out - wayS ms ((restsOf ms x).foldl addT had) out
/-- all sets, each behind those without its last one -/
def allT (U : List Rst) : List (List Rst) := U.foldl (fun f u => f ++ f.map (· ++ [u])) [[]]
theorem allT_snoc (U : List Rst) (u : Rst) : allT (U ++ [u]) = allT U ++ (allT U).map (· ++ [u]) := by unfold allT; rw [List.foldl_append]; rfl
/-- how many of all sets are so -/
def cntT (U : List Rst) (P : List Rst → Bool) : Nat := ((allT U).filter P).length
theorem cnt_snoc (U : List Rst) (u : Rst) (P : List Rst → Bool) : cntT (U ++ [u]) P = cntT U P + cntT U fun S => P (S ++ [u]) := by
  unfold cntT
  rw [allT_snoc, List.filter_append, List.length_append, List.filter_map, List.length_map]
  rfl
theorem mem_allT : ∀ {U : List Rst} {S : List Rst}, S ∈ allT U → ∀ x ∈ S, x ∈ U := by
  intro U
  generalize hn : U.length = n
  induction n generalizing U with
  | zero =>
    intro S hS x hx
    rw [List.length_eq_zero_iff.mp hn] at hS
    unfold allT at hS
    rw [List.foldl_nil, List.mem_singleton] at hS
    rw [hS] at hx
    cases hx
  | succ n ih =>
    intro S hS x hx
    obtain ⟨V, u, rfl⟩ : ∃ V u, U = V ++ [u] := ⟨U.dropLast, U.getLast (fun e => by rw [e] at hn; cases hn), (List.dropLast_concat_getLast _).symm⟩
    rw [List.length_append, List.length_singleton] at hn
    rw [allT_snoc, List.mem_append, List.mem_map] at hS
    rcases hS with hS | ⟨S', hS, rfl⟩
    · exact List.mem_append_left _ (ih (by omega) hS x hx)
    · rcases List.mem_append.mp hx with hx | hx
      · exact List.mem_append_left _ (ih (by omega) hS x hx)
      · exact List.mem_append_right _ hx
theorem cnt_congr {U : List Rst} {P Q : List Rst → Bool} (h : ∀ S ∈ allT U, P S = Q S) : cntT U P = cntT U Q := by
  unfold cntT
  rw [List.filter_congr h]
theorem cnt_all (U : List Rst) (had : List Rst) (hU : U.Nodup) (hh : had.Nodup) (hs : ∀ x ∈ had, x ∈ U) : cntT U (fun S => had.all fun x => decide (x ∈ S)) * 2 ^ had.length = 2 ^ U.length := by
  generalize hn : U.length = n
  induction n generalizing U had with
  | zero =>
    rw [List.length_eq_zero_iff.mp hn] at hs ⊢
    have : had = [] := List.eq_nil_iff_forall_not_mem.mpr fun x hx => by cases hs x hx
    subst this
    rfl
  | succ n ih =>
    obtain ⟨V, u, rfl⟩ : ∃ V u, U = V ++ [u] := ⟨U.dropLast, U.getLast (fun e => by rw [e] at hn; cases hn), (List.dropLast_concat_getLast _).symm⟩
    rw [List.length_append, List.length_singleton] at hn
    rw [List.nodup_append] at hU
    obtain ⟨hV, _, hd⟩ := hU
    have huV : u ∉ V := fun z => hd u z u (by simp) rfl
    have notin : ∀ S ∈ allT V, u ∉ S := fun S hS z => huV (mem_allT hS u z)
    rw [cnt_snoc, Nat.pow_succ]
    by_cases hu : u ∈ had
    · have e1 : cntT V (fun S => had.all fun x => decide (x ∈ S)) = 0 := by
        rw [cnt_congr (Q := fun _ => false) fun S hS => ?_]
        · unfold cntT; rw [List.filter_eq_nil_iff.mpr (fun _ _ z => by cases z)]; rfl
        · rw [List.all_eq_false]
          exact ⟨u, hu, by simpa using notin S hS⟩
      have hl : (had.erase u).length + 1 = had.length := by
        have := List.length_erase_of_mem hu
        have := List.length_pos_of_mem hu
        omega
      have hs2 : ∀ x ∈ had.erase u, x ∈ V := fun x hx => by
        have h1 := (List.Nodup.mem_erase_iff hh).mp hx
        rcases List.mem_append.mp (hs x h1.2) with h | h
        · exact h
        · exact absurd (List.mem_singleton.mp h) h1.1
      have e2 : cntT V (fun S => had.all fun x => decide (x ∈ S ++ [u])) = cntT V fun S => (had.erase u).all fun x => decide (x ∈ S) := cnt_congr fun S hS => by
        rw [Bool.eq_iff_iff, List.all_eq_true, List.all_eq_true]
        constructor
        · intro h x hx
          have h1 := (List.Nodup.mem_erase_iff hh).mp hx
          have h2 := of_decide_eq_true (h x h1.2)
          rcases List.mem_append.mp h2 with h3 | h3
          · exact decide_eq_true h3
          · exact absurd (List.mem_singleton.mp h3) h1.1
        · intro h x hx
          by_cases e : x = u
          · exact decide_eq_true (by rw [e]; simp)
          · exact decide_eq_true (List.mem_append_left _ (of_decide_eq_true (h x ((List.Nodup.mem_erase_iff hh).mpr ⟨e, hx⟩))))
      have := ih V (had.erase u) hV (hh.erase u) hs2 (by omega)
      rw [e1, Nat.zero_add, e2, ← hl, Nat.pow_succ, ← Nat.mul_assoc, this]
    · have hs2 : ∀ x ∈ had, x ∈ V := fun x hx => (List.mem_append.mp (hs x hx)).elim id fun h => absurd (by rw [← List.mem_singleton.mp h]; exact hx) hu
      have e2 : cntT V (fun S => had.all fun x => decide (x ∈ S ++ [u])) = cntT V fun S => had.all fun x => decide (x ∈ S) := cnt_congr fun S hS => by
        rw [Bool.eq_iff_iff, List.all_eq_true, List.all_eq_true]
        constructor
        · intro h x hx
          have h2 := of_decide_eq_true (h x hx)
          rcases List.mem_append.mp h2 with h3 | h3
          · exact decide_eq_true h3
          · exact absurd (by rw [← List.mem_singleton.mp h3]; exact hx) hu
        · exact fun h x hx => decide_eq_true (List.mem_append_left _ (of_decide_eq_true (h x hx)))
      have := ih V had hV hh hs2 (by omega)
      rw [e2, Nat.add_mul, this]
      omega
theorem cnt_split (U : List Rst) (P Q : List Rst → Bool) : cntT U (fun S => P S && !Q S) + cntT U (fun S => P S && Q S) = cntT U P := by
  unfold cntT
  induction allT U with
  | nil => rfl
  | cons S r ih =>
    simp only [List.filter_cons]
    cases P S <;> cases Q S <;> simp <;> omega
/-- a lot has what is had, and bars what is out -/
def goodT (ms : List Int) (had : List Rst) (out : List Int) (S : List Rst) : Bool := (had.all fun x => decide (x ∈ S)) && out.all fun n => !(restsOf ms n).all fun x => decide (x ∈ S)
theorem way_cnt {ms : List Int} (h : MsOk ms) : ∀ (out : List Int) (had : List Rst), Had ms had → wayS ms had out = (cntT (univ ms) (goodT ms had out) : Nat)
  | [], had, hh => by
    have h1 := cnt_all (univ ms) had (univF_nodup ms 0) hh.nd hh.sub
    have h2 : cntT (univ ms) (goodT ms had []) = cntT (univ ms) fun S => had.all fun x => decide (x ∈ S) := cnt_congr fun S _ => by unfold goodT; simp
    have hl := hh.len
    unfold wayS
    rw [h2]
    have h3 : cntT (univ ms) (fun S => had.all fun x => decide (x ∈ S)) = 2 ^ ((univ ms).length - had.length) := by
      have e : 2 ^ (univ ms).length = 2 ^ ((univ ms).length - had.length) * 2 ^ had.length := by rw [← Nat.pow_add]; congr 1; omega
      rw [e] at h1
      exact Nat.eq_of_mul_eq_mul_right (Nat.pow_pos (by decide)) h1
    rw [h3]
    simp
  | x :: out, had, hh => by
    have hh2 : Had ms ((restsOf ms x).foldl addT had) := hh.fold fun y hy => rests_univ h.pos hy
    unfold wayS
    rw [way_cnt h out had hh, way_cnt h out _ hh2]
    have h1 := cnt_split (univ ms) (goodT ms had out) fun S => (restsOf ms x).all fun y => decide (y ∈ S)
    have h2 : cntT (univ ms) (goodT ms had (x :: out)) = cntT (univ ms) fun S => goodT ms had out S && !(restsOf ms x).all fun y => decide (y ∈ S) := cnt_congr fun S _ => by
      unfold goodT
      rw [List.all_cons]
      cases had.all (fun x => decide (x ∈ S)) <;> cases out.all (fun n => !(restsOf ms n).all fun x => decide (x ∈ S)) <;> cases (restsOf ms x).all (fun y => decide (y ∈ S)) <;> rfl
    have h3 : cntT (univ ms) (goodT ms ((restsOf ms x).foldl addT had) out) = cntT (univ ms) fun S => goodT ms had out S && (restsOf ms x).all fun y => decide (y ∈ S) := cnt_congr fun S _ => by
      unfold goodT
      have e : (((restsOf ms x).foldl addT had).all fun y => decide (y ∈ S)) = ((had.all fun y => decide (y ∈ S)) && (restsOf ms x).all fun y => decide (y ∈ S)) := by
        rw [Bool.eq_iff_iff, Bool.and_eq_true, List.all_eq_true, List.all_eq_true, List.all_eq_true]
        constructor
        · exact fun q => ⟨fun y hy => q y ((mem_foldT _ _ _).mpr (.inl hy)), fun y hy => q y ((mem_foldT _ _ _).mpr (.inr hy))⟩
        · rintro ⟨q1, q2⟩ y hy
          exact ((mem_foldT _ _ _).mp hy).elim (q1 y) (q2 y)
      rw [e]
      cases had.all (fun x => decide (x ∈ S)) <;> cases out.all (fun n => !(restsOf ms n).all fun x => decide (x ∈ S)) <;> cases (restsOf ms x).all (fun y => decide (y ∈ S)) <;> rfl
    rw [h2, h3]
    omega
end RL

namespace RL
open PySem PySem.Spec PyProof.Rows L2
/-! the suite x = [.., e.f, ..] if isinstance(e, R) else B, e an error with fields -/
theorem call_isF {X : Cx} {a D dd : Addr} {oe : Obj} {pn : List (Addr × Obj)} (C : ExcC X.K D) (hz : Zc (.ref D) (some dd) oe) (hf : ∃ vs, oe.data = .fields vs) :
    CallR (X.suite a ((a, oe) :: pn)) (.builtin "isinstance") (fun xs H Q => (∃ fs, H dd = some (.xd fs)) ∧ rIsE X.K D a xs H Q) := by
  intro pins s σ H xs us Q I r ⟨⟨fs, hx⟩, c, cv, b, ex, hcv, e, q⟩
  subst ex
  obtain ⟨u1, u2, rfl, r1, r2⟩ := vals2 r
  obtain rfl : u1 = .ref a := r1
  obtain rfl := hcv _ r2
  obtain ⟨here, _⟩ := I.pin (a, oe) (List.mem_append_left _ List.mem_cons_self)
  obtain ⟨vs, hd⟩ := hf
  obtain ⟨mA, ns, _⟩ := (show ObjOk X.prog X.w H s.heap dd (.xd fs) from I.hok dd _ hx)
  obtain ⟨od, ho, _⟩ := lookIn_ns ns
  have hcl : (PySem.W.clsIn X.K D).isSome = true := by
    have z := C.hd
    unfold PySem.W.hasDictIn at z
    cases e2 : PySem.W.clsIn X.K D with
    | none => rw [e2] at z; cases z
    | some _ => rfl
  have J : PySem.W.InstAt s.heap a oe D (some od) := ⟨here, hz.1, by unfold PySem.W.notCls; rw [hd], by rw [hz.2]; exact ho⟩
  exact PySem.W.kia_one (PySem.W.kitx_exc hcl C.hg C.hk C.hs C.ha C.hn C.ht C.hm) I.kIn J e (fun z => nomatch z) fun tk => ⟨.bl b, H, I.tok tk, rfl, q⟩
theorem ExcC.xf {K : PySem.W.Frag} {D : Addr} (C : ExcC K D) : XfC K D := ⟨C.hg, C.hk, C.hs, C.hd⟩
inductive It9 where
  | s (x : Str) | f (n : Str)
def tIt (q : Addr) (cls : Value) (d : Option Addr) (C : Addr) (i : Nat) : It9 → TE
  | .s x => tC (.str x)
  | .f n => tXf q cls d C n (tVar i)
def tIts (q : Addr) (cls : Value) (d : Option Addr) (C : Addr) (i : Nat) : List It9 → TA
  | [] => tNil
  | x :: r => tCons (tIt q cls d C i x) (tIts q cls d C i r)
def valD (fs : List (Str × V)) : It9 → Option D
  | .s x => some (.str x)
  | .f n => (fs.lookup n).bind ofV
def valsD (fs : List (Str × V)) : List It9 → Option (List D)
  | [] => some []
  | x :: r => (valD fs x).bind fun d => (valsD fs r).map fun ds => d :: ds
theorem its_run {K : PySem.W.Frag} {q dd C : Addr} {fs : List (Str × V)} {i : Nat} {σ : L2.St} {H : Hp} (hi : σ[i]? = some (some (.ref q))) (hx : H dd = some (.xd fs)) : ∀ (items : List It9) (ds : List D), valsD fs items = some ds →
    ∃ vs, (∀ F, RpA K F vs ds) ∧ vs.length = items.length ∧ ∀ (Q : List V → Hp → Prop), Q vs H → tIts q (.ref C) (some dd) C i items σ H Q
  | [], ds, h => by cases h; exact ⟨[], fun _ => .nil, rfl, fun _ q => q⟩
  | x :: r, ds, h => by
    unfold valsD at h
    cases e1 : valD fs x with
    | none => rw [e1] at h; cases h
    | some d =>
      rw [e1] at h
      dsimp only [Option.bind] at h
      cases e2 : valsD fs r with
      | none => rw [e2] at h; cases h
      | some ds' =>
        rw [e2] at h
        cases h
        obtain ⟨vs, h1, h2, h3⟩ := its_run (K := K) (C := C) hi hx r ds' e2
        cases x with
        | s x =>
          cases e1
          exact ⟨.str x :: vs, fun F => .cons (.str x) (h1 F), congrArg Nat.succ h2, fun Q z => h3 _ z⟩
        | f n =>
          have e1 : (fs.lookup n).bind ofV = some d := e1
          cases e3 : fs.lookup n with
          | none => rw [e3] at e1; cases e1
          | some v =>
            rw [e3] at e1
            exact ⟨v :: vs, fun F => .cons (ofV_rp e1) (h1 F), congrArg Nat.succ h2, fun Q z => ⟨_, hi, rfl, rfl, dd, fs, v, rfl, hx, e3, h3 _ z⟩⟩
def sSetL (j : Nat) (items : List It9) : Ex → FS := fun e ρ => match e.fs with
  | [] => .no
  | _ => (match valsD e.fs items with
    | some ds => if ds.length ≤ 10 then sSet j (dC (.lst ds)) ρ else .no
    | none => .no)
theorem lst_new {K : PySem.W.Frag} {W : WX} {ds : List D} {xs : List V} {σ : L2.St} {H : Hp} {Q : VK} (h : LE K W (dC (.lst ds)) σ H Q) (hx : ∀ F, RpA K F xs ds) : ∀ p, H p = none → Q (.ref p) (upd H p (.lst xs)) := by
  intro p hp
  obtain ⟨F, ρ, r, q⟩ := h
  exact q _ _ (Aft.step r (.new r.sub hp) (Same.upd2 r.sub hp)) _ (.lst upd_same (RpA.mono (Same.new (none_of r.sub hp)) (hx F)))
theorem hnd_L {X : Cx} {K : PySem.W.Frag} {C R : Str} {i j : Nat} {eN b : Expr} {es : List Expr} {st : Stmt} {items : List It9} {tb : TE} {p1 p2 p3 pI pL : Pos} (EC : ExcC K (He.ga K C)) (kR : PySem.W.kitOne K (.ref (He.ga K C)) (.ref (He.ga K R)) = some true)
    (hmI : X.mg "isinstance" = none) (hmR : X.mg R = some (.ref (He.ga K R)))
    (hv : ∀ (q : Addr) (oe : Obj) (pn : List (Addr × Obj)), PE (X.suite q ((q, oe) :: pn)) eN (tVar i)) (hl : ∀ (q : Addr) (oe : Obj) (cls : Value) (d : Option Addr) (pn : List (Addr × Obj)), Zc cls d oe → (∃ vs, oe.data = .fields vs) → PA (X.suite q ((q, oe) :: pn)) es (tIts q cls d (He.ga K C) i items))
    (hb : ∀ (q : Addr) (oe : Obj) (pn : List (Addr × Obj)), PE (X.suite q ((q, oe) :: pn)) b tb)
    (hp : ∀ (q : Addr) (oe : Obj) (pn : List (Addr × Obj)) {te : TE}, PE (X.suite q ((q, oe) :: pn)) (.IfExp (.Call (.Name "isinstance" p1) [eN, .Name R p2] [] p3) (.List es pL) b pI) te → PS (X.suite q ((q, oe) :: pn)) st (tAsg te (gName j)))
    (hgI : Gl X "isinstance" := by rfl) (hgR : Gl X R := by rfl) (hdR : (R == ("__debug__" : Str)) = false := by decide) (h1 : starEach [eN, .Name R p2] X.env = (false, eval eN X.env) :: starEach [.Name R p2] X.env := by rfl) (h2 : starEach [.Name R p2] X.env = [(false, eval (.Name R p2) X.env)] := by rfl)
    (hpl : (backTo p3 (starEach [.Name R p2] X.env)).any (·.1) = false := by rfl) (hT : ∀ whole, isTrue (.Call (.Name "isinstance" p1) [eN, .Name R p2] [] p3) X.env whole = (do let v ← whole; standAt (Expr.pos (.Call (.Name "isinstance" p1) [eN, .Name R p2] [] p3)); holding [v] (truthy v)) := by intro _; rfl) (hK : X.K = K := by rfl) :
    Hnd X K C i st [] (sSetL j items) := by
  subst hK
  refine ⟨fun q oe cls d pn hz hf => ?_⟩
  by_cases hc : cls = .ref (He.ga X.K C) ∧ ∃ dd, d = some dd
  · obtain ⟨rfl, dd, rfl⟩ := hc
    have t1 := pe_callB (X := X.suite q ((q, oe) :: pn)) (x := "isinstance") (p := p1) (pos := p3) (call_isF EC hz hf) hgI hmI bt_isinstance (pa_cons (hv q oe pn) (pa_cons (pe_G (X := X.suite q ((q, oe) :: pn)) (x := R) (v := .ref (He.ga X.K R)) (pos := p2) ⟨_, hmR, rfl⟩ hgR hdR) pa_nil h2) h1) (by decide) (by decide) h1 hpl
    have t2 := hp q oe pn (pe_ifExp (pos := pI) (pt_val t1 hT) (pe_lst (pos := pL) (hl q oe _ _ pn hz hf)) (hb q oe pn))
    refine (pss_one t2).weak fun D σ H ⟨F, ρ, e, r, _, hC, re, hi, ps⟩ => ?_
    unfold sSetL at ps
    cases efs : e.fs with
    | nil => rw [efs] at ps; exact ps.elim
    | cons y ys =>
      unfold RE at re
      rw [efs] at re ps
      obtain ⟨dd', ed, hx⟩ := re
      cases ed
      dsimp only at ps
      cases ev : valsD (y :: ys) items with
      | none => rw [ev] at ps; exact ps.elim
      | some ds =>
        rw [ev] at ps
        dsimp only at ps
        by_cases hlen : ds.length ≤ 10
        · rw [if_pos hlen] at ps
          obtain ⟨vs, v1, v2, v3⟩ := its_run (K := X.K) (C := He.ga X.K C) hi hx items ds ev
          have s10 : (10 : Nat) ≤ sizeLine := by decide
          refine ⟨_, hi, ⟨_, hx⟩, _, _, true, rfl, (fun u hu => hu), kR, true, rfl, ?_⟩
          dsimp only
          rw [if_pos rfl]
          exact v3 _ ⟨by have := (v1 F).len; omega, lst_new (ls_set ⟨F, ρ, r, ps⟩) v1⟩
        · rw [if_neg hlen] at ps; exact ps.elim
  · refine ⟨fun pins s σ H D I h => ?_⟩
    obtain ⟨F, ρ, e, r, h1, hC, re, hi, ps⟩ := h
    exfalso
    unfold sSetL at ps
    cases efs : e.fs with
    | nil => rw [efs] at ps; exact ps
    | cons y ys =>
      unfold RE at re
      rw [efs] at re
      obtain ⟨a, ed, _⟩ := re
      exact hc ⟨h1, a, ed⟩
end RL

namespace RL
open PySem PySem.Spec PyProof.Rows L2
noncomputable def G__law_draws : FS := sRetN (dLs gLstD (aCons (fz (dLs gList (aCons (dV 0) (aNil)))) (aCons (dC (.int 0)) (aCons (dC (.int 0)) (aCons (dC (.int 7)) (aNil))))))
/-- the row of draws: the script, how far it is read, what is left of a great number, the rolling number -/
structure RowS where
  ns : List Int
  i : Nat
  c : Int
  r : Int
abbrev RowS.ds (q : RowS) : List D := [lI q.ns, .int (q.i : Nat), .int q.c, .int q.r]
abbrev RowS.ob (q : RowS) : OB := .ol q.ds
structure RowOk (q : RowS) : Prop where
  i : q.i ≤ q.ns.length
  c : 0 ≤ q.c
  r : 0 ≤ q.r
  r1 : q.r < 2147483647
def F__law_draws : List D → Fr
  | [.scr ns] => .ok (.o (oL (RowS.mk ns 0 0 7).ds))
  | _ => .no
theorem ok__law_draws (ds : List D) (h : F__law_draws ds ≠ .no) : ds.length = 1 ∧ out (G__law_draws (startD 1 ds)) = F__law_draws ds := by
  unfold F__law_draws at h
  split at h
  · refine ⟨rfl, ?_⟩
    have e : (4 : Nat) ≤ sizeLine := by decide
    simp only [G__law_draws, sSeq, sRet, sRetN, sExpr, sIf, sSet, sSetN, sAsg, sParM, sFor, sNx, sBk, sCt, sAug, sRz, sRm1, sRm2, sSetIx, sPutF, dV, dC, dOp, dUn, dLs, fz, nE, dB, dAnd, dOr, dNot, dAndV, dOrV, dNotV, dIf, dChI, dIsi, dCall, dCall0, dCallO, dCallO0, dMake, dMake0, dFld, dProp, dSlice, dLc, dMutL, pkE, pkT, rowD, oNone, oSome, aNil, aCons, aStar, mNil, mCons, putS, sOf, gN, gT, gsCons, gsNil, jSeq, jArg, seqD, rsO_some, rsO_none, out, startD, outO, startO, ocAt, olAt, frA, frS, lkN, putN, gTupD, gLstD, uApp, flatD, toV, tYesD, Rs.bind_eq, Rs.bind_ok, Rs.bind_er, Rs.bind_no, S.frz, OC.frz, OB.frz, Option.bind_some, Option.bind_none, Option.bind, Option.map, List.map_cons, List.map_nil, List.cons_append, List.nil_append, List.append_nil, List.length_cons, List.length_nil, Nat.reduceAdd, Nat.reduceSub, List.replicate_succ, List.replicate_zero, List.getElem?_cons_zero, List.getElem?_cons_succ, List.set_cons_zero, List.set_cons_succ, Int.cast_ofNat_Int, ne_eq, not_true_eq_false, not_false_eq_true, decide_false, decide_true, Int.reduceLT, Int.reduceLE, Int.reduceGT, Int.reduceGE, Int.reduceEq, Int.reduceNeg, Int.reduceAdd, Int.reduceSub, Int.reduceMul, if_true, if_false, reduceIte, Bool.false_eq_true, Bool.true_eq_false, Bool.not_true, Bool.not_false, Nat.zero_add, true_and, and_true, ite_true, ite_false, gAdd_int, gSub_int, gNeg_int, gLt_int, gLe_int, gGt_int, gGe_int, gIs_non, gLen_tup, gLen_lst, gLen_scr, gMax2_int, gMin2_int, gInt_int, gInt_bl, gAbs_int, gTuple_tup, gTuple_lst, gIn_tI, gIn_lI, gIsi_int, gIsi_bool, gIsi_tuple, gIsi_list, gIsi_str, isOb, isIntD, isBlD, isTupD, isLstD, isStrD, gList, e, F__law_draws]
    rfl
  · exact absurd rfl h
theorem row0_ok (ns : List Int) : RowOk ⟨ns, 0, 0, 7⟩ := ⟨Nat.zero_le _, by show (0 : Int) ≤ 0; decide, by show (0 : Int) ≤ 7; decide, by show (7 : Int) < 2147483647; decide⟩
theorem draws_ex (ns : List Int) : ∃ q : RowS, F__law_draws [.scr ns] = .ok (.o ⟨none, q.ob⟩) ∧ RowOk q := ⟨_, rfl, row0_ok ns⟩
end RL

namespace RL
open PySem PySem.Spec PyProof.Rows L2
noncomputable def G__law_pick : FS := sSeq (sIf (pkT (dB (fz (dOp gEq (fz (dOp gIx (dV 0) (dC (.int 2)))) (dC (.int 0)))))) (sIf (pkT (dB (fz (dOp gLt (fz (dOp gIx (dV 0) (dC (.int 1)))) (fz (dLs gLen (aCons (fz (dOp gIx (dV 0) (dC (.int 0)))) (aNil)))))))) (sSeq (sSet 2 (pkE (fz (dOp gIx (fz (dOp gIx (dV 0) (dC (.int 0)))) (fz (dOp gIx (dV 0) (dC (.int 1))))))))
 (sSeq (sSetIx 0 (dC (.int 1)) (pkE (fz (dOp gAdd (fz (dOp gIx (dV 0) (dC (.int 1)))) (dC (.int 1))))))
 (sIf (dB (fz (dOp gGe (dV 2) (fz (dOp gPow (dC (.int 10)) (dC (.int 18))))))) (sSetIx 0 (dC (.int 2)) (dV 2)) (sSetIx 0 (dC (.int 3)) (pkE (fz (dOp gMod (fz (dLs gInt (aCons (fz (dOp gAdd (fz (dOp gAdd (fz (dOp gMul (fz (dOp gIx (dV 0) (dC (.int 3)))) (dC (.int 48271)))) (fz (dOp gMul (dV 2) (dC (.int 69621)))))) (dC (.int 11)))) (aNil)))) (dC (.int 2147483647))))))))) (sSetIx 0 (dC (.int 3)) (pkE (fz (dOp gMod (fz (dLs gInt (aCons (fz (dOp gAdd (fz (dOp gMul (fz (dOp gIx (dV 0) (dC (.int 3)))) (dC (.int 48271)))) (dC (.int 7)))) (aNil)))) (dC (.int 2147483647))))))) (sNx))
 (sSeq (sIf (pkT (dB (fz (dOp gGt (fz (dOp gIx (dV 0) (dC (.int 2)))) (dC (.int 0)))))) (sSeq (sSet 3 (pkE (fz (dOp gMod (fz (dLs gInt (aCons (fz (dOp gIx (dV 0) (dC (.int 2)))) (aNil)))) (dV 1)))))
 (sSeq (sSetIx 0 (dC (.int 2)) (pkE (fz (dOp gDiv (fz (dOp gIx (dV 0) (dC (.int 2)))) (dV 1)))))
 (sRet (dV 3)))) (sNx))
 (sRet (pkE (fz (dOp gMod (fz (dOp gMod (fz (dLs gInt (aCons (fz (dOp gMul (fz (dOp gIx (dV 0) (dC (.int 3)))) (dC (.int 16807)))) (aNil)))) (dC (.int 2147483629)))) (dV 1))))))
/-- what a draw gives, and what is left -/
def pickN (q : RowS) : RowS := if q.c = 0 then
    (match q.ns[q.i]? with
    | some x => if x ≥ 10 ^ 18 then { q with i := q.i + 1, c := x } else { q with i := q.i + 1, r := (q.r * 48271 + x * 69621 + 11) % 2147483647 }
    | none => { q with r := (q.r * 48271 + 7) % 2147483647 })
  else q
def pick (q : RowS) (m : Int) : Int × RowS := if (pickN q).c > 0 then ((pickN q).c % m, { pickN q with c := (pickN q).c / m }) else ((pickN q).r * 16807 % 2147483629 % m, pickN q)
theorem pickN_ok {q : RowS} (h : RowOk q) : RowOk (pickN q) := by
  unfold pickN
  have h1 := h.i
  have h2 := h.c
  have h3 := h.r
  have h4 := h.r1
  split
  · split
    · rename_i x hx
      have := (List.getElem?_eq_some_iff.mp hx).1
      split
      · exact ⟨this, by show 0 ≤ x; omega, h3, h4⟩
      · exact ⟨this, h2, Int.emod_nonneg _ (by decide), Int.emod_lt_of_pos _ (by decide)⟩
    · exact ⟨h1, h2, Int.emod_nonneg _ (by decide), Int.emod_lt_of_pos _ (by decide)⟩
  · exact h
theorem pick_ok {q : RowS} {m : Int} (h : RowOk q) (hm : 0 < m) : RowOk (pick q m).2 ∧ 0 ≤ (pick q m).1 ∧ (pick q m).1 < m := by
  have hn := pickN_ok h
  unfold pick
  split
  · exact ⟨⟨hn.i, Int.ediv_nonneg hn.c (Int.le_of_lt hm), hn.r, hn.r1⟩, Int.emod_nonneg _ (Int.ne_of_gt hm), Int.emod_lt_of_pos _ hm⟩
  · exact ⟨hn, Int.emod_nonneg _ (Int.ne_of_gt hm), Int.emod_lt_of_pos _ hm⟩
/-- the row, told back -/
def toRow : OB → Option RowS
  | .ol [.lst xs, .int i, .int c, .int r] => (intsOf xs).map fun ns => ⟨ns, i.toNat, c, r⟩
  | _ => none
theorem toRow_ob (q : RowS) : toRow q.ob = some q := by
  obtain ⟨ns, i, c, r⟩ := q
  simp [toRow, RowS.ob, RowS.ds, intsOf_map]
theorem toRow_some {c : OB} {q : RowS} (h : toRow c = some q) (hi : ∀ xs i c' r, c = .ol [.lst xs, .int i, .int c', .int r] → 0 ≤ i) : c = q.ob := by
  unfold toRow at h
  split at h
  · rename_i xs i c' r
    cases e : intsOf xs with
    | none => rw [e] at h; cases h
    | some ns =>
      rw [e] at h
      cases h
      have := hi xs i c' r rfl
      rw [ints_of e]
      show OB.ol [lI ns, .int i, .int c', .int r] = OB.ol [lI ns, .int (i.toNat : Nat), .int c', .int r]
      rw [Int.toNat_of_nonneg this]
  · cases h
instance (q : RowS) : Decidable (RowOk q) := decidable_of_iff (q.i ≤ q.ns.length ∧ 0 ≤ q.c ∧ 0 ≤ q.r ∧ q.r < 2147483647) ⟨fun h => ⟨h.1, h.2.1, h.2.2.1, h.2.2.2⟩, fun h => ⟨h.i, h.c, h.r, h.r1⟩⟩
/-- a row that may stand, with its place not below 0 -/
def asRow (c : OB) : Option RowS := match c with
  | .ol [.lst xs, .int i, .int c, .int r] => if 0 ≤ i then (match intsOf xs with | some ns => if RowOk ⟨ns, i.toNat, c, r⟩ then some ⟨ns, i.toNat, c, r⟩ else none | none => none) else none
  | _ => none
theorem asRow_ob {q : RowS} (h : RowOk q) : asRow q.ob = some q := by
  obtain ⟨ns, i, c, r⟩ := q
  have h : RowOk ⟨ns, i, c, r⟩ := h
  simp [asRow, intsOf_map, h]
theorem asRow_some {c : OB} {q : RowS} (h : asRow c = some q) : c = q.ob ∧ RowOk q := by
  unfold asRow at h
  split at h
  · rename_i xs i c' r
    split at h
    · rename_i hi
      cases e : intsOf xs with
      | none => rw [e] at h; cases h
      | some ns =>
        rw [e] at h
        dsimp only at h
        split at h
        · rename_i hr
          cases h
          refine ⟨?_, hr⟩
          rw [ints_of e]
          show OB.ol [lI ns, .int i, .int c', .int r] = OB.ol [lI ns, .int (i.toNat : Nat), .int c', .int r]
          rw [Int.toNat_of_nonneg hi]
        · cases h
    · cases h
  · cases h
def F__law_pick : OB → List D → FrO
  | c, [.int m] => if 0 < m ∧ m < 2 ^ 200 then (match asRow c with
    | some q => .ok (.d (.int (pick q m).1)) (pick q m).2.ob
    | none => .no) else .no
  | _, _ => .no
theorem len__law_pick (c : OB) (ds : List D) (h : F__law_pick c ds ≠ .no) : ds.length = 1 := by
  unfold F__law_pick at h
  split at h
  · rfl
  · exact absurd rfl h
theorem F__law_pick_d {q : RowS} {m : Int} (hq : RowOk q) (hm : 0 < m ∧ m < 2 ^ 200) : F__law_pick q.ob [.int m] = .ok (.d (.int (pick q m).1)) (pick q m).2.ob := by
  unfold F__law_pick
  simp only [asRow_ob hq]
  exact if_pos hm
theorem gIx_at {ns : List Int} {i : Nat} {x : Int} (h : ns[i]? = some x) : gIx (lI ns) (.int (i : Nat)) = some (.d (.int x)) := gIx_lst (atI_nat (by rw [List.getElem?_map, h]; rfl))
theorem ixN4 : ixN 4 1 = some 1 ∧ ixN 4 2 = some 2 ∧ ixN 4 3 = some 3 := by decide
theorem ok__law_pick (p : Addr) (c : OB) (ds : List D) (h : F__law_pick c ds ≠ .no) : outO p (G__law_pick (startO 4 p c ds)) = F__law_pick c ds := by
  unfold F__law_pick at h
  split at h
  · rename_i m
    by_cases hm : 0 < m ∧ m < 2 ^ 200
    · rw [if_pos hm] at h
      cases hq : asRow c with
      | none => rw [hq] at h; exact absurd rfl h
      | some q =>
        obtain ⟨rfl, ok⟩ := asRow_some hq
        rw [F__law_pick_d ok hm]
        obtain ⟨m0, m1⟩ := hm
        obtain ⟨ns, i, c, r⟩ := q
        have h1 := ok.i
        have h2 := ok.c
        have h3 := ok.r
        have h4 := ok.r1
        dsimp only at h1 h2 h3 h4
        obtain ⟨x1, x2, x3⟩ := ixN4
        have hp : gPow (.int 10) (.int 18) = some (.d (.int (10 ^ 18))) := by rfl
        have hk : (0 : Int) < 2147483647 := by decide
        have hk2 : (0 : Int) < 2147483629 := by decide
        have hdv : ∀ z : Int, cDiv z m = true := fun z => cDiv_of m0 (by omega)
        have fin : ∀ (r' : Int) (i' : Nat) (c' : Int) (z2 : Option S), 0 ≤ r' → r' < 2147483647 → 0 ≤ c' →
          outO p (sSeq (sIf (pkT (dB (fz (dOp gGt (fz (dOp gIx (dV 0) (dC (.int 2)))) (dC (.int 0)))))) (sSeq (sSet 3 (pkE (fz (dOp gMod (fz (dLs gInt (aCons (fz (dOp gIx (dV 0) (dC (.int 2)))) (aNil)))) (dV 1)))))
 (sSeq (sSetIx 0 (dC (.int 2)) (pkE (fz (dOp gDiv (fz (dOp gIx (dV 0) (dC (.int 2)))) (dV 1)))))
 (sRet (dV 3)))) (sNx))
 (sRet (pkE (fz (dOp gMod (fz (dOp gMod (fz (dLs gInt (aCons (fz (dOp gMul (fz (dOp gIx (dV 0) (dC (.int 3)))) (dC (.int 16807)))) (aNil)))) (dC (.int 2147483629)))) (dV 1)))))
            [some (.o ⟨some p, (RowS.mk ns i' c' r').ob⟩), some (.d (.int m)), z2, none]) =
          if c' > 0 then .ok (.d (.int (c' % m))) (RowS.mk ns i' (c' / m) r').ob else .ok (.d (.int (r' * 16807 % 2147483629 % m))) (RowS.mk ns i' c' r').ob := by
          intro r' i' c' z2 r0 r1 c0
          by_cases hc : c' > 0
          · rw [if_pos hc]
            simp only [sSeq, sRet, sRetN, sExpr, sIf, sSet, sSetN, sAsg, sParM, sFor, sNx, sBk, sCt, sAug, sRz, sRm1, sRm2, sSetIx, sPutF, dV, dC, dOp, dUn, dLs, fz, nE, dB, dAnd, dOr, dNot, dAndV, dOrV, dNotV, dIf, dChI, dIsi, dCall, dCall0, dCallO, dCallO0, dMake, dMake0, dFld, dProp, dSlice, dLc, dMutL, pkE, pkT, rowD, oNone, oSome, aNil, aCons, aStar, mNil, mCons, putS, sOf, gN, gT, gsCons, gsNil, jSeq, jArg, seqD, rsO_some, rsO_none, out, startD, outO, startO, ocAt, olAt, frA, frS, lkN, putN, gTupD, gLstD, uApp, flatD, toV, tYesD, Rs.bind_eq, Rs.bind_ok, Rs.bind_er, Rs.bind_no, S.frz, OC.frz, OB.frz, Option.bind_some, Option.bind_none, Option.bind, Option.map, List.map_cons, List.map_nil, List.cons_append, List.nil_append, List.append_nil, List.length_cons, List.length_nil, Nat.reduceAdd, Nat.reduceSub, List.replicate_succ, List.replicate_zero, List.getElem?_cons_zero, List.getElem?_cons_succ, List.set_cons_zero, List.set_cons_succ, Int.cast_ofNat_Int, ne_eq, not_true_eq_false, not_false_eq_true, decide_false, decide_true, Int.reduceLT, Int.reduceLE, Int.reduceGT, Int.reduceGE, Int.reduceEq, Int.reduceNeg, Int.reduceAdd, Int.reduceSub, Int.reduceMul, if_true, if_false, reduceIte, Bool.false_eq_true, Bool.true_eq_false, Bool.not_true, Bool.not_false, Nat.zero_add, true_and, and_true, ite_true, ite_false, gAdd_int, gSub_int, gNeg_int, gLt_int, gLe_int, gGt_int, gGe_int, gIs_non, gLen_tup, gLen_lst, gLen_scr, gMax2_int, gMin2_int, gInt_int, gInt_bl, gAbs_int, gTuple_tup, gTuple_lst, gIn_tI, gIn_lI, gIsi_int, gIsi_bool, gIsi_tuple, gIsi_list, gIsi_str, isOb, isIntD, isBlD, isTupD, isLstD, isStrD, gIx_l0, gIx_l1, gIx_l2, gIx_l3, decide_eq_true hc, gMod_int m0, gDiv_int (hdv c'), x1, x2, x3]
          · rw [if_neg hc]
            simp only [sSeq, sRet, sRetN, sExpr, sIf, sSet, sSetN, sAsg, sParM, sFor, sNx, sBk, sCt, sAug, sRz, sRm1, sRm2, sSetIx, sPutF, dV, dC, dOp, dUn, dLs, fz, nE, dB, dAnd, dOr, dNot, dAndV, dOrV, dNotV, dIf, dChI, dIsi, dCall, dCall0, dCallO, dCallO0, dMake, dMake0, dFld, dProp, dSlice, dLc, dMutL, pkE, pkT, rowD, oNone, oSome, aNil, aCons, aStar, mNil, mCons, putS, sOf, gN, gT, gsCons, gsNil, jSeq, jArg, seqD, rsO_some, rsO_none, out, startD, outO, startO, ocAt, olAt, frA, frS, lkN, putN, gTupD, gLstD, uApp, flatD, toV, tYesD, Rs.bind_eq, Rs.bind_ok, Rs.bind_er, Rs.bind_no, S.frz, OC.frz, OB.frz, Option.bind_some, Option.bind_none, Option.bind, Option.map, List.map_cons, List.map_nil, List.cons_append, List.nil_append, List.append_nil, List.length_cons, List.length_nil, Nat.reduceAdd, Nat.reduceSub, List.replicate_succ, List.replicate_zero, List.getElem?_cons_zero, List.getElem?_cons_succ, List.set_cons_zero, List.set_cons_succ, Int.cast_ofNat_Int, ne_eq, not_true_eq_false, not_false_eq_true, decide_false, decide_true, Int.reduceLT, Int.reduceLE, Int.reduceGT, Int.reduceGE, Int.reduceEq, Int.reduceNeg, Int.reduceAdd, Int.reduceSub, Int.reduceMul, if_true, if_false, reduceIte, Bool.false_eq_true, Bool.true_eq_false, Bool.not_true, Bool.not_false, Nat.zero_add, true_and, and_true, ite_true, ite_false, gAdd_int, gSub_int, gNeg_int, gLt_int, gLe_int, gGt_int, gGe_int, gIs_non, gLen_tup, gLen_lst, gLen_scr, gMax2_int, gMin2_int, gInt_int, gInt_bl, gAbs_int, gTuple_tup, gTuple_lst, gIn_tI, gIn_lI, gIsi_int, gIsi_bool, gIsi_tuple, gIsi_list, gIsi_str, isOb, isIntD, isBlD, isTupD, isLstD, isStrD, gIx_l0, gIx_l1, gIx_l2, gIx_l3, decide_eq_false hc, gMod_int m0, gMod_int hk2, gMul_int (cMul_r (i := r') (j := 16807) ⟨by omega, by omega⟩), x1, x2, x3]
        have e0 : startO 4 p (RowS.mk ns i c r).ob [.int m] = [some (.o ⟨some p, (RowS.mk ns i c r).ob⟩), some (.d (.int m)), none, none] := rfl
        rw [e0]
        unfold G__law_pick
        by_cases hc : c = 0
        · subst hc
          by_cases hi : i < ns.length
          · have ex : ns[i]? = some ns[i] := List.getElem?_eq_getElem hi
            generalize ns[i] = x at ex
            have hi2 : (i : Int) < (ns.length : Int) := by omega
            by_cases hx : x ≥ 10 ^ 18
            · have ep : pickN (RowS.mk ns i 0 r) = RowS.mk ns (i + 1) x r := by
                unfold pickN
                dsimp only
                rw [if_pos rfl, ex]
                dsimp only
                rw [if_pos hx]
              refine (congrArg (outO p) (sSeq_nx (ρ1 := [some (.o ⟨some p, (RowS.mk ns (i + 1) x r).ob⟩), some (.d (.int m)), some (.d (.int x)), none]) ?_)).trans ((fin r (i + 1) x (some (.d (.int x))) h3 h4 (by omega)).trans ?_)
              · simp only [sSeq, sRet, sRetN, sExpr, sIf, sSet, sSetN, sAsg, sParM, sFor, sNx, sBk, sCt, sAug, sRz, sRm1, sRm2, sSetIx, sPutF, dV, dC, dOp, dUn, dLs, fz, nE, dB, dAnd, dOr, dNot, dAndV, dOrV, dNotV, dIf, dChI, dIsi, dCall, dCall0, dCallO, dCallO0, dMake, dMake0, dFld, dProp, dSlice, dLc, dMutL, pkE, pkT, rowD, oNone, oSome, aNil, aCons, aStar, mNil, mCons, putS, sOf, gN, gT, gsCons, gsNil, jSeq, jArg, seqD, rsO_some, rsO_none, out, startD, outO, startO, ocAt, olAt, frA, frS, lkN, putN, gTupD, gLstD, uApp, flatD, toV, tYesD, Rs.bind_eq, Rs.bind_ok, Rs.bind_er, Rs.bind_no, S.frz, OC.frz, OB.frz, Option.bind_some, Option.bind_none, Option.bind, Option.map, List.map_cons, List.map_nil, List.cons_append, List.nil_append, List.append_nil, List.length_cons, List.length_nil, Nat.reduceAdd, Nat.reduceSub, List.replicate_succ, List.replicate_zero, List.getElem?_cons_zero, List.getElem?_cons_succ, List.set_cons_zero, List.set_cons_succ, Int.cast_ofNat_Int, ne_eq, not_true_eq_false, not_false_eq_true, decide_false, decide_true, Int.reduceLT, Int.reduceLE, Int.reduceGT, Int.reduceGE, Int.reduceEq, Int.reduceNeg, Int.reduceAdd, Int.reduceSub, Int.reduceMul, if_true, if_false, reduceIte, Bool.false_eq_true, Bool.true_eq_false, Bool.not_true, Bool.not_false, Nat.zero_add, true_and, and_true, ite_true, ite_false, gAdd_int, gSub_int, gNeg_int, gLt_int, gLe_int, gGt_int, gGe_int, gIs_non, gLen_tup, gLen_lst, gLen_scr, gMax2_int, gMin2_int, gInt_int, gInt_bl, gAbs_int, gTuple_tup, gTuple_lst, gIn_tI, gIn_lI, gIsi_int, gIsi_bool, gIsi_tuple, gIsi_list, gIsi_str, isOb, isIntD, isBlD, isTupD, isLstD, isStrD, gIx_l0, gIx_l1, gIx_l2, gIx_l3, gEq_int, List.length_map, decide_eq_true hi2, gIx_at ex, hp, decide_eq_true hx, x1, x2, x3]
                rfl
              · unfold pick
                rw [ep]
                dsimp only
                split <;> rfl
            · have ep : pickN (RowS.mk ns i 0 r) = RowS.mk ns (i + 1) 0 ((r * 48271 + x * 69621 + 11) % 2147483647) := by
                unfold pickN
                dsimp only
                rw [if_pos rfl, ex]
                dsimp only
                rw [if_neg hx]
              refine (congrArg (outO p) (sSeq_nx (ρ1 := [some (.o ⟨some p, (RowS.mk ns (i + 1) 0 ((r * 48271 + x * 69621 + 11) % 2147483647)).ob⟩), some (.d (.int m)), some (.d (.int x)), none]) ?_)).trans ((fin _ (i + 1) 0 (some (.d (.int x))) (Int.emod_nonneg _ (by decide)) (Int.emod_lt_of_pos _ hk) (by omega)).trans ?_)
              · simp only [sSeq, sRet, sRetN, sExpr, sIf, sSet, sSetN, sAsg, sParM, sFor, sNx, sBk, sCt, sAug, sRz, sRm1, sRm2, sSetIx, sPutF, dV, dC, dOp, dUn, dLs, fz, nE, dB, dAnd, dOr, dNot, dAndV, dOrV, dNotV, dIf, dChI, dIsi, dCall, dCall0, dCallO, dCallO0, dMake, dMake0, dFld, dProp, dSlice, dLc, dMutL, pkE, pkT, rowD, oNone, oSome, aNil, aCons, aStar, mNil, mCons, putS, sOf, gN, gT, gsCons, gsNil, jSeq, jArg, seqD, rsO_some, rsO_none, out, startD, outO, startO, ocAt, olAt, frA, frS, lkN, putN, gTupD, gLstD, uApp, flatD, toV, tYesD, Rs.bind_eq, Rs.bind_ok, Rs.bind_er, Rs.bind_no, S.frz, OC.frz, OB.frz, Option.bind_some, Option.bind_none, Option.bind, Option.map, List.map_cons, List.map_nil, List.cons_append, List.nil_append, List.append_nil, List.length_cons, List.length_nil, Nat.reduceAdd, Nat.reduceSub, List.replicate_succ, List.replicate_zero, List.getElem?_cons_zero, List.getElem?_cons_succ, List.set_cons_zero, List.set_cons_succ, Int.cast_ofNat_Int, ne_eq, not_true_eq_false, not_false_eq_true, decide_false, decide_true, Int.reduceLT, Int.reduceLE, Int.reduceGT, Int.reduceGE, Int.reduceEq, Int.reduceNeg, Int.reduceAdd, Int.reduceSub, Int.reduceMul, if_true, if_false, reduceIte, Bool.false_eq_true, Bool.true_eq_false, Bool.not_true, Bool.not_false, Nat.zero_add, true_and, and_true, ite_true, ite_false, gAdd_int, gSub_int, gNeg_int, gLt_int, gLe_int, gGt_int, gGe_int, gIs_non, gLen_tup, gLen_lst, gLen_scr, gMax2_int, gMin2_int, gInt_int, gInt_bl, gAbs_int, gTuple_tup, gTuple_lst, gIn_tI, gIn_lI, gIsi_int, gIsi_bool, gIsi_tuple, gIsi_list, gIsi_str, isOb, isIntD, isBlD, isTupD, isLstD, isStrD, gIx_l0, gIx_l1, gIx_l2, gIx_l3, gEq_int, List.length_map, decide_eq_true hi2, gIx_at ex, hp, decide_eq_false hx, x1, x2, x3, gMod_int hk, gMul_int (cMul_r (i := r) (j := 48271) ⟨by omega, by omega⟩), gMul_int (cMul_r (i := x) (j := 69621) ⟨by omega, by omega⟩)]
                rfl
              · unfold pick
                rw [ep]
                rfl
          · have ex : ns[i]? = none := List.getElem?_eq_none (by omega)
            have hi2 : ¬ ((i : Int) < (ns.length : Int)) := by omega
            have ep : pickN (RowS.mk ns i 0 r) = RowS.mk ns i 0 ((r * 48271 + 7) % 2147483647) := by simp [pickN, ex]
            refine (congrArg (outO p) (sSeq_nx (ρ1 := [some (.o ⟨some p, (RowS.mk ns i 0 ((r * 48271 + 7) % 2147483647)).ob⟩), some (.d (.int m)), none, none]) ?_)).trans ((fin _ i 0 none (Int.emod_nonneg _ (by decide)) (Int.emod_lt_of_pos _ hk) (by omega)).trans ?_)
            · simp only [sSeq, sRet, sRetN, sExpr, sIf, sSet, sSetN, sAsg, sParM, sFor, sNx, sBk, sCt, sAug, sRz, sRm1, sRm2, sSetIx, sPutF, dV, dC, dOp, dUn, dLs, fz, nE, dB, dAnd, dOr, dNot, dAndV, dOrV, dNotV, dIf, dChI, dIsi, dCall, dCall0, dCallO, dCallO0, dMake, dMake0, dFld, dProp, dSlice, dLc, dMutL, pkE, pkT, rowD, oNone, oSome, aNil, aCons, aStar, mNil, mCons, putS, sOf, gN, gT, gsCons, gsNil, jSeq, jArg, seqD, rsO_some, rsO_none, out, startD, outO, startO, ocAt, olAt, frA, frS, lkN, putN, gTupD, gLstD, uApp, flatD, toV, tYesD, Rs.bind_eq, Rs.bind_ok, Rs.bind_er, Rs.bind_no, S.frz, OC.frz, OB.frz, Option.bind_some, Option.bind_none, Option.bind, Option.map, List.map_cons, List.map_nil, List.cons_append, List.nil_append, List.append_nil, List.length_cons, List.length_nil, Nat.reduceAdd, Nat.reduceSub, List.replicate_succ, List.replicate_zero, List.getElem?_cons_zero, List.getElem?_cons_succ, List.set_cons_zero, List.set_cons_succ, Int.cast_ofNat_Int, ne_eq, not_true_eq_false, not_false_eq_true, decide_false, decide_true, Int.reduceLT, Int.reduceLE, Int.reduceGT, Int.reduceGE, Int.reduceEq, Int.reduceNeg, Int.reduceAdd, Int.reduceSub, Int.reduceMul, if_true, if_false, reduceIte, Bool.false_eq_true, Bool.true_eq_false, Bool.not_true, Bool.not_false, Nat.zero_add, true_and, and_true, ite_true, ite_false, gAdd_int, gSub_int, gNeg_int, gLt_int, gLe_int, gGt_int, gGe_int, gIs_non, gLen_tup, gLen_lst, gLen_scr, gMax2_int, gMin2_int, gInt_int, gInt_bl, gAbs_int, gTuple_tup, gTuple_lst, gIn_tI, gIn_lI, gIsi_int, gIsi_bool, gIsi_tuple, gIsi_list, gIsi_str, isOb, isIntD, isBlD, isTupD, isLstD, isStrD, gIx_l0, gIx_l1, gIx_l2, gIx_l3, gEq_int, List.length_map, decide_eq_false hi2, x1, x2, x3, gMod_int hk, gMul_int (cMul_r (i := r) (j := 48271) ⟨by omega, by omega⟩)]
            · unfold pick
              rw [ep]
              rfl
        · have ep : pickN (RowS.mk ns i c r) = RowS.mk ns i c r := by simp [pickN, hc]
          refine (congrArg (outO p) (sSeq_nx (ρ1 := [some (.o ⟨some p, (RowS.mk ns i c r).ob⟩), some (.d (.int m)), none, none]) ?_)).trans ((fin r i c none h3 h4 h2).trans ?_)
          · simp only [sSeq, sRet, sRetN, sExpr, sIf, sSet, sSetN, sAsg, sParM, sFor, sNx, sBk, sCt, sAug, sRz, sRm1, sRm2, sSetIx, sPutF, dV, dC, dOp, dUn, dLs, fz, nE, dB, dAnd, dOr, dNot, dAndV, dOrV, dNotV, dIf, dChI, dIsi, dCall, dCall0, dCallO, dCallO0, dMake, dMake0, dFld, dProp, dSlice, dLc, dMutL, pkE, pkT, rowD, oNone, oSome, aNil, aCons, aStar, mNil, mCons, putS, sOf, gN, gT, gsCons, gsNil, jSeq, jArg, seqD, rsO_some, rsO_none, out, startD, outO, startO, ocAt, olAt, frA, frS, lkN, putN, gTupD, gLstD, uApp, flatD, toV, tYesD, Rs.bind_eq, Rs.bind_ok, Rs.bind_er, Rs.bind_no, S.frz, OC.frz, OB.frz, Option.bind_some, Option.bind_none, Option.bind, Option.map, List.map_cons, List.map_nil, List.cons_append, List.nil_append, List.append_nil, List.length_cons, List.length_nil, Nat.reduceAdd, Nat.reduceSub, List.replicate_succ, List.replicate_zero, List.getElem?_cons_zero, List.getElem?_cons_succ, List.set_cons_zero, List.set_cons_succ, Int.cast_ofNat_Int, ne_eq, not_true_eq_false, not_false_eq_true, decide_false, decide_true, Int.reduceLT, Int.reduceLE, Int.reduceGT, Int.reduceGE, Int.reduceEq, Int.reduceNeg, Int.reduceAdd, Int.reduceSub, Int.reduceMul, if_true, if_false, reduceIte, Bool.false_eq_true, Bool.true_eq_false, Bool.not_true, Bool.not_false, Nat.zero_add, true_and, and_true, ite_true, ite_false, gAdd_int, gSub_int, gNeg_int, gLt_int, gLe_int, gGt_int, gGe_int, gIs_non, gLen_tup, gLen_lst, gLen_scr, gMax2_int, gMin2_int, gInt_int, gInt_bl, gAbs_int, gTuple_tup, gTuple_lst, gIn_tI, gIn_lI, gIsi_int, gIsi_bool, gIsi_tuple, gIsi_list, gIsi_str, isOb, isIntD, isBlD, isTupD, isLstD, isStrD, gIx_l0, gIx_l1, gIx_l2, gIx_l3, gEq_int, decide_eq_false hc]
          · unfold pick
            rw [ep]
            dsimp only
            split <;> rfl
    · rw [if_neg hm] at h; exact absurd rfl h
  · exact absurd rfl h
theorem pick_ex {q : RowS} {m : Int} (hq : RowOk q) (hm : 0 < m ∧ m < 2 ^ 200) : ∃ (v : Int) (q1 : RowS), F__law_pick q.ob [.int m] = .ok (.d (.int v)) q1.ob ∧ RowOk q1 ∧ 0 ≤ v ∧ v < m := ⟨_, _, F__law_pick_d hq hm, pick_ok hq hm.1⟩
/-- a comprehension of picks: what comes hangs on the row alone -/
theorem draw_lc {g : FG} {fe : FE} {vs : List Nat} {m : Int} (hm : 0 < m ∧ m < 2 ^ 200) : ∀ (n : Nat) (q : RowS), RowOk q → ∃ (us : List Int) (q' : RowS), RowOk q' ∧ us.length = n ∧ (∀ u ∈ us, 0 ≤ u ∧ u < m) ∧
    ∀ (st : RowS → Sl) (items : List D) (acc : List D), items.length = n → acc.length + n ≤ sizeLine → (∀ (q q1 : RowS) (v : Int) (x : D), F__law_pick q.ob [.int m] = .ok (.d (.int v)) q1.ob → ∃ ρ1 ρ3, g x (st q) = some ρ1 ∧ fe ρ1 = .ok (.int v, ρ3) ∧ wipeD ρ3 vs = st q1) →
      lcL g tYesD fe vs items (st q) acc = .ok (acc ++ us.map .int, st q')
  | 0, q, hq => ⟨[], q, hq, rfl, fun _ z => (nomatch z), fun st items acc h _ _ => by rw [List.length_eq_zero_iff.mp h]; simp [lcL]⟩
  | n + 1, q, hq => by
    obtain ⟨v, q1, e1, hq1, v0, v1⟩ := pick_ex hq hm
    obtain ⟨us, q', h1, h2, h3, h4⟩ := draw_lc (g := g) (fe := fe) (vs := vs) hm n q1 hq1
    refine ⟨v :: us, q', h1, by simp [h2], fun u hu => ?_, fun st items acc hl ha hs => ?_⟩
    · rcases List.mem_cons.mp hu with rfl | hu
      · exact ⟨v0, v1⟩
      · exact h3 u hu
    · match items, hl with
      | x :: r, hl =>
        obtain ⟨ρ1, ρ3, k1, k2, k3⟩ := hs q q1 v x e1
        have e := h4 st r (acc ++ [.int v]) (by simpa using hl) (by simp; omega) hs
        unfold lcL
        rw [k1]
        dsimp only [tYesD]
        rw [if_pos rfl, k2]
        dsimp only
        rw [if_pos (by omega), k3, e]
        simp
end RL

namespace RL
open PySem PySem.Spec PyProof.Rows L2
noncomputable def G__law_far : FS := sSeq (sSetN 1 (dOp gIx (fz (dLs gLstD (aCons (dC (.int 40)) (aCons (dC (.int 3000)) (aCons (dC (.int 1000000)) (aCons (dC (.int 100000000000)) (aNil))))))) (fz (dCallO 0 F__law_pick (aCons (dC (.int 4)) (aNil))))))
 (sRetN (dOp gMul (fz (dOp gSub (fz (dCallO 0 F__law_pick (aCons (dV 1) (aNil)))) (fz (dOp gDiv (dV 1) (dC (.int 2)))))) (fz (dOp gIx (fz (dLs gLstD (aCons (dC (.int 1)) (aCons (dC (.int 1)) (aCons (dC (.int 1000003)) (aNil)))))) (fz (dCallO 0 F__law_pick (aCons (dC (.int 3)) (aNil))))))))
def wideN (i : Int) : Int := if i = 0 then 40 else if i = 1 then 3000 else if i = 2 then 1000000 else 100000000000
def mulN (i : Int) : Int := if i = 0 then 1 else if i = 1 then 1 else 1000003
def farN (q : RowS) : Int × RowS := (((pick (pick q 4).2 (wideN (pick q 4).1)).1 - wideN (pick q 4).1 / 2) * mulN (pick (pick (pick q 4).2 (wideN (pick q 4).1)).2 3).1, (pick (pick (pick q 4).2 (wideN (pick q 4).1)).2 3).2)
theorem wideN_bd (i : Int) : 40 ≤ wideN i ∧ wideN i ≤ 100000000000 := by
  unfold wideN
  split
  · decide
  · split
    · decide
    · split <;> decide
theorem mulN_bd (i : Int) : mulN i = 1 ∨ mulN i = 1000003 := by
  unfold mulN
  split
  · exact .inl rfl
  · split
    · exact .inl rfl
    · exact .inr rfl
theorem farN_ok {q : RowS} (h : RowOk q) : RowOk (farN q).2 ∧ -(10 ^ 18) ≤ (farN q).1 ∧ (farN q).1 ≤ 10 ^ 18 := by
  obtain ⟨a1, a2, a3⟩ := pick_ok h (m := 4) (by decide)
  obtain ⟨w1, w2⟩ := wideN_bd (pick q 4).1
  obtain ⟨b1, b2, b3⟩ := pick_ok a1 (m := wideN (pick q 4).1) (by omega)
  obtain ⟨c1, c2, c3⟩ := pick_ok b1 (m := 3) (by decide)
  refine ⟨c1, ?_⟩
  unfold farN
  dsimp only
  generalize (pick (pick q 4).2 (wideN (pick q 4).1)).1 = x at b2 b3
  generalize wideN (pick q 4).1 = w at w1 w2 b3
  rcases mulN_bd (pick (pick (pick q 4).2 w).2 3).1 with e | e
  · rw [e]; omega
  · rw [e]; omega
noncomputable def F__law_far : OB → List D → FrO := specO (fun q : RowS => (q.ob, [])) RowOk fun q => .ok (.d (.int (farN q).1)) (farN q).2.ob
theorem RowS.ob_inj {a b : RowS} (h : a.ob = b.ob) : a = b := by
  have h1 := toRow_ob a
  rw [h, toRow_ob] at h1
  exact (Option.some.inj h1).symm
theorem row_inj (a b : RowS) (h : (a.ob, ([] : List D)) = (b.ob, [])) : a = b := RowS.ob_inj (congrArg Prod.fst h)
theorem F__law_far_d {q : RowS} (h : RowOk q) : F__law_far q.ob [] = .ok (.d (.int (farN q).1)) (farN q).2.ob := specO_at row_inj q h
theorem len__law_far : ∀ (c : OB) (ds : List D), F__law_far c ds ≠ .no → ds.length = 0 := specO_len fun _ => rfl
theorem ok__law_far : ∀ (p : Addr) (c : OB) (ds : List D), F__law_far c ds ≠ .no → outO p (G__law_far (startO 2 p c ds)) = F__law_far c ds := specO_ok row_inj fun p q h => by
  obtain ⟨a1, a2, a3⟩ := pick_ok h (m := 4) (by decide)
  obtain ⟨w1, w2⟩ := wideN_bd (pick q 4).1
  obtain ⟨b1, b2, b3⟩ := pick_ok a1 (m := wideN (pick q 4).1) (by omega)
  obtain ⟨c1, c2, c3⟩ := pick_ok b1 (m := 3) (by decide)
  have s4 : (4 : Nat) ≤ sizeLine := by decide
  have s3 : (3 : Nat) ≤ sizeLine := by decide
  have m4 : (0 : Int) < 4 ∧ (4 : Int) < 2 ^ 200 := by decide
  have m3 : (0 : Int) < 3 ∧ (3 : Int) < 2 ^ 200 := by decide
  have mw : 0 < wideN (pick q 4).1 ∧ wideN (pick q 4).1 < 2 ^ 200 := by omega
  have e1 : gIx (.lst [.int 40, .int 3000, .int 1000000, .int 100000000000]) (.int (pick q 4).1) = some (.d (.int (wideN (pick q 4).1))) := by
    generalize (pick q 4).1 = i at a2 a3
    obtain rfl | rfl | rfl | rfl : i = 0 ∨ i = 1 ∨ i = 2 ∨ i = 3 := by omega
    · exact gIx_l0
    · exact gIx_l1
    · exact gIx_l2
    · exact gIx_l3
  have e2 : gIx (.lst [.int 1, .int 1, .int 1000003]) (.int (pick (pick (pick q 4).2 (wideN (pick q 4).1)).2 3).1) = some (.d (.int (mulN (pick (pick (pick q 4).2 (wideN (pick q 4).1)).2 3).1))) := by
    generalize (pick (pick (pick q 4).2 (wideN (pick q 4).1)).2 3).1 = i at c2 c3
    obtain rfl | rfl | rfl : i = 0 ∨ i = 1 ∨ i = 2 := by omega
    · exact gIx_l0
    · exact gIx_l1
    · exact gIx_l2
  have k1 : cMul ((pick (pick q 4).2 (wideN (pick q 4).1)).1 - wideN (pick q 4).1 / 2) (mulN (pick (pick (pick q 4).2 (wideN (pick q 4).1)).2 3).1) = true := by
    refine cMul_r ?_
    rcases mulN_bd (pick (pick (pick q 4).2 (wideN (pick q 4).1)).2 3).1 with e | e <;> rw [e] <;> omega
  have k2 : cDiv (wideN (pick q 4).1) 2 = true := cDiv_of (by decide) (by decide)
  simp only [G__law_far, sSeq, sRet, sRetN, sExpr, sIf, sSet, sSetN, sAsg, sParM, sFor, sNx, sBk, sCt, sAug, sRz, sRm1, sRm2, sSetIx, sPutF, dV, dC, dOp, dUn, dLs, fz, nE, dB, dAnd, dOr, dNot, dAndV, dOrV, dNotV, dIf, dChI, dIsi, dCall, dCall0, dCallO, dCallO0, dMake, dMake0, dFld, dProp, dSlice, dLc, dMutL, pkE, pkT, rowD, oNone, oSome, aNil, aCons, aStar, mNil, mCons, putS, sOf, gN, gT, gsCons, gsNil, jSeq, jArg, seqD, rsO_some, rsO_none, out, startD, outO, startO, ocAt, olAt, frA, frS, lkN, putN, gTupD, gLstD, uApp, flatD, toV, tYesD, Rs.bind_eq, Rs.bind_ok, Rs.bind_er, Rs.bind_no, S.frz, OC.frz, OB.frz, Option.bind_some, Option.bind_none, Option.bind, Option.map, List.map_cons, List.map_nil, List.cons_append, List.nil_append, List.append_nil, List.length_cons, List.length_nil, Nat.reduceAdd, Nat.reduceSub, List.replicate_succ, List.replicate_zero, List.getElem?_cons_zero, List.getElem?_cons_succ, List.set_cons_zero, List.set_cons_succ, Int.cast_ofNat_Int, ne_eq, not_true_eq_false, not_false_eq_true, decide_false, decide_true, Int.reduceLT, Int.reduceLE, Int.reduceGT, Int.reduceGE, Int.reduceEq, Int.reduceNeg, Int.reduceAdd, Int.reduceSub, Int.reduceMul, if_true, if_false, reduceIte, Bool.false_eq_true, Bool.true_eq_false, Bool.not_true, Bool.not_false, Nat.zero_add, true_and, and_true, ite_true, ite_false, gAdd_int, gSub_int, gNeg_int, gLt_int, gLe_int, gGt_int, gGe_int, gIs_non, gLen_tup, gLen_lst, gLen_scr, gMax2_int, gMin2_int, gInt_int, gInt_bl, gAbs_int, gTuple_tup, gTuple_lst, gIn_tI, gIn_lI, gIsi_int, gIsi_bool, gIsi_tuple, gIsi_list, gIsi_str, isOb, isIntD, isBlD, isTupD, isLstD, isStrD, s4, s3, F__law_pick_d h m4, e1, F__law_pick_d a1 mw, gDiv_int k2, F__law_pick_d b1 m3, e2, gMul_int k1]
  rfl
theorem far_ex {q : RowS} (hq : RowOk q) : ∃ (v : Int) (q1 : RowS), F__law_far q.ob [] = .ok (.d (.int v)) q1.ob ∧ RowOk q1 ∧ -(10 ^ 18) ≤ v ∧ v ≤ 10 ^ 18 := ⟨_, _, F__law_far_d hq, farN_ok hq⟩
theorem far_ex2 {q : RowS} (hq : RowOk q) : ∃ (v : Int) (q1 : RowS), F__law_far q.ob [] = .ok (.d (.int v)) q1.ob ∧ RowOk q1 ∧ -(10 ^ 17) ≤ v ∧ v ≤ 10 ^ 17 := by
  refine ⟨_, _, F__law_far_d hq, (farN_ok hq).1, ?_⟩
  obtain ⟨a1, a2, a3⟩ := pick_ok hq (m := 4) (by decide)
  obtain ⟨w1, w2⟩ := wideN_bd (pick q 4).1
  obtain ⟨b1, b2, b3⟩ := pick_ok a1 (m := wideN (pick q 4).1) (by omega)
  show -(10 ^ 17) ≤ ((pick (pick q 4).2 (wideN (pick q 4).1)).1 - wideN (pick q 4).1 / 2) * mulN (pick (pick (pick q 4).2 (wideN (pick q 4).1)).2 3).1 ∧ ((pick (pick q 4).2 (wideN (pick q 4).1)).1 - wideN (pick q 4).1 / 2) * mulN (pick (pick (pick q 4).2 (wideN (pick q 4).1)).2 3).1 ≤ 10 ^ 17
  rcases mulN_bd (pick (pick (pick q 4).2 (wideN (pick q 4).1)).2 3).1 with e | e <;> rw [e] <;> omega
end RL

namespace RL
open PySem PySem.Spec PyProof.Rows L2
noncomputable def G_is_from : FS := sRet (dAndV (fz (dIsi "int" (dV 0))) (dAndV (dNotV (fz (dIsi "bool" (dV 0)))) (dChI (fun i j => decide (i ≤ j)) (fun i j => decide (i ≤ j)) (dV 1) (dV 0) (dV 2))))
def F_is_from : List D → Fr
  | [d, .int lo, .int hi] => if isOb d = true then .no else .ok (.d (.bl (isFromD d lo hi)))
  | _ => .no
theorem F_is_from_d {d : D} {lo hi : Int} (h : isOb d = false) : F_is_from [d, .int lo, .int hi] = .ok (.d (.bl (isFromD d lo hi))) := by simp [F_is_from, h]
theorem ok_is_from (ds : List D) (h : F_is_from ds ≠ .no) : ds.length = 3 ∧ out (G_is_from (startD 3 ds)) = F_is_from ds := by
  unfold F_is_from at h ⊢
  split at h
  · rename_i d lo hi
    refine ⟨rfl, ?_⟩
    cases d <;> simp only [G_is_from, isFromD, sSeq, sRet, sRetN, sExpr, sIf, sSet, sSetN, sAsg, sParM, sFor, sNx, sBk, sCt, sAug, sRz, sRm1, sRm2, sSetIx, sPutF, dV, dC, dOp, dUn, dLs, fz, nE, dB, dAnd, dOr, dNot, dAndV, dOrV, dNotV, dIf, dChI, dIsi, dCall, dCall0, dCallO, dCallO0, dMake, dMake0, dFld, dProp, dSlice, dLc, dMutL, pkE, pkT, rowD, oNone, oSome, aNil, aCons, aStar, mNil, mCons, putS, sOf, gN, gT, gsCons, gsNil, jSeq, jArg, seqD, rsO_some, rsO_none, out, startD, outO, startO, ocAt, olAt, frA, frS, lkN, putN, gTupD, gLstD, uApp, flatD, toV, tYesD, Rs.bind_eq, Rs.bind_ok, Rs.bind_er, Rs.bind_no, S.frz, OC.frz, OB.frz, Option.bind_some, Option.bind_none, Option.bind, Option.map, List.map_cons, List.map_nil, List.cons_append, List.nil_append, List.append_nil, List.length_cons, List.length_nil, Nat.reduceAdd, Nat.reduceSub, List.replicate_succ, List.replicate_zero, List.getElem?_cons_zero, List.getElem?_cons_succ, List.set_cons_zero, List.set_cons_succ, Int.cast_ofNat_Int, ne_eq, not_true_eq_false, not_false_eq_true, decide_false, decide_true, Int.reduceLT, Int.reduceLE, Int.reduceGT, Int.reduceGE, Int.reduceEq, Int.reduceNeg, Int.reduceAdd, Int.reduceSub, Int.reduceMul, if_true, if_false, reduceIte, Bool.false_eq_true, Bool.true_eq_false, Bool.not_true, Bool.not_false, Nat.zero_add, true_and, and_true, ite_true, ite_false, gAdd_int, gSub_int, gNeg_int, gLt_int, gLe_int, gGt_int, gGe_int, gIs_non, gLen_tup, gLen_lst, gLen_scr, gMax2_int, gMin2_int, gInt_int, gInt_bl, gAbs_int, gTuple_tup, gTuple_lst, gIn_tI, gIn_lI, gIsi_int, gIsi_bool, gIsi_tuple, gIsi_list, gIsi_str, isOb, isIntD, isBlD, isTupD, isLstD, isStrD]
    · rename_i i
      by_cases h1 : lo ≤ i <;> simp [h1, out]
  · exact absurd rfl h
end RL

namespace RL
open PySem PySem.Spec PyProof.Rows L2
noncomputable def B_check_moduli_1 : FS := sIf (dNot (dB (fz (dCall F_is_from (aCons (dV 2) (aCons (dC (.int 1)) (aCons (dC (.int 30)) (aNil)))))))) (sRm1 "BadModuli" "index" (aCons (dV 1) (aNil))) (sNx)
noncomputable def G_check_moduli : FS := sSeq (sIf (dOr (dNot (dB (fz (dIsi "tuple" (dV 0))))) (dNot (dB (dChI (fun i j => decide (i ≤ j)) (fun i j => decide (i ≤ j)) (dC (.int 1)) (fz (dLs gLen (aCons (dV 0) (aNil)))) (dC (.int 4)))))) (sRm1 "BadModuli" "index" (aCons (dC .non) (aNil))) (sNx))
 (sFor (jArg enumG (aCons (dV 0) (aNil))) (gT 2 (gsCons (gN 1) (gsCons (gN 2) (gsNil)))) (B_check_moduli_1))
--FRZ
def firstBad (p : D → Bool) : Nat → List D → Option Nat
  | _, [] => none
  | k, d :: r => if p d = true then firstBad p (k + 1) r else some k
theorem firstBad_none {p : D → Bool} : ∀ {ds : List D} {k : Nat}, (∀ d ∈ ds, p d = true) → firstBad p k ds = none
  | [], _, _ => rfl
  | d :: r, k, h => by
    unfold firstBad
    rw [if_pos (h d (by simp))]
    exact firstBad_none fun x hx => h x (by simp [hx])
theorem firstBad_at {p : D → Bool} : ∀ {ds : List D} {k : Nat} {d : D} {r : List D}, (∀ d ∈ ds, p d = true) → p d = false → firstBad p k (ds ++ d :: r) = some (k + ds.length)
  | [], k, d, r, _, h => by
    show firstBad p k (d :: r) = _
    unfold firstBad
    rw [h, if_neg (by decide)]
    rfl
  | x :: ds, k, d, r, h, hd => by
    show firstBad p k (x :: (ds ++ d :: r)) = _
    unfold firstBad
    rw [if_pos (h x (by simp)), firstBad_at (fun y hy => h y (by simp [hy])) hd, List.length_cons]
    congr 1
    omega
def msT (ds : List D) : Fr := if 1 ≤ ds.length ∧ ds.length ≤ 4 then (match firstBad (fun d => isFromD d 1 30) 0 ds with
    | some j => .er ⟨"BadModuli", [("index", .int (j : Nat))]⟩
    | none => .ok (.d .non)) else .er ⟨"BadModuli", [("index", .non)]⟩
def msR : D → Fr
  | .tup ds => msT ds
  | _ => .er ⟨"BadModuli", [("index", .non)]⟩
noncomputable def F_check_moduli : List D → Fr := autoF 1 3 G_check_moduli
theorem ok_check_moduli : ∀ (ds : List D), F_check_moduli ds ≠ .no → ds.length = 1 ∧ out (G_check_moduli (startD 3 ds)) = F_check_moduli ds := autoF_ok
theorem cm_loop {z0 : Option S} : ∀ (ds : List D) (k : Nat) (z1 z2 : Option S), (∀ d ∈ ds, isOb d = false) → ∃ z1' z2', forL (gT 2 (gsCons (gN 1) (gsCons (gN 2) (gsNil)))) B_check_moduli_1 (enumK k ds) [z0, z1, z2] =
    match firstBad (fun d => isFromD d 1 30) k ds with
    | some j => .er ⟨"BadModuli", [("index", .int (j : Nat))]⟩ [z0, z1', z2']
    | none => .ok (.nx [z0, z1', z2'])
  | [], k, z1, z2, _ => ⟨z1, z2, rfl⟩
  | d :: r, k, z1, z2, h => by
    have hd := h d (by simp)
    unfold firstBad
    cases hb : isFromD d 1 30 with
    | true =>
      obtain ⟨z1', z2', ih⟩ := cm_loop (z0 := z0) r (k + 1) (some (.d (.int (k : Nat)))) (some (.d d)) (fun x hx => h x (by simp [hx]))
      refine ⟨z1', z2', ?_⟩
      rw [if_pos rfl]
      refine (forL_cons rfl ?_).trans ih
      simp only [B_check_moduli_1, sSeq, sRet, sRetN, sExpr, sIf, sSet, sSetN, sAsg, sParM, sFor, sNx, sBk, sCt, sAug, sRz, sRm1, sRm2, sSetIx, sPutF, dV, dC, dOp, dUn, dLs, fz, nE, dB, dAnd, dOr, dNot, dAndV, dOrV, dNotV, dIf, dChI, dIsi, dCall, dCall0, dCallO, dCallO0, dMake, dMake0, dFld, dProp, dSlice, dLc, dMutL, pkE, pkT, rowD, oNone, oSome, aNil, aCons, aStar, mNil, mCons, putS, sOf, gN, gT, gsCons, gsNil, jSeq, jArg, seqD, rsO_some, rsO_none, out, startD, outO, startO, ocAt, olAt, frA, frS, lkN, putN, gTupD, gLstD, uApp, flatD, toV, tYesD, Rs.bind_eq, Rs.bind_ok, Rs.bind_er, Rs.bind_no, S.frz, OC.frz, OB.frz, Option.bind_some, Option.bind_none, Option.bind, Option.map, List.map_cons, List.map_nil, List.cons_append, List.nil_append, List.append_nil, List.length_cons, List.length_nil, Nat.reduceAdd, Nat.reduceSub, List.replicate_succ, List.replicate_zero, List.getElem?_cons_zero, List.getElem?_cons_succ, List.set_cons_zero, List.set_cons_succ, Int.cast_ofNat_Int, ne_eq, not_true_eq_false, not_false_eq_true, decide_false, decide_true, Int.reduceLT, Int.reduceLE, Int.reduceGT, Int.reduceGE, Int.reduceEq, Int.reduceNeg, Int.reduceAdd, Int.reduceSub, Int.reduceMul, if_true, if_false, reduceIte, Bool.false_eq_true, Bool.true_eq_false, Bool.not_true, Bool.not_false, Nat.zero_add, true_and, and_true, ite_true, ite_false, gAdd_int, gSub_int, gNeg_int, gLt_int, gLe_int, gGt_int, gGe_int, gIs_non, gLen_tup, gLen_lst, gLen_scr, gMax2_int, gMin2_int, gInt_int, gInt_bl, gAbs_int, gTuple_tup, gTuple_lst, gIn_tI, gIn_lI, gIsi_int, gIsi_bool, gIsi_tuple, gIsi_list, gIsi_str, isOb, isIntD, isBlD, isTupD, isLstD, isStrD, F_is_from_d hd, hb]
    | false =>
      refine ⟨some (.d (.int (k : Nat))), some (.d d), ?_⟩
      rw [if_neg (by decide)]
      refine forL_er rfl ?_
      simp only [B_check_moduli_1, sSeq, sRet, sRetN, sExpr, sIf, sSet, sSetN, sAsg, sParM, sFor, sNx, sBk, sCt, sAug, sRz, sRm1, sRm2, sSetIx, sPutF, dV, dC, dOp, dUn, dLs, fz, nE, dB, dAnd, dOr, dNot, dAndV, dOrV, dNotV, dIf, dChI, dIsi, dCall, dCall0, dCallO, dCallO0, dMake, dMake0, dFld, dProp, dSlice, dLc, dMutL, pkE, pkT, rowD, oNone, oSome, aNil, aCons, aStar, mNil, mCons, putS, sOf, gN, gT, gsCons, gsNil, jSeq, jArg, seqD, rsO_some, rsO_none, out, startD, outO, startO, ocAt, olAt, frA, frS, lkN, putN, gTupD, gLstD, uApp, flatD, toV, tYesD, Rs.bind_eq, Rs.bind_ok, Rs.bind_er, Rs.bind_no, S.frz, OC.frz, OB.frz, Option.bind_some, Option.bind_none, Option.bind, Option.map, List.map_cons, List.map_nil, List.cons_append, List.nil_append, List.append_nil, List.length_cons, List.length_nil, Nat.reduceAdd, Nat.reduceSub, List.replicate_succ, List.replicate_zero, List.getElem?_cons_zero, List.getElem?_cons_succ, List.set_cons_zero, List.set_cons_succ, Int.cast_ofNat_Int, ne_eq, not_true_eq_false, not_false_eq_true, decide_false, decide_true, Int.reduceLT, Int.reduceLE, Int.reduceGT, Int.reduceGE, Int.reduceEq, Int.reduceNeg, Int.reduceAdd, Int.reduceSub, Int.reduceMul, if_true, if_false, reduceIte, Bool.false_eq_true, Bool.true_eq_false, Bool.not_true, Bool.not_false, Nat.zero_add, true_and, and_true, ite_true, ite_false, gAdd_int, gSub_int, gNeg_int, gLt_int, gLe_int, gGt_int, gGe_int, gIs_non, gLen_tup, gLen_lst, gLen_scr, gMax2_int, gMin2_int, gInt_int, gInt_bl, gAbs_int, gTuple_tup, gTuple_lst, gIn_tI, gIn_lI, gIsi_int, gIsi_bool, gIsi_tuple, gIsi_list, gIsi_str, isOb, isIntD, isBlD, isTupD, isLstD, isStrD, F_is_from_d hd, hb]
theorem F_check_moduli_d {d : D} (h : noOb 1 d = true) : F_check_moduli [d] = msR d := by
  refine (autoF_at).trans ?_
  have ho := noOb_ob h
  have ht := gIsi_tuple d
  rw [ho, if_neg (by decide)] at ht
  cases d with
  | tup ds =>
    have hds : ∀ x ∈ ds, isOb x = false := fun x hx => by
      have : ds.all (noOb 0) = true := h
      exact noOb_ob (List.all_eq_true.mp this x hx)
    show _ = msT ds
    unfold msT
    by_cases hl : 1 ≤ ds.length ∧ ds.length ≤ 4
    · rw [if_pos hl]
      obtain ⟨z1, z2, e⟩ := cm_loop (z0 := some (.d (.tup ds))) ds 0 none none hds
      have h1 : decide ((1 : Int) ≤ ((ds.length : Nat) : Int)) = true := decide_eq_true (by omega)
      have h2 : decide (((ds.length : Nat) : Int) ≤ 4) = true := decide_eq_true (by omega)
      have e2 : enumG [D.tup ds] = some (enumK 0 ds) := by rw [← enumD_eq]; rfl
      cases hb : firstBad (fun d => isFromD d 1 30) 0 ds with
      | none =>
        rw [hb] at e
        simp only [G_check_moduli, sSeq, sRet, sRetN, sExpr, sIf, sSet, sSetN, sAsg, sParM, sFor, sNx, sBk, sCt, sAug, sRz, sRm1, sRm2, sSetIx, sPutF, dV, dC, dOp, dUn, dLs, fz, nE, dB, dAnd, dOr, dNot, dAndV, dOrV, dNotV, dIf, dChI, dIsi, dCall, dCall0, dCallO, dCallO0, dMake, dMake0, dFld, dProp, dSlice, dLc, dMutL, pkE, pkT, rowD, oNone, oSome, aNil, aCons, aStar, mNil, mCons, putS, sOf, gN, gT, gsCons, gsNil, jSeq, jArg, seqD, rsO_some, rsO_none, out, startD, outO, startO, ocAt, olAt, frA, frS, lkN, putN, gTupD, gLstD, uApp, flatD, toV, tYesD, Rs.bind_eq, Rs.bind_ok, Rs.bind_er, Rs.bind_no, S.frz, OC.frz, OB.frz, Option.bind_some, Option.bind_none, Option.bind, Option.map, List.map_cons, List.map_nil, List.cons_append, List.nil_append, List.append_nil, List.length_cons, List.length_nil, Nat.reduceAdd, Nat.reduceSub, List.replicate_succ, List.replicate_zero, List.getElem?_cons_zero, List.getElem?_cons_succ, List.set_cons_zero, List.set_cons_succ, Int.cast_ofNat_Int, ne_eq, not_true_eq_false, not_false_eq_true, decide_false, decide_true, Int.reduceLT, Int.reduceLE, Int.reduceGT, Int.reduceGE, Int.reduceEq, Int.reduceNeg, Int.reduceAdd, Int.reduceSub, Int.reduceMul, if_true, if_false, reduceIte, Bool.false_eq_true, Bool.true_eq_false, Bool.not_true, Bool.not_false, Nat.zero_add, true_and, and_true, ite_true, ite_false, gAdd_int, gSub_int, gNeg_int, gLt_int, gLe_int, gGt_int, gGe_int, gIs_non, gLen_tup, gLen_lst, gLen_scr, gMax2_int, gMin2_int, gInt_int, gInt_bl, gAbs_int, gTuple_tup, gTuple_lst, gIn_tI, gIn_lI, gIsi_int, gIsi_bool, gIsi_tuple, gIsi_list, gIsi_str, isOb, isIntD, isBlD, isTupD, isLstD, isStrD, ht, isTupD, h1, h2, e2, e]
      | some j =>
        rw [hb] at e
        simp only [G_check_moduli, sSeq, sRet, sRetN, sExpr, sIf, sSet, sSetN, sAsg, sParM, sFor, sNx, sBk, sCt, sAug, sRz, sRm1, sRm2, sSetIx, sPutF, dV, dC, dOp, dUn, dLs, fz, nE, dB, dAnd, dOr, dNot, dAndV, dOrV, dNotV, dIf, dChI, dIsi, dCall, dCall0, dCallO, dCallO0, dMake, dMake0, dFld, dProp, dSlice, dLc, dMutL, pkE, pkT, rowD, oNone, oSome, aNil, aCons, aStar, mNil, mCons, putS, sOf, gN, gT, gsCons, gsNil, jSeq, jArg, seqD, rsO_some, rsO_none, out, startD, outO, startO, ocAt, olAt, frA, frS, lkN, putN, gTupD, gLstD, uApp, flatD, toV, tYesD, Rs.bind_eq, Rs.bind_ok, Rs.bind_er, Rs.bind_no, S.frz, OC.frz, OB.frz, Option.bind_some, Option.bind_none, Option.bind, Option.map, List.map_cons, List.map_nil, List.cons_append, List.nil_append, List.append_nil, List.length_cons, List.length_nil, Nat.reduceAdd, Nat.reduceSub, List.replicate_succ, List.replicate_zero, List.getElem?_cons_zero, List.getElem?_cons_succ, List.set_cons_zero, List.set_cons_succ, Int.cast_ofNat_Int, ne_eq, not_true_eq_false, not_false_eq_true, decide_false, decide_true, Int.reduceLT, Int.reduceLE, Int.reduceGT, Int.reduceGE, Int.reduceEq, Int.reduceNeg, Int.reduceAdd, Int.reduceSub, Int.reduceMul, if_true, if_false, reduceIte, Bool.false_eq_true, Bool.true_eq_false, Bool.not_true, Bool.not_false, Nat.zero_add, true_and, and_true, ite_true, ite_false, gAdd_int, gSub_int, gNeg_int, gLt_int, gLe_int, gGt_int, gGe_int, gIs_non, gLen_tup, gLen_lst, gLen_scr, gMax2_int, gMin2_int, gInt_int, gInt_bl, gAbs_int, gTuple_tup, gTuple_lst, gIn_tI, gIn_lI, gIsi_int, gIsi_bool, gIsi_tuple, gIsi_list, gIsi_str, isOb, isIntD, isBlD, isTupD, isLstD, isStrD, ht, isTupD, h1, h2, e2, e]
    · rw [if_neg hl]
      by_cases h3 : 1 ≤ ds.length
      · have h1 : decide ((1 : Int) ≤ ((ds.length : Nat) : Int)) = true := decide_eq_true (by omega)
        have h2 : decide (((ds.length : Nat) : Int) ≤ 4) = false := decide_eq_false (by omega)
        simp only [G_check_moduli, sSeq, sRet, sRetN, sExpr, sIf, sSet, sSetN, sAsg, sParM, sFor, sNx, sBk, sCt, sAug, sRz, sRm1, sRm2, sSetIx, sPutF, dV, dC, dOp, dUn, dLs, fz, nE, dB, dAnd, dOr, dNot, dAndV, dOrV, dNotV, dIf, dChI, dIsi, dCall, dCall0, dCallO, dCallO0, dMake, dMake0, dFld, dProp, dSlice, dLc, dMutL, pkE, pkT, rowD, oNone, oSome, aNil, aCons, aStar, mNil, mCons, putS, sOf, gN, gT, gsCons, gsNil, jSeq, jArg, seqD, rsO_some, rsO_none, out, startD, outO, startO, ocAt, olAt, frA, frS, lkN, putN, gTupD, gLstD, uApp, flatD, toV, tYesD, Rs.bind_eq, Rs.bind_ok, Rs.bind_er, Rs.bind_no, S.frz, OC.frz, OB.frz, Option.bind_some, Option.bind_none, Option.bind, Option.map, List.map_cons, List.map_nil, List.cons_append, List.nil_append, List.append_nil, List.length_cons, List.length_nil, Nat.reduceAdd, Nat.reduceSub, List.replicate_succ, List.replicate_zero, List.getElem?_cons_zero, List.getElem?_cons_succ, List.set_cons_zero, List.set_cons_succ, Int.cast_ofNat_Int, ne_eq, not_true_eq_false, not_false_eq_true, decide_false, decide_true, Int.reduceLT, Int.reduceLE, Int.reduceGT, Int.reduceGE, Int.reduceEq, Int.reduceNeg, Int.reduceAdd, Int.reduceSub, Int.reduceMul, if_true, if_false, reduceIte, Bool.false_eq_true, Bool.true_eq_false, Bool.not_true, Bool.not_false, Nat.zero_add, true_and, and_true, ite_true, ite_false, gAdd_int, gSub_int, gNeg_int, gLt_int, gLe_int, gGt_int, gGe_int, gIs_non, gLen_tup, gLen_lst, gLen_scr, gMax2_int, gMin2_int, gInt_int, gInt_bl, gAbs_int, gTuple_tup, gTuple_lst, gIn_tI, gIn_lI, gIsi_int, gIsi_bool, gIsi_tuple, gIsi_list, gIsi_str, isOb, isIntD, isBlD, isTupD, isLstD, isStrD, ht, isTupD, h1, h2]
      · have h1 : decide ((1 : Int) ≤ ((ds.length : Nat) : Int)) = false := decide_eq_false (by omega)
        simp only [G_check_moduli, sSeq, sRet, sRetN, sExpr, sIf, sSet, sSetN, sAsg, sParM, sFor, sNx, sBk, sCt, sAug, sRz, sRm1, sRm2, sSetIx, sPutF, dV, dC, dOp, dUn, dLs, fz, nE, dB, dAnd, dOr, dNot, dAndV, dOrV, dNotV, dIf, dChI, dIsi, dCall, dCall0, dCallO, dCallO0, dMake, dMake0, dFld, dProp, dSlice, dLc, dMutL, pkE, pkT, rowD, oNone, oSome, aNil, aCons, aStar, mNil, mCons, putS, sOf, gN, gT, gsCons, gsNil, jSeq, jArg, seqD, rsO_some, rsO_none, out, startD, outO, startO, ocAt, olAt, frA, frS, lkN, putN, gTupD, gLstD, uApp, flatD, toV, tYesD, Rs.bind_eq, Rs.bind_ok, Rs.bind_er, Rs.bind_no, S.frz, OC.frz, OB.frz, Option.bind_some, Option.bind_none, Option.bind, Option.map, List.map_cons, List.map_nil, List.cons_append, List.nil_append, List.append_nil, List.length_cons, List.length_nil, Nat.reduceAdd, Nat.reduceSub, List.replicate_succ, List.replicate_zero, List.getElem?_cons_zero, List.getElem?_cons_succ, List.set_cons_zero, List.set_cons_succ, Int.cast_ofNat_Int, ne_eq, not_true_eq_false, not_false_eq_true, decide_false, decide_true, Int.reduceLT, Int.reduceLE, Int.reduceGT, Int.reduceGE, Int.reduceEq, Int.reduceNeg, Int.reduceAdd, Int.reduceSub, Int.reduceMul, if_true, if_false, reduceIte, Bool.false_eq_true, Bool.true_eq_false, Bool.not_true, Bool.not_false, Nat.zero_add, true_and, and_true, ite_true, ite_false, gAdd_int, gSub_int, gNeg_int, gLt_int, gLe_int, gGt_int, gGe_int, gIs_non, gLen_tup, gLen_lst, gLen_scr, gMax2_int, gMin2_int, gInt_int, gInt_bl, gAbs_int, gTuple_tup, gTuple_lst, gIn_tI, gIn_lI, gIsi_int, gIsi_bool, gIsi_tuple, gIsi_list, gIsi_str, isOb, isIntD, isBlD, isTupD, isLstD, isStrD, ht, isTupD, h1]
  | ob C ns xs => cases ho
  | _ => simp only [G_check_moduli, sSeq, sRet, sRetN, sExpr, sIf, sSet, sSetN, sAsg, sParM, sFor, sNx, sBk, sCt, sAug, sRz, sRm1, sRm2, sSetIx, sPutF, dV, dC, dOp, dUn, dLs, fz, nE, dB, dAnd, dOr, dNot, dAndV, dOrV, dNotV, dIf, dChI, dIsi, dCall, dCall0, dCallO, dCallO0, dMake, dMake0, dFld, dProp, dSlice, dLc, dMutL, pkE, pkT, rowD, oNone, oSome, aNil, aCons, aStar, mNil, mCons, putS, sOf, gN, gT, gsCons, gsNil, jSeq, jArg, seqD, rsO_some, rsO_none, out, startD, outO, startO, ocAt, olAt, frA, frS, lkN, putN, gTupD, gLstD, uApp, flatD, toV, tYesD, Rs.bind_eq, Rs.bind_ok, Rs.bind_er, Rs.bind_no, S.frz, OC.frz, OB.frz, Option.bind_some, Option.bind_none, Option.bind, Option.map, List.map_cons, List.map_nil, List.cons_append, List.nil_append, List.append_nil, List.length_cons, List.length_nil, Nat.reduceAdd, Nat.reduceSub, List.replicate_succ, List.replicate_zero, List.getElem?_cons_zero, List.getElem?_cons_succ, List.set_cons_zero, List.set_cons_succ, Int.cast_ofNat_Int, ne_eq, not_true_eq_false, not_false_eq_true, decide_false, decide_true, Int.reduceLT, Int.reduceLE, Int.reduceGT, Int.reduceGE, Int.reduceEq, Int.reduceNeg, Int.reduceAdd, Int.reduceSub, Int.reduceMul, if_true, if_false, reduceIte, Bool.false_eq_true, Bool.true_eq_false, Bool.not_true, Bool.not_false, Nat.zero_add, true_and, and_true, ite_true, ite_false, gAdd_int, gSub_int, gNeg_int, gLt_int, gLe_int, gGt_int, gGe_int, gIs_non, gLen_tup, gLen_lst, gLen_scr, gMax2_int, gMin2_int, gInt_int, gInt_bl, gAbs_int, gTuple_tup, gTuple_lst, gIn_tI, gIn_lI, gIsi_int, gIsi_bool, gIsi_tuple, gIsi_list, gIsi_str, isOb, isIntD, isBlD, isTupD, isLstD, isStrD, ht, isTupD, msR]
theorem ms_ok {ms : List Int} (h : MsOk ms) : msR (tI ms) = .ok (.d .non) := by
  show msT (ms.map .int) = _
  unfold msT
  have := h.one
  have := h.len
  rw [if_pos (by rw [List.length_map]; omega), firstBad_none fun d hd => by
    obtain ⟨m, hm, rfl⟩ := List.mem_map.mp hd
    exact isFromD_of (h.rng m hm).1 (h.rng m hm).2]
theorem noOb_tI (n : Nat) (ms : List Int) : noOb (n + 1) (tI ms) = true := by
  show (ms.map D.int).all (noOb n) = true
  rw [List.all_map, List.all_eq_true]
  intro a _
  cases n <;> rfl
theorem F_check_moduli_ok {ms : List Int} (h : MsOk ms) : F_check_moduli [tI ms] = .ok (.d .non) := (F_check_moduli_d (noOb_tI 0 ms)).trans (ms_ok h)
end RL

namespace RL
open PySem PySem.Spec PyProof.Rows L2
noncomputable def G_is_seen : FS := sSeq (sIf (dOr (dNot (dB (fz (dIsi "tuple" (dV 0))))) (dOr (dB (fz (dOp gNe (fz (dLs gLen (aCons (dV 0) (aNil)))) (dC (.int 2))))) (dNot (dB (fz (dCall F_is_from (aCons (fz (dOp gIx (dV 0) (dC (.int 0)))) (aCons (fz (dUn gNeg (dC (.int 1000000000000000000000000000000)))) (aCons (dC (.int 1000000000000000000000000000000)) (aNil)))))))))) (sRet (dC (.bl false))) (sNx))
 (sRetN (dIsi "bool" (fz (dOp gIx (dV 0) (dC (.int 1))))))
--FRZ
def isSeenD : D → Bool
  | .tup [a, b] => isFromD a (-far) far && isBlD b
  | _ => false
noncomputable def F_is_seen : List D → Fr := autoF 1 1 G_is_seen
theorem ok_is_seen : ∀ (ds : List D), F_is_seen ds ≠ .no → ds.length = 1 ∧ out (G_is_seen (startD 1 ds)) = F_is_seen ds := autoF_ok
theorem F_is_seen_d {d : D} (h : noOb 1 d = true) : F_is_seen [d] = .ok (.d (.bl (isSeenD d))) := by
  refine (autoF_at).trans ?_
  have ho := noOb_ob h
  have ht := gIsi_tuple d
  rw [ho, if_neg (by decide)] at ht
  cases d with
  | tup ds =>
    have hds : ∀ x ∈ ds, isOb x = false := fun x hx => by
      have : ds.all (noOb 0) = true := h
      exact noOb_ob (List.all_eq_true.mp this x hx)
    match ds, hds with
    | [], _ => simp only [G_is_seen, sSeq, sRet, sRetN, sExpr, sIf, sSet, sSetN, sAsg, sParM, sFor, sNx, sBk, sCt, sAug, sRz, sRm1, sRm2, sSetIx, sPutF, dV, dC, dOp, dUn, dLs, fz, nE, dB, dAnd, dOr, dNot, dAndV, dOrV, dNotV, dIf, dChI, dIsi, dCall, dCall0, dCallO, dCallO0, dMake, dMake0, dFld, dProp, dSlice, dLc, dMutL, pkE, pkT, rowD, oNone, oSome, aNil, aCons, aStar, mNil, mCons, putS, sOf, gN, gT, gsCons, gsNil, jSeq, jArg, seqD, rsO_some, rsO_none, out, startD, outO, startO, ocAt, olAt, frA, frS, lkN, putN, gTupD, gLstD, uApp, flatD, toV, tYesD, Rs.bind_eq, Rs.bind_ok, Rs.bind_er, Rs.bind_no, S.frz, OC.frz, OB.frz, Option.bind_some, Option.bind_none, Option.bind, Option.map, List.map_cons, List.map_nil, List.cons_append, List.nil_append, List.append_nil, List.length_cons, List.length_nil, Nat.reduceAdd, Nat.reduceSub, List.replicate_succ, List.replicate_zero, List.getElem?_cons_zero, List.getElem?_cons_succ, List.set_cons_zero, List.set_cons_succ, Int.cast_ofNat_Int, ne_eq, not_true_eq_false, not_false_eq_true, decide_false, decide_true, Int.reduceLT, Int.reduceLE, Int.reduceGT, Int.reduceGE, Int.reduceEq, Int.reduceNeg, Int.reduceAdd, Int.reduceSub, Int.reduceMul, if_true, if_false, reduceIte, Bool.false_eq_true, Bool.true_eq_false, Bool.not_true, Bool.not_false, Nat.zero_add, true_and, and_true, ite_true, ite_false, gAdd_int, gSub_int, gNeg_int, gLt_int, gLe_int, gGt_int, gGe_int, gIs_non, gLen_tup, gLen_lst, gLen_scr, gMax2_int, gMin2_int, gInt_int, gInt_bl, gAbs_int, gTuple_tup, gTuple_lst, gIn_tI, gIn_lI, gIsi_int, gIsi_bool, gIsi_tuple, gIsi_list, gIsi_str, isOb, isIntD, isBlD, isTupD, isLstD, isStrD, ht, isTupD, isSeenD, gNe_int] <;> rfl
    | [_], _ => simp only [G_is_seen, sSeq, sRet, sRetN, sExpr, sIf, sSet, sSetN, sAsg, sParM, sFor, sNx, sBk, sCt, sAug, sRz, sRm1, sRm2, sSetIx, sPutF, dV, dC, dOp, dUn, dLs, fz, nE, dB, dAnd, dOr, dNot, dAndV, dOrV, dNotV, dIf, dChI, dIsi, dCall, dCall0, dCallO, dCallO0, dMake, dMake0, dFld, dProp, dSlice, dLc, dMutL, pkE, pkT, rowD, oNone, oSome, aNil, aCons, aStar, mNil, mCons, putS, sOf, gN, gT, gsCons, gsNil, jSeq, jArg, seqD, rsO_some, rsO_none, out, startD, outO, startO, ocAt, olAt, frA, frS, lkN, putN, gTupD, gLstD, uApp, flatD, toV, tYesD, Rs.bind_eq, Rs.bind_ok, Rs.bind_er, Rs.bind_no, S.frz, OC.frz, OB.frz, Option.bind_some, Option.bind_none, Option.bind, Option.map, List.map_cons, List.map_nil, List.cons_append, List.nil_append, List.append_nil, List.length_cons, List.length_nil, Nat.reduceAdd, Nat.reduceSub, List.replicate_succ, List.replicate_zero, List.getElem?_cons_zero, List.getElem?_cons_succ, List.set_cons_zero, List.set_cons_succ, Int.cast_ofNat_Int, ne_eq, not_true_eq_false, not_false_eq_true, decide_false, decide_true, Int.reduceLT, Int.reduceLE, Int.reduceGT, Int.reduceGE, Int.reduceEq, Int.reduceNeg, Int.reduceAdd, Int.reduceSub, Int.reduceMul, if_true, if_false, reduceIte, Bool.false_eq_true, Bool.true_eq_false, Bool.not_true, Bool.not_false, Nat.zero_add, true_and, and_true, ite_true, ite_false, gAdd_int, gSub_int, gNeg_int, gLt_int, gLe_int, gGt_int, gGe_int, gIs_non, gLen_tup, gLen_lst, gLen_scr, gMax2_int, gMin2_int, gInt_int, gInt_bl, gAbs_int, gTuple_tup, gTuple_lst, gIn_tI, gIn_lI, gIsi_int, gIsi_bool, gIsi_tuple, gIsi_list, gIsi_str, isOb, isIntD, isBlD, isTupD, isLstD, isStrD, ht, isTupD, isSeenD, gNe_int] <;> rfl
    | [a, b], hds =>
      have ha := hds a (by simp)
      have hb := hds b (by simp)
      have i0 : gIx (.tup [a, b]) (.int 0) = some (.d a) := gIx_tup (atI_nat (j := 0) rfl)
      have i1 : gIx (.tup [a, b]) (.int 1) = some (.d b) := gIx_tup (atI_nat (j := 1) rfl)
      have hbl := gIsi_bool b
      rw [hb, if_neg (by decide)] at hbl
      have ef : -far = -1000000000000000000000000000000 := rfl
      have ef2 : far = 1000000000000000000000000000000 := rfl
      have e1 := F_is_from_d (lo := -far) (hi := far) ha
      rw [ef2] at e1
      cases hf : isFromD a (-far) far with
      | true =>
        rw [ef2] at hf
        rw [hf] at e1
        cases b <;> first | (cases hb; done) | (simp only [G_is_seen, sSeq, sRet, sRetN, sExpr, sIf, sSet, sSetN, sAsg, sParM, sFor, sNx, sBk, sCt, sAug, sRz, sRm1, sRm2, sSetIx, sPutF, dV, dC, dOp, dUn, dLs, fz, nE, dB, dAnd, dOr, dNot, dAndV, dOrV, dNotV, dIf, dChI, dIsi, dCall, dCall0, dCallO, dCallO0, dMake, dMake0, dFld, dProp, dSlice, dLc, dMutL, pkE, pkT, rowD, oNone, oSome, aNil, aCons, aStar, mNil, mCons, putS, sOf, gN, gT, gsCons, gsNil, jSeq, jArg, seqD, rsO_some, rsO_none, out, startD, outO, startO, ocAt, olAt, frA, frS, lkN, putN, gTupD, gLstD, uApp, flatD, toV, tYesD, Rs.bind_eq, Rs.bind_ok, Rs.bind_er, Rs.bind_no, S.frz, OC.frz, OB.frz, Option.bind_some, Option.bind_none, Option.bind, Option.map, List.map_cons, List.map_nil, List.cons_append, List.nil_append, List.append_nil, List.length_cons, List.length_nil, Nat.reduceAdd, Nat.reduceSub, List.replicate_succ, List.replicate_zero, List.getElem?_cons_zero, List.getElem?_cons_succ, List.set_cons_zero, List.set_cons_succ, Int.cast_ofNat_Int, ne_eq, not_true_eq_false, not_false_eq_true, decide_false, decide_true, Int.reduceLT, Int.reduceLE, Int.reduceGT, Int.reduceGE, Int.reduceEq, Int.reduceNeg, Int.reduceAdd, Int.reduceSub, Int.reduceMul, if_true, if_false, reduceIte, Bool.false_eq_true, Bool.true_eq_false, Bool.not_true, Bool.not_false, Nat.zero_add, true_and, and_true, ite_true, ite_false, gAdd_int, gSub_int, gNeg_int, gLt_int, gLe_int, gGt_int, gGe_int, gIs_non, gLen_tup, gLen_lst, gLen_scr, gMax2_int, gMin2_int, gInt_int, gInt_bl, gAbs_int, gTuple_tup, gTuple_lst, gIn_tI, gIn_lI, gIsi_int, gIsi_bool, gIsi_tuple, gIsi_list, gIsi_str, isOb, isIntD, isBlD, isTupD, isLstD, isStrD, ht, isTupD, isSeenD, gNe_int, i0, i1, e1, ef2, hf, Bool.true_and] <;> rfl)
      | false =>
        rw [ef2] at hf
        rw [hf] at e1
        simp only [G_is_seen, sSeq, sRet, sRetN, sExpr, sIf, sSet, sSetN, sAsg, sParM, sFor, sNx, sBk, sCt, sAug, sRz, sRm1, sRm2, sSetIx, sPutF, dV, dC, dOp, dUn, dLs, fz, nE, dB, dAnd, dOr, dNot, dAndV, dOrV, dNotV, dIf, dChI, dIsi, dCall, dCall0, dCallO, dCallO0, dMake, dMake0, dFld, dProp, dSlice, dLc, dMutL, pkE, pkT, rowD, oNone, oSome, aNil, aCons, aStar, mNil, mCons, putS, sOf, gN, gT, gsCons, gsNil, jSeq, jArg, seqD, rsO_some, rsO_none, out, startD, outO, startO, ocAt, olAt, frA, frS, lkN, putN, gTupD, gLstD, uApp, flatD, toV, tYesD, Rs.bind_eq, Rs.bind_ok, Rs.bind_er, Rs.bind_no, S.frz, OC.frz, OB.frz, Option.bind_some, Option.bind_none, Option.bind, Option.map, List.map_cons, List.map_nil, List.cons_append, List.nil_append, List.append_nil, List.length_cons, List.length_nil, Nat.reduceAdd, Nat.reduceSub, List.replicate_succ, List.replicate_zero, List.getElem?_cons_zero, List.getElem?_cons_succ, List.set_cons_zero, List.set_cons_succ, Int.cast_ofNat_Int, ne_eq, not_true_eq_false, not_false_eq_true, decide_false, decide_true, Int.reduceLT, Int.reduceLE, Int.reduceGT, Int.reduceGE, Int.reduceEq, Int.reduceNeg, Int.reduceAdd, Int.reduceSub, Int.reduceMul, if_true, if_false, reduceIte, Bool.false_eq_true, Bool.true_eq_false, Bool.not_true, Bool.not_false, Nat.zero_add, true_and, and_true, ite_true, ite_false, gAdd_int, gSub_int, gNeg_int, gLt_int, gLe_int, gGt_int, gGe_int, gIs_non, gLen_tup, gLen_lst, gLen_scr, gMax2_int, gMin2_int, gInt_int, gInt_bl, gAbs_int, gTuple_tup, gTuple_lst, gIn_tI, gIn_lI, gIsi_int, gIsi_bool, gIsi_tuple, gIsi_list, gIsi_str, isOb, isIntD, isBlD, isTupD, isLstD, isStrD, ht, isTupD, isSeenD, gNe_int, i0, i1, e1, hbl, ef2, hf, Bool.false_and] <;> rfl
    | a :: b :: c :: r, _ =>
      have hl : decide (((r.length + 1 + 1 + 1 : Nat) : Int) ≠ 2) = true := decide_eq_true (by omega)
      simp only [G_is_seen, sSeq, sRet, sRetN, sExpr, sIf, sSet, sSetN, sAsg, sParM, sFor, sNx, sBk, sCt, sAug, sRz, sRm1, sRm2, sSetIx, sPutF, dV, dC, dOp, dUn, dLs, fz, nE, dB, dAnd, dOr, dNot, dAndV, dOrV, dNotV, dIf, dChI, dIsi, dCall, dCall0, dCallO, dCallO0, dMake, dMake0, dFld, dProp, dSlice, dLc, dMutL, pkE, pkT, rowD, oNone, oSome, aNil, aCons, aStar, mNil, mCons, putS, sOf, gN, gT, gsCons, gsNil, jSeq, jArg, seqD, rsO_some, rsO_none, out, startD, outO, startO, ocAt, olAt, frA, frS, lkN, putN, gTupD, gLstD, uApp, flatD, toV, tYesD, Rs.bind_eq, Rs.bind_ok, Rs.bind_er, Rs.bind_no, S.frz, OC.frz, OB.frz, Option.bind_some, Option.bind_none, Option.bind, Option.map, List.map_cons, List.map_nil, List.cons_append, List.nil_append, List.append_nil, List.length_cons, List.length_nil, Nat.reduceAdd, Nat.reduceSub, List.replicate_succ, List.replicate_zero, List.getElem?_cons_zero, List.getElem?_cons_succ, List.set_cons_zero, List.set_cons_succ, Int.cast_ofNat_Int, ne_eq, not_true_eq_false, not_false_eq_true, decide_false, decide_true, Int.reduceLT, Int.reduceLE, Int.reduceGT, Int.reduceGE, Int.reduceEq, Int.reduceNeg, Int.reduceAdd, Int.reduceSub, Int.reduceMul, if_true, if_false, reduceIte, Bool.false_eq_true, Bool.true_eq_false, Bool.not_true, Bool.not_false, Nat.zero_add, true_and, and_true, ite_true, ite_false, gAdd_int, gSub_int, gNeg_int, gLt_int, gLe_int, gGt_int, gGe_int, gIs_non, gLen_tup, gLen_lst, gLen_scr, gMax2_int, gMin2_int, gInt_int, gInt_bl, gAbs_int, gTuple_tup, gTuple_lst, gIn_tI, gIn_lI, gIsi_int, gIsi_bool, gIsi_tuple, gIsi_list, gIsi_str, isOb, isIntD, isBlD, isTupD, isLstD, isStrD, ht, isTupD, isSeenD, gNe_int, hl]
  | ob C ns xs => cases ho
  | _ => simp only [G_is_seen, sSeq, sRet, sRetN, sExpr, sIf, sSet, sSetN, sAsg, sParM, sFor, sNx, sBk, sCt, sAug, sRz, sRm1, sRm2, sSetIx, sPutF, dV, dC, dOp, dUn, dLs, fz, nE, dB, dAnd, dOr, dNot, dAndV, dOrV, dNotV, dIf, dChI, dIsi, dCall, dCall0, dCallO, dCallO0, dMake, dMake0, dFld, dProp, dSlice, dLc, dMutL, pkE, pkT, rowD, oNone, oSome, aNil, aCons, aStar, mNil, mCons, putS, sOf, gN, gT, gsCons, gsNil, jSeq, jArg, seqD, rsO_some, rsO_none, out, startD, outO, startO, ocAt, olAt, frA, frS, lkN, putN, gTupD, gLstD, uApp, flatD, toV, tYesD, Rs.bind_eq, Rs.bind_ok, Rs.bind_er, Rs.bind_no, S.frz, OC.frz, OB.frz, Option.bind_some, Option.bind_none, Option.bind, Option.map, List.map_cons, List.map_nil, List.cons_append, List.nil_append, List.append_nil, List.length_cons, List.length_nil, Nat.reduceAdd, Nat.reduceSub, List.replicate_succ, List.replicate_zero, List.getElem?_cons_zero, List.getElem?_cons_succ, List.set_cons_zero, List.set_cons_succ, Int.cast_ofNat_Int, ne_eq, not_true_eq_false, not_false_eq_true, decide_false, decide_true, Int.reduceLT, Int.reduceLE, Int.reduceGT, Int.reduceGE, Int.reduceEq, Int.reduceNeg, Int.reduceAdd, Int.reduceSub, Int.reduceMul, if_true, if_false, reduceIte, Bool.false_eq_true, Bool.true_eq_false, Bool.not_true, Bool.not_false, Nat.zero_add, true_and, and_true, ite_true, ite_false, gAdd_int, gSub_int, gNeg_int, gLt_int, gLe_int, gGt_int, gGe_int, gIs_non, gLen_tup, gLen_lst, gLen_scr, gMax2_int, gMin2_int, gInt_int, gInt_bl, gAbs_int, gTuple_tup, gTuple_lst, gIn_tI, gIn_lI, gIsi_int, gIsi_bool, gIsi_tuple, gIsi_list, gIsi_str, isOb, isIntD, isBlD, isTupD, isLstD, isStrD, ht, isTupD, isSeenD]
end RL

namespace RL
open PySem PySem.Spec PyProof.Rows L2
noncomputable def B_check_seen_1 : FS := sSeq (sIf (dNot (dB (fz (dCall F_is_seen (aCons (dV 3) (aNil)))))) (sRm1 "BadSeen" "index" (aCons (dV 2) (aNil))) (sNx))
 (sSeq (sAug 1 (fun m n => m + n) (fz (dLs gInt (aCons (dNotV (fz (dOp gIx (dV 3) (dC (.int 1))))) (aNil)))))
 (sIf (dB (fz (dOp gGt (dV 1) (dC (.int 8))))) (sRm1 "BadSeen" "index" (aCons (dV 2) (aNil))) (sNx)))
noncomputable def G_check_seen : FS := sSeq (sIf (dOr (dNot (dB (fz (dIsi2 "list" "tuple" (dV 0))))) (dB (fz (dOp gGt (fz (dLs gLen (aCons (dV 0) (aNil)))) (dC (.int 20)))))) (sRm1 "BadSeen" "index" (aCons (dC .non) (aNil))) (sNx))
 (sSeq (sSet 1 (dC (.int 0)))
 (sFor (jArg enumG (aCons (dV 0) (aNil))) (gT 2 (gsCons (gN 2) (gsCons (gN 3) (gsNil)))) (B_check_seen_1)))
--FRZ
def outI : D → Int
  | .tup [_, .bl b] => if (!b) = true then 1 else 0
  | _ => 0
def seenBad : Nat → Int → List D → Option Nat
  | _, _, [] => none
  | k, o, d :: r => if isSeenD d = true then (if o + outI d > 8 then some k else seenBad (k + 1) (o + outI d) r) else some k
def seenR (ds : List D) : Fr := if ds.length ≤ 20 then (match seenBad 0 0 ds with
    | some j => .er ⟨"BadSeen", [("index", .int (j : Nat))]⟩
    | none => .ok (.d .non)) else .er ⟨"BadSeen", [("index", .non)]⟩
def seR : D → Fr
  | .tup ds => seenR ds
  | .lst ds => seenR ds
  | _ => .er ⟨"BadSeen", [("index", .non)]⟩
noncomputable def F_check_seen : List D → Fr := autoF 1 4 G_check_seen
theorem ok_check_seen : ∀ (ds : List D), F_check_seen ds ≠ .no → ds.length = 1 ∧ out (G_check_seen (startD 4 ds)) = F_check_seen ds := autoF_ok
theorem seenD_inv {d : D} (h : isSeenD d = true) : ∃ (n : Int) (b : Bool), d = .tup [.int n, .bl b] ∧ -far ≤ n ∧ n ≤ far := by
  unfold isSeenD at h
  split at h
  · rename_i a b
    rw [Bool.and_eq_true] at h
    obtain ⟨e1, e2, e3⟩ := isFromD_int h.1
    cases b with
    | bl b => exact ⟨asID a, b, by rw [← e1], e2, e3⟩
    | _ => cases h.2
  · cases h
theorem cs_loop {z0 : Option S} : ∀ (ds : List D) (k : Nat) (o : Int) (z2 z3 : Option S), (∀ d ∈ ds, noOb 1 d = true) → ∃ z1' z2' z3', forL (gT 2 (gsCons (gN 2) (gsCons (gN 3) (gsNil)))) B_check_seen_1 (enumK k ds) [z0, some (.d (.int o)), z2, z3] =
    match seenBad k o ds with
    | some j => .er ⟨"BadSeen", [("index", .int (j : Nat))]⟩ [z0, z1', z2', z3']
    | none => .ok (.nx [z0, z1', z2', z3'])
  | [], k, o, z2, z3, _ => ⟨_, z2, z3, rfl⟩
  | d :: r, k, o, z2, z3, h => by
    have hd := F_is_seen_d (h d (by simp))
    unfold seenBad
    cases hb : isSeenD d with
    | true =>
      obtain ⟨n, b, rfl, _, _⟩ := seenD_inv hb
      rw [hb] at hd
      have i1 : gIx (.tup [.int n, .bl b]) (.int 1) = some (.d (.bl b)) := gIx_tup (atI_nat (j := 1) rfl)
      rw [if_pos rfl]
      have eo : outI (.tup [.int n, .bl b]) = if (!b) = true then 1 else 0 := rfl
      rw [eo]
      by_cases ho : o + (if (!b) = true then 1 else 0) > 8
      · refine ⟨some (.d (.int (o + (if (!b) = true then 1 else 0)))), some (.d (.int (k : Nat))), some (.d (.tup [.int n, .bl b])), ?_⟩
        rw [if_pos ho]
        refine forL_er rfl ?_
        cases b <;> simp only [Bool.not_true, Bool.not_false, if_true, if_false, Bool.false_eq_true] at ho ⊢ <;> simp only [B_check_seen_1, sSeq, sRet, sRetN, sExpr, sIf, sSet, sSetN, sAsg, sParM, sFor, sNx, sBk, sCt, sAug, sRz, sRm1, sRm2, sSetIx, sPutF, dV, dC, dOp, dUn, dLs, fz, nE, dB, dAnd, dOr, dNot, dAndV, dOrV, dNotV, dIf, dChI, dIsi, dCall, dCall0, dCallO, dCallO0, dMake, dMake0, dFld, dProp, dSlice, dLc, dMutL, pkE, pkT, rowD, oNone, oSome, aNil, aCons, aStar, mNil, mCons, putS, sOf, gN, gT, gsCons, gsNil, jSeq, jArg, seqD, rsO_some, rsO_none, out, startD, outO, startO, ocAt, olAt, frA, frS, lkN, putN, gTupD, gLstD, uApp, flatD, toV, tYesD, Rs.bind_eq, Rs.bind_ok, Rs.bind_er, Rs.bind_no, S.frz, OC.frz, OB.frz, Option.bind_some, Option.bind_none, Option.bind, Option.map, List.map_cons, List.map_nil, List.cons_append, List.nil_append, List.append_nil, List.length_cons, List.length_nil, Nat.reduceAdd, Nat.reduceSub, List.replicate_succ, List.replicate_zero, List.getElem?_cons_zero, List.getElem?_cons_succ, List.set_cons_zero, List.set_cons_succ, Int.cast_ofNat_Int, ne_eq, not_true_eq_false, not_false_eq_true, decide_false, decide_true, Int.reduceLT, Int.reduceLE, Int.reduceGT, Int.reduceGE, Int.reduceEq, Int.reduceNeg, Int.reduceAdd, Int.reduceSub, Int.reduceMul, if_true, if_false, reduceIte, Bool.false_eq_true, Bool.true_eq_false, Bool.not_true, Bool.not_false, Nat.zero_add, true_and, and_true, ite_true, ite_false, gAdd_int, gSub_int, gNeg_int, gLt_int, gLe_int, gGt_int, gGe_int, gIs_non, gLen_tup, gLen_lst, gLen_scr, gMax2_int, gMin2_int, gInt_int, gInt_bl, gAbs_int, gTuple_tup, gTuple_lst, gIn_tI, gIn_lI, gIsi_int, gIsi_bool, gIsi_tuple, gIsi_list, gIsi_str, isOb, isIntD, isBlD, isTupD, isLstD, isStrD, hd, i1, decide_eq_true ho]
      · obtain ⟨z1', z2', z3', ih⟩ := cs_loop (z0 := z0) r (k + 1) (o + (if (!b) = true then 1 else 0)) (some (.d (.int (k : Nat)))) (some (.d (.tup [.int n, .bl b]))) (fun x hx => h x (by simp [hx]))
        refine ⟨z1', z2', z3', ?_⟩
        rw [if_neg ho]
        refine (forL_cons rfl ?_).trans ih
        cases b <;> simp only [Bool.not_true, Bool.not_false, if_true, if_false, Bool.false_eq_true] at ho ⊢ <;> simp only [B_check_seen_1, sSeq, sRet, sRetN, sExpr, sIf, sSet, sSetN, sAsg, sParM, sFor, sNx, sBk, sCt, sAug, sRz, sRm1, sRm2, sSetIx, sPutF, dV, dC, dOp, dUn, dLs, fz, nE, dB, dAnd, dOr, dNot, dAndV, dOrV, dNotV, dIf, dChI, dIsi, dCall, dCall0, dCallO, dCallO0, dMake, dMake0, dFld, dProp, dSlice, dLc, dMutL, pkE, pkT, rowD, oNone, oSome, aNil, aCons, aStar, mNil, mCons, putS, sOf, gN, gT, gsCons, gsNil, jSeq, jArg, seqD, rsO_some, rsO_none, out, startD, outO, startO, ocAt, olAt, frA, frS, lkN, putN, gTupD, gLstD, uApp, flatD, toV, tYesD, Rs.bind_eq, Rs.bind_ok, Rs.bind_er, Rs.bind_no, S.frz, OC.frz, OB.frz, Option.bind_some, Option.bind_none, Option.bind, Option.map, List.map_cons, List.map_nil, List.cons_append, List.nil_append, List.append_nil, List.length_cons, List.length_nil, Nat.reduceAdd, Nat.reduceSub, List.replicate_succ, List.replicate_zero, List.getElem?_cons_zero, List.getElem?_cons_succ, List.set_cons_zero, List.set_cons_succ, Int.cast_ofNat_Int, ne_eq, not_true_eq_false, not_false_eq_true, decide_false, decide_true, Int.reduceLT, Int.reduceLE, Int.reduceGT, Int.reduceGE, Int.reduceEq, Int.reduceNeg, Int.reduceAdd, Int.reduceSub, Int.reduceMul, if_true, if_false, reduceIte, Bool.false_eq_true, Bool.true_eq_false, Bool.not_true, Bool.not_false, Nat.zero_add, true_and, and_true, ite_true, ite_false, gAdd_int, gSub_int, gNeg_int, gLt_int, gLe_int, gGt_int, gGe_int, gIs_non, gLen_tup, gLen_lst, gLen_scr, gMax2_int, gMin2_int, gInt_int, gInt_bl, gAbs_int, gTuple_tup, gTuple_lst, gIn_tI, gIn_lI, gIsi_int, gIsi_bool, gIsi_tuple, gIsi_list, gIsi_str, isOb, isIntD, isBlD, isTupD, isLstD, isStrD, hd, i1, decide_eq_false ho]
    | false =>
      rw [hb] at hd
      refine ⟨some (.d (.int o)), some (.d (.int (k : Nat))), some (.d d), ?_⟩
      rw [if_neg (by decide)]
      refine forL_er rfl ?_
      simp only [B_check_seen_1, sSeq, sRet, sRetN, sExpr, sIf, sSet, sSetN, sAsg, sParM, sFor, sNx, sBk, sCt, sAug, sRz, sRm1, sRm2, sSetIx, sPutF, dV, dC, dOp, dUn, dLs, fz, nE, dB, dAnd, dOr, dNot, dAndV, dOrV, dNotV, dIf, dChI, dIsi, dCall, dCall0, dCallO, dCallO0, dMake, dMake0, dFld, dProp, dSlice, dLc, dMutL, pkE, pkT, rowD, oNone, oSome, aNil, aCons, aStar, mNil, mCons, putS, sOf, gN, gT, gsCons, gsNil, jSeq, jArg, seqD, rsO_some, rsO_none, out, startD, outO, startO, ocAt, olAt, frA, frS, lkN, putN, gTupD, gLstD, uApp, flatD, toV, tYesD, Rs.bind_eq, Rs.bind_ok, Rs.bind_er, Rs.bind_no, S.frz, OC.frz, OB.frz, Option.bind_some, Option.bind_none, Option.bind, Option.map, List.map_cons, List.map_nil, List.cons_append, List.nil_append, List.append_nil, List.length_cons, List.length_nil, Nat.reduceAdd, Nat.reduceSub, List.replicate_succ, List.replicate_zero, List.getElem?_cons_zero, List.getElem?_cons_succ, List.set_cons_zero, List.set_cons_succ, Int.cast_ofNat_Int, ne_eq, not_true_eq_false, not_false_eq_true, decide_false, decide_true, Int.reduceLT, Int.reduceLE, Int.reduceGT, Int.reduceGE, Int.reduceEq, Int.reduceNeg, Int.reduceAdd, Int.reduceSub, Int.reduceMul, if_true, if_false, reduceIte, Bool.false_eq_true, Bool.true_eq_false, Bool.not_true, Bool.not_false, Nat.zero_add, true_and, and_true, ite_true, ite_false, gAdd_int, gSub_int, gNeg_int, gLt_int, gLe_int, gGt_int, gGe_int, gIs_non, gLen_tup, gLen_lst, gLen_scr, gMax2_int, gMin2_int, gInt_int, gInt_bl, gAbs_int, gTuple_tup, gTuple_lst, gIn_tI, gIn_lI, gIsi_int, gIsi_bool, gIsi_tuple, gIsi_list, gIsi_str, isOb, isIntD, isBlD, isTupD, isLstD, isStrD, hd]
theorem gIsi2_lt (d : D) (h : isOb d = false) : gIsi2 "list" "tuple" d = some (.d (.bl (isLstD d || isTupD d))) := by
  have k1 : kitB "list" "list" = some true := by decide +kernel
  have k2 : kitB "tuple" "list" = some false := by decide +kernel
  have k3 : kitB "list" "tuple" = some false := by decide +kernel
  have k4 : kitB "tuple" "tuple" = some true := by decide +kernel
  have k5 : kitB "NoneType" "list" = some false := by decide +kernel
  have k6 : kitB "NoneType" "tuple" = some false := by decide +kernel
  have k7 : kitB "bool" "list" = some false := by decide +kernel
  have k8 : kitB "bool" "tuple" = some false := by decide +kernel
  have k9 : kitB "int" "list" = some false := by decide +kernel
  have k10 : kitB "int" "tuple" = some false := by decide +kernel
  have k11 : kitB "str" "list" = some false := by decide +kernel
  have k12 : kitB "str" "tuple" = some false := by decide +kernel
  have k13 : kitB "dict" "list" = some false := by decide +kernel
  have k14 : kitB "dict" "tuple" = some false := by decide +kernel
  cases d with
  | ob => cases h
  | tup => simp only [gIsi2, tyN, isLstD, isTupD, Option.bind, Option.map, k2, k4]
  | lst => simp only [gIsi2, tyN, isLstD, isTupD, Option.bind, Option.map, k1, k3]
  | scr => simp only [gIsi2, tyN, isLstD, isTupD, Option.bind, Option.map, k1, k3]
  | _ => simp only [gIsi2, tyN, isLstD, isTupD, Option.bind, Option.map, k5, k6, k7, k8, k9, k10, k11, k12, k13, k14]
theorem F_check_seen_d {d : D} (h : noOb 2 d = true) (hs : ∀ ns, d ≠ .scr ns) : F_check_seen [d] = seR d := by
  refine (autoF_at).trans ?_
  have ho := noOb_ob h
  have ht := gIsi2_lt d ho
  have row : ∀ ds : List D, (∀ x ∈ ds, noOb 1 x = true) → (d = .tup ds ∨ d = .lst ds) → out (G_check_seen (startD 4 [d])) = seenR ds := fun ds hds he => by
    have hlt : (isLstD d || isTupD d) = true := by rcases he with rfl | rfl <;> rfl
    rw [hlt] at ht
    have el : gLen [d] = some (.d (.int (ds.length : Nat))) := by rcases he with rfl | rfl <;> rfl
    have ee : enumG [d] = some (enumK 0 ds) := by
      rw [← enumD_eq]
      rcases he with rfl | rfl <;> rfl
    unfold seenR
    by_cases hl : ds.length ≤ 20
    · rw [if_pos hl]
      have h2 : decide (((ds.length : Nat) : Int) > 20) = false := decide_eq_false (by omega)
      obtain ⟨z1, z2, z3, e⟩ := cs_loop (z0 := some (.d d)) ds 0 0 none none hds
      cases hb : seenBad 0 0 ds with
      | none =>
        rw [hb] at e
        simp only [G_check_seen, dIsi2, sSeq, sRet, sRetN, sExpr, sIf, sSet, sSetN, sAsg, sParM, sFor, sNx, sBk, sCt, sAug, sRz, sRm1, sRm2, sSetIx, sPutF, dV, dC, dOp, dUn, dLs, fz, nE, dB, dAnd, dOr, dNot, dAndV, dOrV, dNotV, dIf, dChI, dIsi, dCall, dCall0, dCallO, dCallO0, dMake, dMake0, dFld, dProp, dSlice, dLc, dMutL, pkE, pkT, rowD, oNone, oSome, aNil, aCons, aStar, mNil, mCons, putS, sOf, gN, gT, gsCons, gsNil, jSeq, jArg, seqD, rsO_some, rsO_none, out, startD, outO, startO, ocAt, olAt, frA, frS, lkN, putN, gTupD, gLstD, uApp, flatD, toV, tYesD, Rs.bind_eq, Rs.bind_ok, Rs.bind_er, Rs.bind_no, S.frz, OC.frz, OB.frz, Option.bind_some, Option.bind_none, Option.bind, Option.map, List.map_cons, List.map_nil, List.cons_append, List.nil_append, List.append_nil, List.length_cons, List.length_nil, Nat.reduceAdd, Nat.reduceSub, List.replicate_succ, List.replicate_zero, List.getElem?_cons_zero, List.getElem?_cons_succ, List.set_cons_zero, List.set_cons_succ, Int.cast_ofNat_Int, ne_eq, not_true_eq_false, not_false_eq_true, decide_false, decide_true, Int.reduceLT, Int.reduceLE, Int.reduceGT, Int.reduceGE, Int.reduceEq, Int.reduceNeg, Int.reduceAdd, Int.reduceSub, Int.reduceMul, if_true, if_false, reduceIte, Bool.false_eq_true, Bool.true_eq_false, Bool.not_true, Bool.not_false, Nat.zero_add, true_and, and_true, ite_true, ite_false, gAdd_int, gSub_int, gNeg_int, gLt_int, gLe_int, gGt_int, gGe_int, gIs_non, gLen_tup, gLen_lst, gLen_scr, gMax2_int, gMin2_int, gInt_int, gInt_bl, gAbs_int, gTuple_tup, gTuple_lst, gIn_tI, gIn_lI, gIsi_int, gIsi_bool, gIsi_tuple, gIsi_list, gIsi_str, isOb, isIntD, isBlD, isTupD, isLstD, isStrD, ht, el, h2, ee, e]
      | some j =>
        rw [hb] at e
        simp only [G_check_seen, dIsi2, sSeq, sRet, sRetN, sExpr, sIf, sSet, sSetN, sAsg, sParM, sFor, sNx, sBk, sCt, sAug, sRz, sRm1, sRm2, sSetIx, sPutF, dV, dC, dOp, dUn, dLs, fz, nE, dB, dAnd, dOr, dNot, dAndV, dOrV, dNotV, dIf, dChI, dIsi, dCall, dCall0, dCallO, dCallO0, dMake, dMake0, dFld, dProp, dSlice, dLc, dMutL, pkE, pkT, rowD, oNone, oSome, aNil, aCons, aStar, mNil, mCons, putS, sOf, gN, gT, gsCons, gsNil, jSeq, jArg, seqD, rsO_some, rsO_none, out, startD, outO, startO, ocAt, olAt, frA, frS, lkN, putN, gTupD, gLstD, uApp, flatD, toV, tYesD, Rs.bind_eq, Rs.bind_ok, Rs.bind_er, Rs.bind_no, S.frz, OC.frz, OB.frz, Option.bind_some, Option.bind_none, Option.bind, Option.map, List.map_cons, List.map_nil, List.cons_append, List.nil_append, List.append_nil, List.length_cons, List.length_nil, Nat.reduceAdd, Nat.reduceSub, List.replicate_succ, List.replicate_zero, List.getElem?_cons_zero, List.getElem?_cons_succ, List.set_cons_zero, List.set_cons_succ, Int.cast_ofNat_Int, ne_eq, not_true_eq_false, not_false_eq_true, decide_false, decide_true, Int.reduceLT, Int.reduceLE, Int.reduceGT, Int.reduceGE, Int.reduceEq, Int.reduceNeg, Int.reduceAdd, Int.reduceSub, Int.reduceMul, if_true, if_false, reduceIte, Bool.false_eq_true, Bool.true_eq_false, Bool.not_true, Bool.not_false, Nat.zero_add, true_and, and_true, ite_true, ite_false, gAdd_int, gSub_int, gNeg_int, gLt_int, gLe_int, gGt_int, gGe_int, gIs_non, gLen_tup, gLen_lst, gLen_scr, gMax2_int, gMin2_int, gInt_int, gInt_bl, gAbs_int, gTuple_tup, gTuple_lst, gIn_tI, gIn_lI, gIsi_int, gIsi_bool, gIsi_tuple, gIsi_list, gIsi_str, isOb, isIntD, isBlD, isTupD, isLstD, isStrD, ht, el, h2, ee, e]
    · rw [if_neg hl]
      have h2 : decide (((ds.length : Nat) : Int) > 20) = true := decide_eq_true (by omega)
      simp only [G_check_seen, dIsi2, sSeq, sRet, sRetN, sExpr, sIf, sSet, sSetN, sAsg, sParM, sFor, sNx, sBk, sCt, sAug, sRz, sRm1, sRm2, sSetIx, sPutF, dV, dC, dOp, dUn, dLs, fz, nE, dB, dAnd, dOr, dNot, dAndV, dOrV, dNotV, dIf, dChI, dIsi, dCall, dCall0, dCallO, dCallO0, dMake, dMake0, dFld, dProp, dSlice, dLc, dMutL, pkE, pkT, rowD, oNone, oSome, aNil, aCons, aStar, mNil, mCons, putS, sOf, gN, gT, gsCons, gsNil, jSeq, jArg, seqD, rsO_some, rsO_none, out, startD, outO, startO, ocAt, olAt, frA, frS, lkN, putN, gTupD, gLstD, uApp, flatD, toV, tYesD, Rs.bind_eq, Rs.bind_ok, Rs.bind_er, Rs.bind_no, S.frz, OC.frz, OB.frz, Option.bind_some, Option.bind_none, Option.bind, Option.map, List.map_cons, List.map_nil, List.cons_append, List.nil_append, List.append_nil, List.length_cons, List.length_nil, Nat.reduceAdd, Nat.reduceSub, List.replicate_succ, List.replicate_zero, List.getElem?_cons_zero, List.getElem?_cons_succ, List.set_cons_zero, List.set_cons_succ, Int.cast_ofNat_Int, ne_eq, not_true_eq_false, not_false_eq_true, decide_false, decide_true, Int.reduceLT, Int.reduceLE, Int.reduceGT, Int.reduceGE, Int.reduceEq, Int.reduceNeg, Int.reduceAdd, Int.reduceSub, Int.reduceMul, if_true, if_false, reduceIte, Bool.false_eq_true, Bool.true_eq_false, Bool.not_true, Bool.not_false, Nat.zero_add, true_and, and_true, ite_true, ite_false, gAdd_int, gSub_int, gNeg_int, gLt_int, gLe_int, gGt_int, gGe_int, gIs_non, gLen_tup, gLen_lst, gLen_scr, gMax2_int, gMin2_int, gInt_int, gInt_bl, gAbs_int, gTuple_tup, gTuple_lst, gIn_tI, gIn_lI, gIsi_int, gIsi_bool, gIsi_tuple, gIsi_list, gIsi_str, isOb, isIntD, isBlD, isTupD, isLstD, isStrD, ht, el, h2]
  cases d with
  | tup ds => exact row ds (fun x hx => List.all_eq_true.mp (show ds.all (noOb 1) = true from h) x hx) (.inl rfl)
  | lst ds => exact row ds (fun x hx => List.all_eq_true.mp (show ds.all (noOb 1) = true from h) x hx) (.inr rfl)
  | scr ns => exact absurd rfl (hs ns)
  | ob C ns xs => cases ho
  | _ => simp only [G_check_seen, dIsi2, sSeq, sRet, sRetN, sExpr, sIf, sSet, sSetN, sAsg, sParM, sFor, sNx, sBk, sCt, sAug, sRz, sRm1, sRm2, sSetIx, sPutF, dV, dC, dOp, dUn, dLs, fz, nE, dB, dAnd, dOr, dNot, dAndV, dOrV, dNotV, dIf, dChI, dIsi, dCall, dCall0, dCallO, dCallO0, dMake, dMake0, dFld, dProp, dSlice, dLc, dMutL, pkE, pkT, rowD, oNone, oSome, aNil, aCons, aStar, mNil, mCons, putS, sOf, gN, gT, gsCons, gsNil, jSeq, jArg, seqD, rsO_some, rsO_none, out, startD, outO, startO, ocAt, olAt, frA, frS, lkN, putN, gTupD, gLstD, uApp, flatD, toV, tYesD, Rs.bind_eq, Rs.bind_ok, Rs.bind_er, Rs.bind_no, S.frz, OC.frz, OB.frz, Option.bind_some, Option.bind_none, Option.bind, Option.map, List.map_cons, List.map_nil, List.cons_append, List.nil_append, List.append_nil, List.length_cons, List.length_nil, Nat.reduceAdd, Nat.reduceSub, List.replicate_succ, List.replicate_zero, List.getElem?_cons_zero, List.getElem?_cons_succ, List.set_cons_zero, List.set_cons_succ, Int.cast_ofNat_Int, ne_eq, not_true_eq_false, not_false_eq_true, decide_false, decide_true, Int.reduceLT, Int.reduceLE, Int.reduceGT, Int.reduceGE, Int.reduceEq, Int.reduceNeg, Int.reduceAdd, Int.reduceSub, Int.reduceMul, if_true, if_false, reduceIte, Bool.false_eq_true, Bool.true_eq_false, Bool.not_true, Bool.not_false, Nat.zero_add, true_and, and_true, ite_true, ite_false, gAdd_int, gSub_int, gNeg_int, gLt_int, gLe_int, gGt_int, gGe_int, gIs_non, gLen_tup, gLen_lst, gLen_scr, gMax2_int, gMin2_int, gInt_int, gInt_bl, gAbs_int, gTuple_tup, gTuple_lst, gIn_tI, gIn_lI, gIsi_int, gIsi_bool, gIsi_tuple, gIsi_list, gIsi_str, isOb, isIntD, isBlD, isTupD, isLstD, isStrD, ht, isLstD, isTupD, Bool.or_false, seR]
/-- what was seen -/
abbrev seenD (p : Int × Bool) : D := .tup [.int p.1, .bl p.2]
structure SeenOk (seen : List (Int × Bool)) : Prop where
  len : seen.length ≤ 20
  rng : ∀ p ∈ seen, -far ≤ p.1 ∧ p.1 ≤ far
  few : (seen.filter fun p => !p.2).length ≤ 8
theorem seenBad_none : ∀ (seen : List (Int × Bool)) (k : Nat) (o : Int), (∀ p ∈ seen, -far ≤ p.1 ∧ p.1 ≤ far) → o + ((seen.filter fun p => !p.2).length : Nat) ≤ 8 → seenBad k o (seen.map seenD) = none
  | [], _, _, _, _ => rfl
  | p :: r, k, o, h, hl => by
    obtain ⟨n, b⟩ := p
    rw [List.map_cons]
    unfold seenBad
    have hp := h (n, b) (by simp)
    have e : isSeenD (seenD (n, b)) = true := by
      show (isFromD (.int n) (-far) far && true) = true
      rw [isFromD_of hp.1 hp.2]
      rfl
    rw [if_pos e]
    have eo : outI (seenD (n, b)) = if (!b) = true then 1 else 0 := rfl
    rw [eo]
    have hf : (((n, b) :: r).filter fun p => !p.2).length = (if (!b) = true then 1 else 0) + (r.filter fun p => !p.2).length := by cases b <;> simp <;> omega
    rw [hf] at hl
    have h2 : ((if (!b) = true then 1 else 0 : Nat) : Int) = if (!b) = true then 1 else 0 := by cases b <;> rfl
    rw [if_neg (by omega)]
    exact seenBad_none r _ _ (fun x hx => h x (by simp [hx])) (by omega)
theorem noOb_seen (seen : List (Int × Bool)) : (seen.map seenD).all (noOb 1) = true := by
  rw [List.all_map, List.all_eq_true]
  intro p _
  rfl
theorem F_check_seen_ok {seen : List (Int × Bool)} (h : SeenOk seen) {d : D} (hd : d = .tup (seen.map seenD) ∨ d = .lst (seen.map seenD)) : F_check_seen [d] = .ok (.d .non) := by
  have e : seenR (seen.map seenD) = .ok (.d .non) := by
    unfold seenR
    rw [if_pos (by rw [List.length_map]; exact h.len), seenBad_none seen 0 0 h.rng (by have := h.few; omega)]
  rcases hd with rfl | rfl
  · exact (F_check_seen_d (d := .tup (seen.map seenD)) (noOb_seen seen) (fun _ z => by cases z)).trans e
  · exact (F_check_seen_d (d := .lst (seen.map seenD)) (noOb_seen seen) (fun _ z => by cases z)).trans e
end RL

namespace RL
open PySem PySem.Spec PyProof.Rows L2
noncomputable def B_power_1 : FS := sSet 1 (fz (dOp gMul (dC (.int 2)) (dV 1)))
noncomputable def G_power : FS := sSeq (sSet 1 (dC (.int 1)))
 (sSeq (sFor (jArg rg1 (aCons (dV 0) (aNil))) (gN 2) (B_power_1))
 (sRet (dV 1)))
--FRZ
noncomputable def F_power : List D → Fr := autoF 1 3 G_power
theorem ok_power : ∀ (ds : List D), F_power ds ≠ .no → ds.length = 1 ∧ out (G_power (startD 3 ds)) = F_power ds := autoF_ok
theorem F_power_d {n : Nat} (h : n < 2 ^ 60) : F_power [.int (n : Nat)] = .ok (.d (.int (2 ^ n))) := by
  refine autoF_wp ?_
  unfold G_power
  refine wp_seq (by simp only [sSeq, sRet, sRetN, sExpr, sIf, sSet, sSetN, sAsg, sParM, sFor, sNx, sBk, sCt, sAug, sRz, sRm1, sRm2, sSetIx, sPutF, dV, dC, dOp, dUn, dLs, fz, nE, dB, dAnd, dOr, dNot, dAndV, dOrV, dNotV, dIf, dChI, dIsi, dCall, dCall0, dCallO, dCallO0, dMake, dMake0, dFld, dProp, dSlice, dLc, dMutL, pkE, pkT, rowD, oNone, oSome, aNil, aCons, aStar, mNil, mCons, putS, sOf, gN, gT, gsCons, gsNil, jSeq, jArg, seqD, rsO_some, rsO_none, out, startD, outO, startO, ocAt, olAt, frA, frS, lkN, putN, gTupD, gLstD, uApp, flatD, toV, tYesD, Rs.bind_eq, Rs.bind_ok, Rs.bind_er, Rs.bind_no, S.frz, OC.frz, OB.frz, Option.bind_some, Option.bind_none, Option.bind, Option.map, List.map_cons, List.map_nil, List.cons_append, List.nil_append, List.append_nil, List.length_cons, List.length_nil, Nat.reduceAdd, Nat.reduceSub, List.replicate_succ, List.replicate_zero, List.getElem?_cons_zero, List.getElem?_cons_succ, List.set_cons_zero, List.set_cons_succ, Int.cast_ofNat_Int, ne_eq, not_true_eq_false, not_false_eq_true, decide_false, decide_true, Int.reduceLT, Int.reduceLE, Int.reduceGT, Int.reduceGE, Int.reduceEq, Int.reduceNeg, Int.reduceAdd, Int.reduceSub, Int.reduceMul, if_true, if_false, reduceIte, Bool.false_eq_true, Bool.true_eq_false, Bool.not_true, Bool.not_false, Nat.zero_add, true_and, and_true, ite_true, ite_false, gAdd_int, gSub_int, gNeg_int, gLt_int, gLe_int, gGt_int, gGe_int, gIs_non, gLen_tup, gLen_lst, gLen_scr, gMax2_int, gMin2_int, gInt_int, gInt_bl, gAbs_int, gTuple_tup, gTuple_lst, gIn_tI, gIn_lI, gIsi_int, gIsi_bool, gIsi_tuple, gIsi_list, gIsi_str, isOb, isIntD, isBlD, isTupD, isLstD, isStrD]; rfl) ?_
  have key : ∀ m : Nat, (List.range m).foldl (fun b _ => 2 * b) (1 : Int) = 2 ^ m := fun m => by
    induction m with
    | zero => rfl
    | succ m ih => rw [List.range_succ, List.foldl_append, ih, List.foldl_cons, List.foldl_nil, Int.pow_succ, Int.mul_comm]
  refine wp_fold (items := List.range n) (fun t : Nat => D.int (0 + (t : Nat))) (fun b ρ => ∃ z, ρ = [some (.d (.int (n : Nat))), some (.d (.int b)), z]) (fun b _ => 2 * b) 1 (by simp only [sSeq, sRet, sRetN, sExpr, sIf, sSet, sSetN, sAsg, sParM, sFor, sNx, sBk, sCt, sAug, sRz, sRm1, sRm2, sSetIx, sPutF, dV, dC, dOp, dUn, dLs, fz, nE, dB, dAnd, dOr, dNot, dAndV, dOrV, dNotV, dIf, dChI, dIsi, dCall, dCall0, dCallO, dCallO0, dMake, dMake0, dFld, dProp, dSlice, dLc, dMutL, pkE, pkT, rowD, oNone, oSome, aNil, aCons, aStar, mNil, mCons, putS, sOf, gN, gT, gsCons, gsNil, jSeq, jArg, seqD, rsO_some, rsO_none, out, startD, outO, startO, ocAt, olAt, frA, frS, lkN, putN, gTupD, gLstD, uApp, flatD, toV, tYesD, Rs.bind_eq, Rs.bind_ok, Rs.bind_er, Rs.bind_no, S.frz, OC.frz, OB.frz, Option.bind_some, Option.bind_none, Option.bind, Option.map, List.map_cons, List.map_nil, List.cons_append, List.nil_append, List.append_nil, List.length_cons, List.length_nil, Nat.reduceAdd, Nat.reduceSub, List.replicate_succ, List.replicate_zero, List.getElem?_cons_zero, List.getElem?_cons_succ, List.set_cons_zero, List.set_cons_succ, Int.cast_ofNat_Int, ne_eq, not_true_eq_false, not_false_eq_true, decide_false, decide_true, Int.reduceLT, Int.reduceLE, Int.reduceGT, Int.reduceGE, Int.reduceEq, Int.reduceNeg, Int.reduceAdd, Int.reduceSub, Int.reduceMul, if_true, if_false, reduceIte, Bool.false_eq_true, Bool.true_eq_false, Bool.not_true, Bool.not_false, Nat.zero_add, true_and, and_true, ite_true, ite_false, gAdd_int, gSub_int, gNeg_int, gLt_int, gLe_int, gGt_int, gGe_int, gIs_non, gLen_tup, gLen_lst, gLen_scr, gMax2_int, gMin2_int, gInt_int, gInt_bl, gAbs_int, gTuple_tup, gTuple_lst, gIn_tI, gIn_lI, gIsi_int, gIsi_bool, gIsi_tuple, gIsi_list, gIsi_str, isOb, isIntD, isBlD, isTupD, isLstD, isStrD, rg1_int (j := (n : Nat)) (by omega)]; rfl) ⟨_, rfl⟩ ?_ ?_
  · rintro b t ρ _ ⟨z, rfl⟩
    exact ⟨_, rfl, wp_nx (by simp only [B_power_1, sSeq, sRet, sRetN, sExpr, sIf, sSet, sSetN, sAsg, sParM, sFor, sNx, sBk, sCt, sAug, sRz, sRm1, sRm2, sSetIx, sPutF, dV, dC, dOp, dUn, dLs, fz, nE, dB, dAnd, dOr, dNot, dAndV, dOrV, dNotV, dIf, dChI, dIsi, dCall, dCall0, dCallO, dCallO0, dMake, dMake0, dFld, dProp, dSlice, dLc, dMutL, pkE, pkT, rowD, oNone, oSome, aNil, aCons, aStar, mNil, mCons, putS, sOf, gN, gT, gsCons, gsNil, jSeq, jArg, seqD, rsO_some, rsO_none, out, startD, outO, startO, ocAt, olAt, frA, frS, lkN, putN, gTupD, gLstD, uApp, flatD, toV, tYesD, Rs.bind_eq, Rs.bind_ok, Rs.bind_er, Rs.bind_no, S.frz, OC.frz, OB.frz, Option.bind_some, Option.bind_none, Option.bind, Option.map, List.map_cons, List.map_nil, List.cons_append, List.nil_append, List.append_nil, List.length_cons, List.length_nil, Nat.reduceAdd, Nat.reduceSub, List.replicate_succ, List.replicate_zero, List.getElem?_cons_zero, List.getElem?_cons_succ, List.set_cons_zero, List.set_cons_succ, Int.cast_ofNat_Int, ne_eq, not_true_eq_false, not_false_eq_true, decide_false, decide_true, Int.reduceLT, Int.reduceLE, Int.reduceGT, Int.reduceGE, Int.reduceEq, Int.reduceNeg, Int.reduceAdd, Int.reduceSub, Int.reduceMul, if_true, if_false, reduceIte, Bool.false_eq_true, Bool.true_eq_false, Bool.not_true, Bool.not_false, Nat.zero_add, true_and, and_true, ite_true, ite_false, gAdd_int, gSub_int, gNeg_int, gLt_int, gLe_int, gGt_int, gGe_int, gIs_non, gLen_tup, gLen_lst, gLen_scr, gMax2_int, gMin2_int, gInt_int, gInt_bl, gAbs_int, gTuple_tup, gTuple_lst, gIn_tI, gIn_lI, gIsi_int, gIsi_bool, gIsi_tuple, gIsi_list, gIsi_str, isOb, isIntD, isBlD, isTupD, isLstD, isStrD, gMul_int (cMul_l (i := 2) (j := b) (by decide))]; rfl) ⟨_, rfl⟩⟩
  · rintro ρ ⟨z, rfl⟩
    rw [key]
    exact wp_rt (by simp only [sSeq, sRet, sRetN, sExpr, sIf, sSet, sSetN, sAsg, sParM, sFor, sNx, sBk, sCt, sAug, sRz, sRm1, sRm2, sSetIx, sPutF, dV, dC, dOp, dUn, dLs, fz, nE, dB, dAnd, dOr, dNot, dAndV, dOrV, dNotV, dIf, dChI, dIsi, dCall, dCall0, dCallO, dCallO0, dMake, dMake0, dFld, dProp, dSlice, dLc, dMutL, pkE, pkT, rowD, oNone, oSome, aNil, aCons, aStar, mNil, mCons, putS, sOf, gN, gT, gsCons, gsNil, jSeq, jArg, seqD, rsO_some, rsO_none, out, startD, outO, startO, ocAt, olAt, frA, frS, lkN, putN, gTupD, gLstD, uApp, flatD, toV, tYesD, Rs.bind_eq, Rs.bind_ok, Rs.bind_er, Rs.bind_no, S.frz, OC.frz, OB.frz, Option.bind_some, Option.bind_none, Option.bind, Option.map, List.map_cons, List.map_nil, List.cons_append, List.nil_append, List.append_nil, List.length_cons, List.length_nil, Nat.reduceAdd, Nat.reduceSub, List.replicate_succ, List.replicate_zero, List.getElem?_cons_zero, List.getElem?_cons_succ, List.set_cons_zero, List.set_cons_succ, Int.cast_ofNat_Int, ne_eq, not_true_eq_false, not_false_eq_true, decide_false, decide_true, Int.reduceLT, Int.reduceLE, Int.reduceGT, Int.reduceGE, Int.reduceEq, Int.reduceNeg, Int.reduceAdd, Int.reduceSub, Int.reduceMul, if_true, if_false, reduceIte, Bool.false_eq_true, Bool.true_eq_false, Bool.not_true, Bool.not_false, Nat.zero_add, true_and, and_true, ite_true, ite_false, gAdd_int, gSub_int, gNeg_int, gLt_int, gLe_int, gGt_int, gGe_int, gIs_non, gLen_tup, gLen_lst, gLen_scr, gMax2_int, gMin2_int, gInt_int, gInt_bl, gAbs_int, gTuple_tup, gTuple_lst, gIn_tI, gIn_lI, gIsi_int, gIsi_bool, gIsi_tuple, gIsi_list, gIsi_str, isOb, isIntD, isBlD, isTupD, isLstD, isStrD]; rfl)
end RL

namespace RL
open PySem PySem.Spec PyProof.Rows L2
noncomputable def E_rests_in_1 : FE := fz (dLs gTupD (aCons (dV 2) (aCons (fz (dOp gMod (dV 1) (dV 3))) (aNil))))
noncomputable def G_rests_in : FS := sRetN (dLc (jArg enumG (aCons (dV 0) (aNil))) (gT 2 (gsCons (gN 2) (gsCons (gN 3) (gsNil)))) (tYesD) (E_rests_in_1) [2, 3])
--FRZ
noncomputable def F_rests_in : List D → Fr := autoF 2 4 G_rests_in
theorem ok_rests_in : ∀ (ds : List D), F_rests_in ds ≠ .no → ds.length = 2 ∧ out (G_rests_in (startD 4 ds)) = F_rests_in ds := autoF_ok
theorem restF_eq (n : Int) : ∀ (ms : List Int) (k : Nat), (((List.range' k ms.length).zip ms).map fun p => tI [((p.1 : Nat) : Int), n % p.2]) = (restF k n ms).map tI
  | [], _ => rfl
  | m :: r, k => by
    rw [List.length_cons, List.range'_succ, List.zip_cons_cons, List.map_cons, restF_eq n r (k + 1)]
    rfl
theorem F_rests_in_d {ms : List Int} (n : Int) (h : MsOk ms) : F_rests_in [tI ms, .int n] = .ok (.o (oL ((restsOf ms n).map tI))) := by
  refine autoF_wp ?_
  have s4 : (4 : Nat) ≤ sizeLine := by decide
  have s2 : (2 : Nat) ≤ sizeLine := by decide
  have hl := h.len
  have ee : enumG [tI ms] = some (((List.range' 0 ms.length).zip ms).map fun p => D.tup [.int ((p.1 : Nat) : Int), .int p.2]) := by
    show some (enumD (ms.map D.int)) = _
    rw [enumD_eq, enumK_eq, List.length_map, List.zip_map_right, List.map_map]
    rfl
  have c := lcL_map (g := gT 2 (gsCons (gN 2) (gsCons (gN 3) (gsNil)))) (fe := E_rests_in_1) (vs := [2, 3]) (fun p : Nat × Int => D.tup [.int ((p.1 : Nat) : Int), .int p.2]) (fun p => tI [((p.1 : Nat) : Int), n % p.2]) [some (.d (tI ms)), some (.d (.int n)), none, none] ((List.range' 0 ms.length).zip ms) (by rw [List.length_zip]; omega)
    (fun p hp => by
      have m0 : 0 < p.2 := h.pos _ (List.of_mem_zip hp).2
      exact ⟨_, _, rfl, by simp only [E_rests_in_1, sSeq, sRet, sRetN, sExpr, sIf, sSet, sSetN, sAsg, sParM, sFor, sNx, sBk, sCt, sAug, sRz, sRm1, sRm2, sSetIx, sPutF, dV, dC, dOp, dUn, dLs, fz, nE, dB, dAnd, dOr, dNot, dAndV, dOrV, dNotV, dIf, dChI, dIsi, dCall, dCall0, dCallO, dCallO0, dMake, dMake0, dFld, dProp, dSlice, dLc, dMutL, pkE, pkT, rowD, oNone, oSome, aNil, aCons, aStar, mNil, mCons, putS, sOf, gN, gT, gsCons, gsNil, jSeq, jArg, seqD, rsO_some, rsO_none, out, startD, outO, startO, ocAt, olAt, frA, frS, lkN, putN, gTupD, gLstD, uApp, flatD, toV, tYesD, Rs.bind_eq, Rs.bind_ok, Rs.bind_er, Rs.bind_no, S.frz, OC.frz, OB.frz, Option.bind_some, Option.bind_none, Option.bind, Option.map, List.map_cons, List.map_nil, List.cons_append, List.nil_append, List.append_nil, List.length_cons, List.length_nil, Nat.reduceAdd, Nat.reduceSub, List.replicate_succ, List.replicate_zero, List.getElem?_cons_zero, List.getElem?_cons_succ, List.set_cons_zero, List.set_cons_succ, Int.cast_ofNat_Int, ne_eq, not_true_eq_false, not_false_eq_true, decide_false, decide_true, Int.reduceLT, Int.reduceLE, Int.reduceGT, Int.reduceGE, Int.reduceEq, Int.reduceNeg, Int.reduceAdd, Int.reduceSub, Int.reduceMul, if_true, if_false, reduceIte, Bool.false_eq_true, Bool.true_eq_false, Bool.not_true, Bool.not_false, Nat.zero_add, true_and, and_true, ite_true, ite_false, gAdd_int, gSub_int, gNeg_int, gLt_int, gLe_int, gGt_int, gGe_int, gIs_non, gLen_tup, gLen_lst, gLen_scr, gMax2_int, gMin2_int, gInt_int, gInt_bl, gAbs_int, gTuple_tup, gTuple_lst, gIn_tI, gIn_lI, gIsi_int, gIsi_bool, gIsi_tuple, gIsi_list, gIsi_str, isOb, isIntD, isBlD, isTupD, isLstD, isStrD, gMod_int m0, s2]; rfl, rfl⟩)
  rw [restF_eq] at c
  unfold G_rests_in
  exact wp_rt (by simp only [sSeq, sRet, sRetN, sExpr, sIf, sSet, sSetN, sAsg, sParM, sFor, sNx, sBk, sCt, sAug, sRz, sRm1, sRm2, sSetIx, sPutF, dV, dC, dOp, dUn, dLs, fz, nE, dB, dAnd, dOr, dNot, dAndV, dOrV, dNotV, dIf, dChI, dIsi, dCall, dCall0, dCallO, dCallO0, dMake, dMake0, dFld, dProp, dSlice, dLc, dMutL, pkE, pkT, rowD, oNone, oSome, aNil, aCons, aStar, mNil, mCons, putS, sOf, gN, gT, gsCons, gsNil, jSeq, jArg, seqD, rsO_some, rsO_none, out, startD, outO, startO, ocAt, olAt, frA, frS, lkN, putN, gTupD, gLstD, uApp, flatD, toV, tYesD, Rs.bind_eq, Rs.bind_ok, Rs.bind_er, Rs.bind_no, S.frz, OC.frz, OB.frz, Option.bind_some, Option.bind_none, Option.bind, Option.map, List.map_cons, List.map_nil, List.cons_append, List.nil_append, List.append_nil, List.length_cons, List.length_nil, Nat.reduceAdd, Nat.reduceSub, List.replicate_succ, List.replicate_zero, List.getElem?_cons_zero, List.getElem?_cons_succ, List.set_cons_zero, List.set_cons_succ, Int.cast_ofNat_Int, ne_eq, not_true_eq_false, not_false_eq_true, decide_false, decide_true, Int.reduceLT, Int.reduceLE, Int.reduceGT, Int.reduceGE, Int.reduceEq, Int.reduceNeg, Int.reduceAdd, Int.reduceSub, Int.reduceMul, if_true, if_false, reduceIte, Bool.false_eq_true, Bool.true_eq_false, Bool.not_true, Bool.not_false, Nat.zero_add, true_and, and_true, ite_true, ite_false, gAdd_int, gSub_int, gNeg_int, gLt_int, gLe_int, gGt_int, gGe_int, gIs_non, gLen_tup, gLen_lst, gLen_scr, gMax2_int, gMin2_int, gInt_int, gInt_bl, gAbs_int, gTuple_tup, gTuple_lst, gIn_tI, gIn_lI, gIsi_int, gIsi_bool, gIsi_tuple, gIsi_list, gIsi_str, isOb, isIntD, isBlD, isTupD, isLstD, isStrD, ee, wipeD, c]; rfl)
end RL

namespace RL
open PySem PySem.Spec PyProof.Rows L2
noncomputable def B_ways_1 : FS := sPutK 3 (dV 4) (dC (.bl true))
noncomputable def G_ways (F_ways : List D → Fr) : FS := sSeq (sIf (dB (fz (dOp gEq (dV 2) (fz (dLs gLstD (aNil)))))) (sRetN (dCall F_power (aCons (fz (dOp gSub (fz (dLs gSumT (aCons (dV 0) (aNil)))) (fz (dLs gLenT (aCons (dV 1) (aNil)))))) (aNil)))) (sNx))
 (sSeq (sSetN 3 (dLs gDict (aCons (dV 1) (aNil))))
 (sSeq (sFor (jSeq (fz (dCall F_rests_in (aCons (dV 0) (aCons (fz (dOp gIx (dV 2) (dC (.int 0)))) (aNil)))))) (gN 4) (B_ways_1))
 (sRet (pkE (fz (dOp gSub (fz (dCall F_ways (aCons (dV 0) (aCons (dV 1) (aCons (fz (dSlice gSl (dV 2) (oSome (dC (.int 1))) oNone)) (aNil)))))) (fz (dCall F_ways (aCons (dV 0) (aCons (dV 3) (aCons (fz (dSlice gSl (dV 2) (oSome (dC (.int 1))) oNone)) (aNil))))))))))))
--FRZ
--REC 9
--DICTT had
--DICTT with_one
--TT sum(moduli)
noncomputable def FR_ways : Nat → List D → Fr
  | 0 => fun _ => .no
  | n + 1 => autoF 3 5 (G_ways (FR_ways n))
noncomputable def F_ways : List D → Fr := FR_ways 9
theorem okR_ways (n : Nat) : ∀ (ds : List D), FR_ways (n + 1) ds ≠ .no → ds.length = 3 ∧ out (G_ways (FR_ways n) (startD 5 ds)) = FR_ways (n + 1) ds := autoF_ok
theorem way_step {s0 s1 s2 : Option S} : ∀ (l had : List Rst) (z4 : Option S), had.length + l.length < sizeLine → ∃ z4', forL (gN 4) B_ways_1 (l.map tI) [s0, s1, s2, some (.o ⟨none, .oT (kT had)⟩), z4] = .ok (.nx [s0, s1, s2, some (.o ⟨none, .oT (kT (l.foldl addT had))⟩), z4'])
  | [], had, z4, _ => ⟨z4, rfl⟩
  | x :: r, had, z4, hl => by
    rw [List.length_cons] at hl
    have h2 : (addT had x).length ≤ had.length + 1 := by unfold addT; split <;> simp
    obtain ⟨z4', ih⟩ := way_step (s0 := s0) (s1 := s1) (s2 := s2) r (addT had x) (some (.d (tI x))) (by omega)
    refine ⟨z4', ?_⟩
    rw [List.map_cons]
    refine (forL_cons rfl ?_).trans ih
    have hk : (kT had).length < sizeLine := by unfold kT; rw [List.length_map]; omega
    have ea := asTup_tI x
    rw [← putK_T]
    simp only [B_ways_1, sPutK, sSeq, sRet, sRetN, sExpr, sIf, sSet, sSetN, sAsg, sParM, sFor, sNx, sBk, sCt, sAug, sRz, sRm1, sRm2, sSetIx, sPutF, dV, dC, dOp, dUn, dLs, fz, nE, dB, dAnd, dOr, dNot, dAndV, dOrV, dNotV, dIf, dChI, dIsi, dCall, dCall0, dCallO, dCallO0, dMake, dMake0, dFld, dProp, dSlice, dLc, dMutL, pkE, pkT, rowD, oNone, oSome, aNil, aCons, aStar, mNil, mCons, putS, sOf, gN, gT, gsCons, gsNil, jSeq, jArg, seqD, rsO_some, rsO_none, out, startD, outO, startO, ocAt, olAt, frA, frS, lkN, putN, gTupD, gLstD, uApp, flatD, toV, tYesD, Rs.bind_eq, Rs.bind_ok, Rs.bind_er, Rs.bind_no, S.frz, OC.frz, OB.frz, Option.bind_some, Option.bind_none, Option.bind, Option.map, List.map_cons, List.map_nil, List.cons_append, List.nil_append, List.append_nil, List.length_cons, List.length_nil, Nat.reduceAdd, Nat.reduceSub, List.replicate_succ, List.replicate_zero, List.getElem?_cons_zero, List.getElem?_cons_succ, List.set_cons_zero, List.set_cons_succ, Int.cast_ofNat_Int, ne_eq, not_true_eq_false, not_false_eq_true, decide_false, decide_true, Int.reduceLT, Int.reduceLE, Int.reduceGT, Int.reduceGE, Int.reduceEq, Int.reduceNeg, Int.reduceAdd, Int.reduceSub, Int.reduceMul, if_true, if_false, reduceIte, Bool.false_eq_true, Bool.true_eq_false, Bool.not_true, Bool.not_false, Nat.zero_add, true_and, and_true, ite_true, ite_false, gAdd_int, gSub_int, gNeg_int, gLt_int, gLe_int, gGt_int, gGe_int, gIs_non, gLen_tup, gLen_lst, gLen_scr, gMax2_int, gMin2_int, gInt_int, gInt_bl, gAbs_int, gTuple_tup, gTuple_lst, gIn_tI, gIn_lI, gIsi_int, gIsi_bool, gIsi_tuple, gIsi_list, gIsi_str, isOb, isIntD, isBlD, isTupD, isLstD, isStrD, ea, hk, and_self] <;> rfl
theorem FR_ways_d {ms : List Int} (h : MsOk ms) : ∀ (out : List Int) (k : Nat) (had : List Rst), Had ms had → out.length < k → FR_ways k [tI ms, dTs had, lI out] = .ok (.d (.int (wayS ms had out)))
  | [], 0, _, _, hk => absurd hk (by simp)
  | _ :: _, 0, _, _, hk => absurd hk (by simp)
  | [], k + 1, had, hh, _ => by
    refine (autoF_at).trans ?_
    have s0 : (0 : Nat) ≤ sizeLine := Nat.zero_le _
    obtain ⟨hu, hu2⟩ := h.univ_len
    have hl := hh.len
    have e1 : gEq (lI []) (.lst []) = some (.d (.bl true)) := (gEq_lI [] []).trans (by simp)
    have e2 : gLenT [dTs had] = some (.d (.int (had.length : Nat))) := by
      show some (S.d (.int ((kT had).length : Nat))) = _
      unfold kT
      rw [List.length_map]
    have e3 : ms.sum - ((had.length : Nat) : Int) = (((univ ms).length - had.length : Nat) : Int) := by omega
    have e4 := F_power_d (n := (univ ms).length - had.length) (by omega)
    unfold wayS
    simp only [G_ways, sSeq, sRet, sRetN, sExpr, sIf, sSet, sSetN, sAsg, sParM, sFor, sNx, sBk, sCt, sAug, sRz, sRm1, sRm2, sSetIx, sPutF, dV, dC, dOp, dUn, dLs, fz, nE, dB, dAnd, dOr, dNot, dAndV, dOrV, dNotV, dIf, dChI, dIsi, dCall, dCall0, dCallO, dCallO0, dMake, dMake0, dFld, dProp, dSlice, dLc, dMutL, pkE, pkT, rowD, oNone, oSome, aNil, aCons, aStar, mNil, mCons, putS, sOf, gN, gT, gsCons, gsNil, jSeq, jArg, seqD, rsO_some, rsO_none, out, startD, outO, startO, ocAt, olAt, frA, frS, lkN, putN, gTupD, gLstD, uApp, flatD, toV, tYesD, Rs.bind_eq, Rs.bind_ok, Rs.bind_er, Rs.bind_no, S.frz, OC.frz, OB.frz, Option.bind_some, Option.bind_none, Option.bind, Option.map, List.map_cons, List.map_nil, List.cons_append, List.nil_append, List.append_nil, List.length_cons, List.length_nil, Nat.reduceAdd, Nat.reduceSub, List.replicate_succ, List.replicate_zero, List.getElem?_cons_zero, List.getElem?_cons_succ, List.set_cons_zero, List.set_cons_succ, Int.cast_ofNat_Int, ne_eq, not_true_eq_false, not_false_eq_true, decide_false, decide_true, Int.reduceLT, Int.reduceLE, Int.reduceGT, Int.reduceGE, Int.reduceEq, Int.reduceNeg, Int.reduceAdd, Int.reduceSub, Int.reduceMul, if_true, if_false, reduceIte, Bool.false_eq_true, Bool.true_eq_false, Bool.not_true, Bool.not_false, Nat.zero_add, true_and, and_true, ite_true, ite_false, gAdd_int, gSub_int, gNeg_int, gLt_int, gLe_int, gGt_int, gGe_int, gIs_non, gLen_tup, gLen_lst, gLen_scr, gMax2_int, gMin2_int, gInt_int, gInt_bl, gAbs_int, gTuple_tup, gTuple_lst, gIn_tI, gIn_lI, gIsi_int, gIsi_bool, gIsi_tuple, gIsi_list, gIsi_str, isOb, isIntD, isBlD, isTupD, isLstD, isStrD, s0, e1, gSumT_ints, e2, e3, e4]
  | x :: o, k + 1, had, hh, hk => by
    refine (autoF_at).trans ?_
    have s0 : (0 : Nat) ≤ sizeLine := Nat.zero_le _
    have s1 : (200 : Nat) < sizeLine := by decide
    rw [List.length_cons] at hk
    have hh2 : Had ms ((restsOf ms x).foldl addT had) := hh.fold fun y hy => rests_univ h.pos hy
    have i1 := FR_ways_d h o k had hh (by omega)
    have i2 := FR_ways_d h o k _ hh2 (by omega)
    obtain ⟨hu, hu2⟩ := h.univ_len
    have hl := hh.len
    have hl2 := restsOf_len ms x
    have hm := h.len
    have e1 : gEq (lI (x :: o)) (.lst []) = some (.d (.bl false)) := (gEq_lI (x :: o) []).trans (by simp)
    have e2 : gDict [dTs had] = some (.o ⟨none, .oT (kT had)⟩) := if_pos (hash_ok h hh)
    have e3 : gIx (lI (x :: o)) (.int 0) = some (.d (.int x)) := gIx_lst (atI_nat (j := 0) rfl)
    have e4 : gSl (lI (x :: o)) (some 1) none = some (.o (oL (o.map .int))) := gSl_lfrom _ 1
    obtain ⟨z4, e5⟩ := way_step (s0 := some (.d (tI ms))) (s1 := some (.d (dTs had))) (s2 := some (.d (lI (x :: o)))) (restsOf ms x) had none (by omega)
    unfold wayS
    cases z4 with
    | none => simp only [G_ways, sSeq, sRet, sRetN, sExpr, sIf, sSet, sSetN, sAsg, sParM, sFor, sNx, sBk, sCt, sAug, sRz, sRm1, sRm2, sSetIx, sPutF, dV, dC, dOp, dUn, dLs, fz, nE, dB, dAnd, dOr, dNot, dAndV, dOrV, dNotV, dIf, dChI, dIsi, dCall, dCall0, dCallO, dCallO0, dMake, dMake0, dFld, dProp, dSlice, dLc, dMutL, pkE, pkT, rowD, oNone, oSome, aNil, aCons, aStar, mNil, mCons, putS, sOf, gN, gT, gsCons, gsNil, jSeq, jArg, seqD, rsO_some, rsO_none, out, startD, outO, startO, ocAt, olAt, frA, frS, lkN, putN, gTupD, gLstD, uApp, flatD, toV, tYesD, Rs.bind_eq, Rs.bind_ok, Rs.bind_er, Rs.bind_no, S.frz, OC.frz, OB.frz, Option.bind_some, Option.bind_none, Option.bind, Option.map, List.map_cons, List.map_nil, List.cons_append, List.nil_append, List.append_nil, List.length_cons, List.length_nil, Nat.reduceAdd, Nat.reduceSub, List.replicate_succ, List.replicate_zero, List.getElem?_cons_zero, List.getElem?_cons_succ, List.set_cons_zero, List.set_cons_succ, Int.cast_ofNat_Int, ne_eq, not_true_eq_false, not_false_eq_true, decide_false, decide_true, Int.reduceLT, Int.reduceLE, Int.reduceGT, Int.reduceGE, Int.reduceEq, Int.reduceNeg, Int.reduceAdd, Int.reduceSub, Int.reduceMul, if_true, if_false, reduceIte, Bool.false_eq_true, Bool.true_eq_false, Bool.not_true, Bool.not_false, Nat.zero_add, true_and, and_true, ite_true, ite_false, gAdd_int, gSub_int, gNeg_int, gLt_int, gLe_int, gGt_int, gGe_int, gIs_non, gLen_tup, gLen_lst, gLen_scr, gMax2_int, gMin2_int, gInt_int, gInt_bl, gAbs_int, gTuple_tup, gTuple_lst, gIn_tI, gIn_lI, gIsi_int, gIsi_bool, gIsi_tuple, gIsi_list, gIsi_str, isOb, isIntD, isBlD, isTupD, isLstD, isStrD, s0, e1, e2, e3, F_rests_in_d x h, e5, e4, i1, i2]
    | some z =>
      cases z with
      | d z => simp only [G_ways, sSeq, sRet, sRetN, sExpr, sIf, sSet, sSetN, sAsg, sParM, sFor, sNx, sBk, sCt, sAug, sRz, sRm1, sRm2, sSetIx, sPutF, dV, dC, dOp, dUn, dLs, fz, nE, dB, dAnd, dOr, dNot, dAndV, dOrV, dNotV, dIf, dChI, dIsi, dCall, dCall0, dCallO, dCallO0, dMake, dMake0, dFld, dProp, dSlice, dLc, dMutL, pkE, pkT, rowD, oNone, oSome, aNil, aCons, aStar, mNil, mCons, putS, sOf, gN, gT, gsCons, gsNil, jSeq, jArg, seqD, rsO_some, rsO_none, out, startD, outO, startO, ocAt, olAt, frA, frS, lkN, putN, gTupD, gLstD, uApp, flatD, toV, tYesD, Rs.bind_eq, Rs.bind_ok, Rs.bind_er, Rs.bind_no, S.frz, OC.frz, OB.frz, Option.bind_some, Option.bind_none, Option.bind, Option.map, List.map_cons, List.map_nil, List.cons_append, List.nil_append, List.append_nil, List.length_cons, List.length_nil, Nat.reduceAdd, Nat.reduceSub, List.replicate_succ, List.replicate_zero, List.getElem?_cons_zero, List.getElem?_cons_succ, List.set_cons_zero, List.set_cons_succ, Int.cast_ofNat_Int, ne_eq, not_true_eq_false, not_false_eq_true, decide_false, decide_true, Int.reduceLT, Int.reduceLE, Int.reduceGT, Int.reduceGE, Int.reduceEq, Int.reduceNeg, Int.reduceAdd, Int.reduceSub, Int.reduceMul, if_true, if_false, reduceIte, Bool.false_eq_true, Bool.true_eq_false, Bool.not_true, Bool.not_false, Nat.zero_add, true_and, and_true, ite_true, ite_false, gAdd_int, gSub_int, gNeg_int, gLt_int, gLe_int, gGt_int, gGe_int, gIs_non, gLen_tup, gLen_lst, gLen_scr, gMax2_int, gMin2_int, gInt_int, gInt_bl, gAbs_int, gTuple_tup, gTuple_lst, gIn_tI, gIn_lI, gIsi_int, gIsi_bool, gIsi_tuple, gIsi_list, gIsi_str, isOb, isIntD, isBlD, isTupD, isLstD, isStrD, s0, e1, e2, e3, F_rests_in_d x h, e5, e4, i1, i2]
      | o c => simp only [G_ways, sSeq, sRet, sRetN, sExpr, sIf, sSet, sSetN, sAsg, sParM, sFor, sNx, sBk, sCt, sAug, sRz, sRm1, sRm2, sSetIx, sPutF, dV, dC, dOp, dUn, dLs, fz, nE, dB, dAnd, dOr, dNot, dAndV, dOrV, dNotV, dIf, dChI, dIsi, dCall, dCall0, dCallO, dCallO0, dMake, dMake0, dFld, dProp, dSlice, dLc, dMutL, pkE, pkT, rowD, oNone, oSome, aNil, aCons, aStar, mNil, mCons, putS, sOf, gN, gT, gsCons, gsNil, jSeq, jArg, seqD, rsO_some, rsO_none, out, startD, outO, startO, ocAt, olAt, frA, frS, lkN, putN, gTupD, gLstD, uApp, flatD, toV, tYesD, Rs.bind_eq, Rs.bind_ok, Rs.bind_er, Rs.bind_no, S.frz, OC.frz, OB.frz, Option.bind_some, Option.bind_none, Option.bind, Option.map, List.map_cons, List.map_nil, List.cons_append, List.nil_append, List.append_nil, List.length_cons, List.length_nil, Nat.reduceAdd, Nat.reduceSub, List.replicate_succ, List.replicate_zero, List.getElem?_cons_zero, List.getElem?_cons_succ, List.set_cons_zero, List.set_cons_succ, Int.cast_ofNat_Int, ne_eq, not_true_eq_false, not_false_eq_true, decide_false, decide_true, Int.reduceLT, Int.reduceLE, Int.reduceGT, Int.reduceGE, Int.reduceEq, Int.reduceNeg, Int.reduceAdd, Int.reduceSub, Int.reduceMul, if_true, if_false, reduceIte, Bool.false_eq_true, Bool.true_eq_false, Bool.not_true, Bool.not_false, Nat.zero_add, true_and, and_true, ite_true, ite_false, gAdd_int, gSub_int, gNeg_int, gLt_int, gLe_int, gGt_int, gGe_int, gIs_non, gLen_tup, gLen_lst, gLen_scr, gMax2_int, gMin2_int, gInt_int, gInt_bl, gAbs_int, gTuple_tup, gTuple_lst, gIn_tI, gIn_lI, gIsi_int, gIsi_bool, gIsi_tuple, gIsi_list, gIsi_str, isOb, isIntD, isBlD, isTupD, isLstD, isStrD, s0, e1, e2, e3, F_rests_in_d x h, e5, e4, i1, i2]
theorem F_ways_d {ms : List Int} {had : List Rst} {out : List Int} (h : MsOk ms) (hh : Had ms had) (ho : out.length ≤ 8) : F_ways [tI ms, dTs had, lI out] = .ok (.d (.int (wayS ms had out))) := FR_ways_d h out 9 had hh (by omega)
end RL

namespace RL
open PySem PySem.Spec PyProof.Rows L2
noncomputable def C_had_by_1 : FT := dB (dV 3)
noncomputable def J_had_by_1 : FI := jSeq (fz (dCall0 F_rests_in (aCons (dV 0) (aCons (dV 2) (aNil)))))
noncomputable def E_had_by_1 : FE := dV 4
noncomputable def G_had_by : FS := sRetN (dDcT2 (jSeq (dV 1)) (gT 2 (gsCons (gN 2) (gsCons (gN 3) (gsNil)))) (C_had_by_1) (J_had_by_1) (gN 4) (tYesD) (E_had_by_1) (dC (.bl true)) [2, 3, 4] [4])
--FRZ
--DICTT *
noncomputable def F_had_by : List D → Fr := autoF 2 5 G_had_by
theorem ok_had_by : ∀ (ds : List D), F_had_by ds ≠ .no → ds.length = 2 ∧ out (G_had_by (startD 5 ds)) = F_had_by ds := autoF_ok
/-- the rests that all numbers that fit leave -/
def hadBy (ms : List Int) (seen : List (Int × Bool)) : List Rst := (seen.filter (·.2)).foldl (fun acc p => (restsOf ms p.1).foldl addT acc) []
theorem dcLT_T {g : FG} {fk : FE} {vs : List Nat} {ρ : Sl} : ∀ (l nss : List Rst), nss.length + l.length ≤ sizeLine → (∀ x ∈ l, ∃ ρ1 ρ2, g (tI x) ρ = some ρ1 ∧ fk ρ1 = .ok (tI x, ρ2) ∧ wipeD ρ2 vs = ρ) →
    dcLT g tYesD fk (dC (.bl true)) vs (l.map tI) ρ (kT nss) = .ok (kT (l.foldl addT nss), ρ)
  | [], _, _, _ => rfl
  | x :: r, nss, hl, h => by
    obtain ⟨ρ1, ρ2, h1, h2, h3⟩ := h x (by simp)
    rw [List.length_cons] at hl
    have ha : (addT nss x).length ≤ nss.length + 1 := by unfold addT; split <;> simp
    have hk : (kT nss).length < sizeLine := by unfold kT; rw [List.length_map]; omega
    rw [List.map_cons]
    unfold dcLT
    rw [h1]
    dsimp only [tYesD]
    rw [if_pos rfl, h2]
    dsimp only
    rw [asTup_tI]
    dsimp only [dC]
    rw [if_pos ⟨rfl, hk⟩, h3]
    show dcLT g tYesD fk (dC (.bl true)) vs (r.map tI) ρ (putK (kT nss) (x.map .inl) (.bl true)) = _
    rw [putK_T, dcLT_T r (addT nss x) (by omega) fun y hy => h y (by simp [hy])]
    rfl
theorem foldT_len : ∀ (l nss : List Rst), (l.foldl addT nss).length ≤ nss.length + l.length
  | [], _ => Nat.le_refl _
  | a :: r, nss => by
    have h1 := foldT_len r (addT nss a)
    have h2 : (addT nss a).length ≤ nss.length + 1 := by unfold addT; split <;> simp
    rw [List.foldl_cons, List.length_cons]
    omega
theorem hb_loop {ms : List Int} (h : MsOk ms) {d1 : D} : ∀ (seen : List (Int × Bool)) (nss : List Rst), nss.length + 4 * seen.length ≤ sizeLine →
    dcT2 (gT 2 (gsCons (gN 2) (gsCons (gN 3) (gsNil)))) C_had_by_1 J_had_by_1 (gN 4) tYesD E_had_by_1 (dC (.bl true)) [2, 3, 4] [4] (seen.map seenD) [some (.d (tI ms)), some (.d d1), none, none, none] (kT nss) =
      .ok (kT ((seen.filter (·.2)).foldl (fun acc p => (restsOf ms p.1).foldl addT acc) nss), [some (.d (tI ms)), some (.d d1), none, none, none])
  | [], _, _ => rfl
  | (n, b) :: r, nss, hl => by
    rw [List.length_cons] at hl
    rw [List.map_cons]
    unfold dcT2
    have h1 : C_had_by_1 [some (.d (tI ms)), some (.d d1), some (.d (.int n)), some (.d (.bl b)), none] = .ok (b, [some (.d (tI ms)), some (.d d1), some (.d (.int n)), some (.d (.bl b)), none]) := by simp only [C_had_by_1, sSeq, sRet, sRetN, sExpr, sIf, sSet, sSetN, sAsg, sParM, sFor, sNx, sBk, sCt, sAug, sRz, sRm1, sRm2, sSetIx, sPutF, dV, dC, dOp, dUn, dLs, fz, nE, dB, dAnd, dOr, dNot, dAndV, dOrV, dNotV, dIf, dChI, dIsi, dCall, dCall0, dCallO, dCallO0, dMake, dMake0, dFld, dProp, dSlice, dLc, dMutL, pkE, pkT, rowD, oNone, oSome, aNil, aCons, aStar, mNil, mCons, putS, sOf, gN, gT, gsCons, gsNil, jSeq, jArg, seqD, rsO_some, rsO_none, out, startD, outO, startO, ocAt, olAt, frA, frS, lkN, putN, gTupD, gLstD, uApp, flatD, toV, tYesD, Rs.bind_eq, Rs.bind_ok, Rs.bind_er, Rs.bind_no, S.frz, OC.frz, OB.frz, Option.bind_some, Option.bind_none, Option.bind, Option.map, List.map_cons, List.map_nil, List.cons_append, List.nil_append, List.append_nil, List.length_cons, List.length_nil, Nat.reduceAdd, Nat.reduceSub, List.replicate_succ, List.replicate_zero, List.getElem?_cons_zero, List.getElem?_cons_succ, List.set_cons_zero, List.set_cons_succ, Int.cast_ofNat_Int, ne_eq, not_true_eq_false, not_false_eq_true, decide_false, decide_true, Int.reduceLT, Int.reduceLE, Int.reduceGT, Int.reduceGE, Int.reduceEq, Int.reduceNeg, Int.reduceAdd, Int.reduceSub, Int.reduceMul, if_true, if_false, reduceIte, Bool.false_eq_true, Bool.true_eq_false, Bool.not_true, Bool.not_false, Nat.zero_add, true_and, and_true, ite_true, ite_false, gAdd_int, gSub_int, gNeg_int, gLt_int, gLe_int, gGt_int, gGe_int, gIs_non, gLen_tup, gLen_lst, gLen_scr, gMax2_int, gMin2_int, gInt_int, gInt_bl, gAbs_int, gTuple_tup, gTuple_lst, gIn_tI, gIn_lI, gIsi_int, gIsi_bool, gIsi_tuple, gIsi_list, gIsi_str, isOb, isIntD, isBlD, isTupD, isLstD, isStrD]
    have hg : gT 2 (gsCons (gN 2) (gsCons (gN 3) (gsNil))) (seenD (n, b)) [some (.d (tI ms)), some (.d d1), none, none, none] = some [some (.d (tI ms)), some (.d d1), some (.d (.int n)), some (.d (.bl b)), none] := rfl
    rw [hg]
    dsimp only
    rw [h1]
    dsimp only
    have hle := restsOf_len ms n
    have hm := h.len
    cases b with
    | false =>
      rw [if_neg (by decide)]
      exact hb_loop h r nss (by omega)
    | true =>
      rw [if_pos rfl]
      have h2 : J_had_by_1 [some (.d (tI ms)), some (.d d1), some (.d (.int n)), some (.d (.bl true)), none] = .ok ((restsOf ms n).map tI, [some (.d (tI ms)), some (.d d1), some (.d (.int n)), some (.d (.bl true)), none]) := by simp only [J_had_by_1, sSeq, sRet, sRetN, sExpr, sIf, sSet, sSetN, sAsg, sParM, sFor, sNx, sBk, sCt, sAug, sRz, sRm1, sRm2, sSetIx, sPutF, dV, dC, dOp, dUn, dLs, fz, nE, dB, dAnd, dOr, dNot, dAndV, dOrV, dNotV, dIf, dChI, dIsi, dCall, dCall0, dCallO, dCallO0, dMake, dMake0, dFld, dProp, dSlice, dLc, dMutL, pkE, pkT, rowD, oNone, oSome, aNil, aCons, aStar, mNil, mCons, putS, sOf, gN, gT, gsCons, gsNil, jSeq, jArg, seqD, rsO_some, rsO_none, out, startD, outO, startO, ocAt, olAt, frA, frS, lkN, putN, gTupD, gLstD, uApp, flatD, toV, tYesD, Rs.bind_eq, Rs.bind_ok, Rs.bind_er, Rs.bind_no, S.frz, OC.frz, OB.frz, Option.bind_some, Option.bind_none, Option.bind, Option.map, List.map_cons, List.map_nil, List.cons_append, List.nil_append, List.append_nil, List.length_cons, List.length_nil, Nat.reduceAdd, Nat.reduceSub, List.replicate_succ, List.replicate_zero, List.getElem?_cons_zero, List.getElem?_cons_succ, List.set_cons_zero, List.set_cons_succ, Int.cast_ofNat_Int, ne_eq, not_true_eq_false, not_false_eq_true, decide_false, decide_true, Int.reduceLT, Int.reduceLE, Int.reduceGT, Int.reduceGE, Int.reduceEq, Int.reduceNeg, Int.reduceAdd, Int.reduceSub, Int.reduceMul, if_true, if_false, reduceIte, Bool.false_eq_true, Bool.true_eq_false, Bool.not_true, Bool.not_false, Nat.zero_add, true_and, and_true, ite_true, ite_false, gAdd_int, gSub_int, gNeg_int, gLt_int, gLe_int, gGt_int, gGe_int, gIs_non, gLen_tup, gLen_lst, gLen_scr, gMax2_int, gMin2_int, gInt_int, gInt_bl, gAbs_int, gTuple_tup, gTuple_lst, gIn_tI, gIn_lI, gIsi_int, gIsi_bool, gIsi_tuple, gIsi_list, gIsi_str, isOb, isIntD, isBlD, isTupD, isLstD, isStrD, F_rests_in_d n h]
      rw [h2]
      dsimp only
      have h3 := dcLT_T (g := gN 4) (fk := E_had_by_1) (vs := [4]) (ρ := [some (.d (tI ms)), some (.d d1), some (.d (.int n)), some (.d (.bl true)), none]) (restsOf ms n) nss (by omega) (fun x _ => ⟨_, _, rfl, rfl, rfl⟩)
      have h4 : wipeD [some (.d (tI ms)), some (.d d1), some (.d (.int n)), some (.d (.bl true)), none] [4] = [some (.d (tI ms)), some (.d d1), some (.d (.int n)), some (.d (.bl true)), none] := rfl
      rw [h4, h3]
      dsimp only
      have := foldT_len (restsOf ms n) nss
      exact hb_loop h r _ (by omega)
theorem F_had_by_d {ms : List Int} {seen : List (Int × Bool)} (h : MsOk ms) (hs : SeenOk seen) {d : D} (hd : d = .tup (seen.map seenD) ∨ d = .lst (seen.map seenD)) : F_had_by [tI ms, d] = .ok (.o ⟨none, .oT (kT (hadBy ms seen))⟩) := by
  refine autoF_wp ?_
  have s4 : (100 : Nat) ≤ sizeLine := by decide
  have hl := hs.len
  have c := hb_loop h (d1 := d) seen [] (by simp; omega)
  have c : dcT2 (gT 2 (gsCons (gN 2) (gsCons (gN 3) (gsNil)))) C_had_by_1 J_had_by_1 (gN 4) tYesD E_had_by_1 (dC (.bl true)) [2, 3, 4] [4] (seen.map seenD) [some (.d (tI ms)), some (.d d), none, none, none] [] = .ok (kT (hadBy ms seen), [some (.d (tI ms)), some (.d d), none, none, none]) := c
  unfold G_had_by
  rcases hd with rfl | rfl <;> exact wp_rt (by simp only [dDcT2, sSeq, sRet, sRetN, sExpr, sIf, sSet, sSetN, sAsg, sParM, sFor, sNx, sBk, sCt, sAug, sRz, sRm1, sRm2, sSetIx, sPutF, dV, dC, dOp, dUn, dLs, fz, nE, dB, dAnd, dOr, dNot, dAndV, dOrV, dNotV, dIf, dChI, dIsi, dCall, dCall0, dCallO, dCallO0, dMake, dMake0, dFld, dProp, dSlice, dLc, dMutL, pkE, pkT, rowD, oNone, oSome, aNil, aCons, aStar, mNil, mCons, putS, sOf, gN, gT, gsCons, gsNil, jSeq, jArg, seqD, rsO_some, rsO_none, out, startD, outO, startO, ocAt, olAt, frA, frS, lkN, putN, gTupD, gLstD, uApp, flatD, toV, tYesD, Rs.bind_eq, Rs.bind_ok, Rs.bind_er, Rs.bind_no, S.frz, OC.frz, OB.frz, Option.bind_some, Option.bind_none, Option.bind, Option.map, List.map_cons, List.map_nil, List.cons_append, List.nil_append, List.append_nil, List.length_cons, List.length_nil, Nat.reduceAdd, Nat.reduceSub, List.replicate_succ, List.replicate_zero, List.getElem?_cons_zero, List.getElem?_cons_succ, List.set_cons_zero, List.set_cons_succ, Int.cast_ofNat_Int, ne_eq, not_true_eq_false, not_false_eq_true, decide_false, decide_true, Int.reduceLT, Int.reduceLE, Int.reduceGT, Int.reduceGE, Int.reduceEq, Int.reduceNeg, Int.reduceAdd, Int.reduceSub, Int.reduceMul, if_true, if_false, reduceIte, Bool.false_eq_true, Bool.true_eq_false, Bool.not_true, Bool.not_false, Nat.zero_add, true_and, and_true, ite_true, ite_false, gAdd_int, gSub_int, gNeg_int, gLt_int, gLe_int, gGt_int, gGe_int, gIs_non, gLen_tup, gLen_lst, gLen_scr, gMax2_int, gMin2_int, gInt_int, gInt_bl, gAbs_int, gTuple_tup, gTuple_lst, gIn_tI, gIn_lI, gIsi_int, gIsi_bool, gIsi_tuple, gIsi_list, gIsi_str, isOb, isIntD, isBlD, isTupD, isLstD, isStrD, wipeD, c] <;> rfl)
theorem had_ok {ms : List Int} {seen : List (Int × Bool)} (h : MsOk ms) : Had ms (hadBy ms seen) := by
  unfold hadBy
  have key : ∀ (l : List (Int × Bool)) (nss : List Rst), Had ms nss → Had ms (l.foldl (fun acc p => (restsOf ms p.1).foldl addT acc) nss) := by
    intro l
    induction l with
    | nil => exact fun _ h => h
    | cons p r ih => exact fun nss hn => ih _ (hn.fold fun x hx => rests_univ h.pos hx)
  exact key _ _ (Had.nil ms)
end RL

namespace RL
open PySem PySem.Spec PyProof.Rows L2
noncomputable def C_out_of_1 : FT := dNot (dB (dV 2))
noncomputable def E_out_of_1 : FE := dV 1
noncomputable def G_out_of : FS := sRetN (dLc (jSeq (dV 0)) (gT 2 (gsCons (gN 1) (gsCons (gN 2) (gsNil)))) (C_out_of_1) (E_out_of_1) [1, 2])
--FRZ
noncomputable def F_out_of : List D → Fr := autoF 1 3 G_out_of
theorem ok_out_of : ∀ (ds : List D), F_out_of ds ≠ .no → ds.length = 1 ∧ out (G_out_of (startD 3 ds)) = F_out_of ds := autoF_ok
/-- the numbers that do not fit -/
def outsL (seen : List (Int × Bool)) : List Int := (seen.filter fun p => !p.2).map (·.1)
theorem F_out_of_d {seen : List (Int × Bool)} (h : SeenOk seen) {d : D} (hd : d = .tup (seen.map seenD) ∨ d = .lst (seen.map seenD)) : F_out_of [d] = .ok (.o (oL ((outsL seen).map .int))) := by
  refine autoF_wp ?_
  have s4 : (20 : Nat) ≤ sizeLine := by decide
  have hl := h.len
  have c := lcL_pure (g := gT 2 (gsCons (gN 1) (gsCons (gN 2) (gsNil)))) (ft := C_out_of_1) (fe := E_out_of_1) (vs := [1, 2]) seenD (fun p => !p.2) (fun p => D.int p.1) [some (.d d), none, none] seen [] (by simp; omega)
    (fun p _ => ⟨_, _, rfl, by simp only [C_out_of_1, sSeq, sRet, sRetN, sExpr, sIf, sSet, sSetN, sAsg, sParM, sFor, sNx, sBk, sCt, sAug, sRz, sRm1, sRm2, sSetIx, sPutF, dV, dC, dOp, dUn, dLs, fz, nE, dB, dAnd, dOr, dNot, dAndV, dOrV, dNotV, dIf, dChI, dIsi, dCall, dCall0, dCallO, dCallO0, dMake, dMake0, dFld, dProp, dSlice, dLc, dMutL, pkE, pkT, rowD, oNone, oSome, aNil, aCons, aStar, mNil, mCons, putS, sOf, gN, gT, gsCons, gsNil, jSeq, jArg, seqD, rsO_some, rsO_none, out, startD, outO, startO, ocAt, olAt, frA, frS, lkN, putN, gTupD, gLstD, uApp, flatD, toV, tYesD, Rs.bind_eq, Rs.bind_ok, Rs.bind_er, Rs.bind_no, S.frz, OC.frz, OB.frz, Option.bind_some, Option.bind_none, Option.bind, Option.map, List.map_cons, List.map_nil, List.cons_append, List.nil_append, List.append_nil, List.length_cons, List.length_nil, Nat.reduceAdd, Nat.reduceSub, List.replicate_succ, List.replicate_zero, List.getElem?_cons_zero, List.getElem?_cons_succ, List.set_cons_zero, List.set_cons_succ, Int.cast_ofNat_Int, ne_eq, not_true_eq_false, not_false_eq_true, decide_false, decide_true, Int.reduceLT, Int.reduceLE, Int.reduceGT, Int.reduceGE, Int.reduceEq, Int.reduceNeg, Int.reduceAdd, Int.reduceSub, Int.reduceMul, if_true, if_false, reduceIte, Bool.false_eq_true, Bool.true_eq_false, Bool.not_true, Bool.not_false, Nat.zero_add, true_and, and_true, ite_true, ite_false, gAdd_int, gSub_int, gNeg_int, gLt_int, gLe_int, gGt_int, gGe_int, gIs_non, gLen_tup, gLen_lst, gLen_scr, gMax2_int, gMin2_int, gInt_int, gInt_bl, gAbs_int, gTuple_tup, gTuple_lst, gIn_tI, gIn_lI, gIsi_int, gIsi_bool, gIsi_tuple, gIsi_list, gIsi_str, isOb, isIntD, isBlD, isTupD, isLstD, isStrD]; rfl, fun _ => ⟨_, rfl, rfl⟩, fun _ => rfl⟩)
  have e : (seen.filter fun p => !p.2).map (fun p => D.int p.1) = (outsL seen).map .int := by unfold outsL; rw [List.map_map]; rfl
  rw [List.nil_append, e] at c
  unfold G_out_of
  rcases hd with rfl | rfl <;> exact wp_rt (by simp only [sSeq, sRet, sRetN, sExpr, sIf, sSet, sSetN, sAsg, sParM, sFor, sNx, sBk, sCt, sAug, sRz, sRm1, sRm2, sSetIx, sPutF, dV, dC, dOp, dUn, dLs, fz, nE, dB, dAnd, dOr, dNot, dAndV, dOrV, dNotV, dIf, dChI, dIsi, dCall, dCall0, dCallO, dCallO0, dMake, dMake0, dFld, dProp, dSlice, dLc, dMutL, pkE, pkT, rowD, oNone, oSome, aNil, aCons, aStar, mNil, mCons, putS, sOf, gN, gT, gsCons, gsNil, jSeq, jArg, seqD, rsO_some, rsO_none, out, startD, outO, startO, ocAt, olAt, frA, frS, lkN, putN, gTupD, gLstD, uApp, flatD, toV, tYesD, Rs.bind_eq, Rs.bind_ok, Rs.bind_er, Rs.bind_no, S.frz, OC.frz, OB.frz, Option.bind_some, Option.bind_none, Option.bind, Option.map, List.map_cons, List.map_nil, List.cons_append, List.nil_append, List.append_nil, List.length_cons, List.length_nil, Nat.reduceAdd, Nat.reduceSub, List.replicate_succ, List.replicate_zero, List.getElem?_cons_zero, List.getElem?_cons_succ, List.set_cons_zero, List.set_cons_succ, Int.cast_ofNat_Int, ne_eq, not_true_eq_false, not_false_eq_true, decide_false, decide_true, Int.reduceLT, Int.reduceLE, Int.reduceGT, Int.reduceGE, Int.reduceEq, Int.reduceNeg, Int.reduceAdd, Int.reduceSub, Int.reduceMul, if_true, if_false, reduceIte, Bool.false_eq_true, Bool.true_eq_false, Bool.not_true, Bool.not_false, Nat.zero_add, true_and, and_true, ite_true, ite_false, gAdd_int, gSub_int, gNeg_int, gLt_int, gLe_int, gGt_int, gGe_int, gIs_non, gLen_tup, gLen_lst, gLen_scr, gMax2_int, gMin2_int, gInt_int, gInt_bl, gAbs_int, gTuple_tup, gTuple_lst, gIn_tI, gIn_lI, gIsi_int, gIsi_bool, gIsi_tuple, gIsi_list, gIsi_str, isOb, isIntD, isBlD, isTupD, isLstD, isStrD, wipeD, c] <;> rfl)
theorem outs_len {seen : List (Int × Bool)} (h : SeenOk seen) : (outsL seen).length ≤ 8 := by unfold outsL; rw [List.length_map]; exact h.few
end RL

namespace RL
open PySem PySem.Spec PyProof.Rows L2
noncomputable def G_many_lots : FS := sSeq (sExpr (fz (dCall F_check_moduli (aCons (dV 0) (aNil)))))
 (sSeq (sExpr (fz (dCall F_check_seen (aCons (dV 1) (aNil)))))
 (sRetN (dCall F_ways (aCons (dV 0) (aCons (fz (dCall F_had_by (aCons (dV 0) (aCons (dV 1) (aNil))))) (aCons (fz (dCall F_out_of (aCons (dV 1) (aNil)))) (aNil)))))))
--FRZ
noncomputable def F_many_lots : List D → Fr := autoF 2 2 G_many_lots
theorem ok_many_lots : ∀ (ds : List D), F_many_lots ds ≠ .no → ds.length = 2 ∧ out (G_many_lots (startD 2 ds)) = F_many_lots ds := autoF_ok
theorem F_many_lots_ok {ms : List Int} {seen : List (Int × Bool)} (h : MsOk ms) (hs : SeenOk seen) {d : D} (hd : d = .tup (seen.map seenD) ∨ d = .lst (seen.map seenD)) : F_many_lots [tI ms, d] = .ok (.d (.int (wayS ms (hadBy ms seen) (outsL seen)))) := by
  refine (autoF_at).trans ?_
  simp only [G_many_lots, sSeq, sRet, sRetN, sExpr, sIf, sSet, sSetN, sAsg, sParM, sFor, sNx, sBk, sCt, sAug, sRz, sRm1, sRm2, sSetIx, sPutF, dV, dC, dOp, dUn, dLs, fz, nE, dB, dAnd, dOr, dNot, dAndV, dOrV, dNotV, dIf, dChI, dIsi, dCall, dCall0, dCallO, dCallO0, dMake, dMake0, dFld, dProp, dSlice, dLc, dMutL, pkE, pkT, rowD, oNone, oSome, aNil, aCons, aStar, mNil, mCons, putS, sOf, gN, gT, gsCons, gsNil, jSeq, jArg, seqD, rsO_some, rsO_none, out, startD, outO, startO, ocAt, olAt, frA, frS, lkN, putN, gTupD, gLstD, uApp, flatD, toV, tYesD, Rs.bind_eq, Rs.bind_ok, Rs.bind_er, Rs.bind_no, S.frz, OC.frz, OB.frz, Option.bind_some, Option.bind_none, Option.bind, Option.map, List.map_cons, List.map_nil, List.cons_append, List.nil_append, List.append_nil, List.length_cons, List.length_nil, Nat.reduceAdd, Nat.reduceSub, List.replicate_succ, List.replicate_zero, List.getElem?_cons_zero, List.getElem?_cons_succ, List.set_cons_zero, List.set_cons_succ, Int.cast_ofNat_Int, ne_eq, not_true_eq_false, not_false_eq_true, decide_false, decide_true, Int.reduceLT, Int.reduceLE, Int.reduceGT, Int.reduceGE, Int.reduceEq, Int.reduceNeg, Int.reduceAdd, Int.reduceSub, Int.reduceMul, if_true, if_false, reduceIte, Bool.false_eq_true, Bool.true_eq_false, Bool.not_true, Bool.not_false, Nat.zero_add, true_and, and_true, ite_true, ite_false, gAdd_int, gSub_int, gNeg_int, gLt_int, gLe_int, gGt_int, gGe_int, gIs_non, gLen_tup, gLen_lst, gLen_scr, gMax2_int, gMin2_int, gInt_int, gInt_bl, gAbs_int, gTuple_tup, gTuple_lst, gIn_tI, gIn_lI, gIsi_int, gIsi_bool, gIsi_tuple, gIsi_list, gIsi_str, isOb, isIntD, isBlD, isTupD, isLstD, isStrD, F_check_moduli_ok h, F_check_seen_ok hs hd, F_had_by_d h hs hd, F_out_of_d hs hd, F_ways_d h (had_ok h) (outs_len hs)]
theorem F_many_lots_ms {d e : D} {x : Ex} (h : noOb 1 d = true) (hm : msR d = .er x) : F_many_lots [d, e] = .er x := by
  refine (autoF_at).trans ?_
  have e1 := F_check_moduli_d h
  rw [hm] at e1
  simp only [G_many_lots, sSeq, sRet, sRetN, sExpr, sIf, sSet, sSetN, sAsg, sParM, sFor, sNx, sBk, sCt, sAug, sRz, sRm1, sRm2, sSetIx, sPutF, dV, dC, dOp, dUn, dLs, fz, nE, dB, dAnd, dOr, dNot, dAndV, dOrV, dNotV, dIf, dChI, dIsi, dCall, dCall0, dCallO, dCallO0, dMake, dMake0, dFld, dProp, dSlice, dLc, dMutL, pkE, pkT, rowD, oNone, oSome, aNil, aCons, aStar, mNil, mCons, putS, sOf, gN, gT, gsCons, gsNil, jSeq, jArg, seqD, rsO_some, rsO_none, out, startD, outO, startO, ocAt, olAt, frA, frS, lkN, putN, gTupD, gLstD, uApp, flatD, toV, tYesD, Rs.bind_eq, Rs.bind_ok, Rs.bind_er, Rs.bind_no, S.frz, OC.frz, OB.frz, Option.bind_some, Option.bind_none, Option.bind, Option.map, List.map_cons, List.map_nil, List.cons_append, List.nil_append, List.append_nil, List.length_cons, List.length_nil, Nat.reduceAdd, Nat.reduceSub, List.replicate_succ, List.replicate_zero, List.getElem?_cons_zero, List.getElem?_cons_succ, List.set_cons_zero, List.set_cons_succ, Int.cast_ofNat_Int, ne_eq, not_true_eq_false, not_false_eq_true, decide_false, decide_true, Int.reduceLT, Int.reduceLE, Int.reduceGT, Int.reduceGE, Int.reduceEq, Int.reduceNeg, Int.reduceAdd, Int.reduceSub, Int.reduceMul, if_true, if_false, reduceIte, Bool.false_eq_true, Bool.true_eq_false, Bool.not_true, Bool.not_false, Nat.zero_add, true_and, and_true, ite_true, ite_false, gAdd_int, gSub_int, gNeg_int, gLt_int, gLe_int, gGt_int, gGe_int, gIs_non, gLen_tup, gLen_lst, gLen_scr, gMax2_int, gMin2_int, gInt_int, gInt_bl, gAbs_int, gTuple_tup, gTuple_lst, gIn_tI, gIn_lI, gIsi_int, gIsi_bool, gIsi_tuple, gIsi_list, gIsi_str, isOb, isIntD, isBlD, isTupD, isLstD, isStrD, e1]
theorem F_many_lots_se {ms : List Int} {d : D} {x : Ex} (h : MsOk ms) (hd : noOb 2 d = true) (hn : ∀ ns, d ≠ .scr ns) (hm : seR d = .er x) : F_many_lots [tI ms, d] = .er x := by
  refine (autoF_at).trans ?_
  have e1 := F_check_seen_d hd hn
  rw [hm] at e1
  simp only [G_many_lots, sSeq, sRet, sRetN, sExpr, sIf, sSet, sSetN, sAsg, sParM, sFor, sNx, sBk, sCt, sAug, sRz, sRm1, sRm2, sSetIx, sPutF, dV, dC, dOp, dUn, dLs, fz, nE, dB, dAnd, dOr, dNot, dAndV, dOrV, dNotV, dIf, dChI, dIsi, dCall, dCall0, dCallO, dCallO0, dMake, dMake0, dFld, dProp, dSlice, dLc, dMutL, pkE, pkT, rowD, oNone, oSome, aNil, aCons, aStar, mNil, mCons, putS, sOf, gN, gT, gsCons, gsNil, jSeq, jArg, seqD, rsO_some, rsO_none, out, startD, outO, startO, ocAt, olAt, frA, frS, lkN, putN, gTupD, gLstD, uApp, flatD, toV, tYesD, Rs.bind_eq, Rs.bind_ok, Rs.bind_er, Rs.bind_no, S.frz, OC.frz, OB.frz, Option.bind_some, Option.bind_none, Option.bind, Option.map, List.map_cons, List.map_nil, List.cons_append, List.nil_append, List.append_nil, List.length_cons, List.length_nil, Nat.reduceAdd, Nat.reduceSub, List.replicate_succ, List.replicate_zero, List.getElem?_cons_zero, List.getElem?_cons_succ, List.set_cons_zero, List.set_cons_succ, Int.cast_ofNat_Int, ne_eq, not_true_eq_false, not_false_eq_true, decide_false, decide_true, Int.reduceLT, Int.reduceLE, Int.reduceGT, Int.reduceGE, Int.reduceEq, Int.reduceNeg, Int.reduceAdd, Int.reduceSub, Int.reduceMul, if_true, if_false, reduceIte, Bool.false_eq_true, Bool.true_eq_false, Bool.not_true, Bool.not_false, Nat.zero_add, true_and, and_true, ite_true, ite_false, gAdd_int, gSub_int, gNeg_int, gLt_int, gLe_int, gGt_int, gGe_int, gIs_non, gLen_tup, gLen_lst, gLen_scr, gMax2_int, gMin2_int, gInt_int, gInt_bl, gAbs_int, gTuple_tup, gTuple_lst, gIn_tI, gIn_lI, gIsi_int, gIsi_bool, gIsi_tuple, gIsi_list, gIsi_str, isOb, isIntD, isBlD, isTupD, isLstD, isStrD, F_check_moduli_ok h, e1]
end RL

namespace RL
open PySem PySem.Spec PyProof.Rows L2
noncomputable def B_sure_rests_2 : FS := sSeq (sSetN 11 (dLs gDict (aCons (dV 2) (aNil))))
 (sSeq (sPutK 11 (fz (dLs gTupD (aCons (dV 6) (aCons (dV 10) (aNil))))) (dC (.bl true)))
 (sSeq (sSet 12 (fz (dCall F_ways (aCons (dV 0) (aCons (dV 11) (aCons (dV 3) (aNil)))))))
 (sSeq (sIf (dB (fz (dOp gEq (dV 12) (dV 5)))) (sExpr (dMutL 8 uApp (aCons (dV 10) (aNil)))) (sNx))
 (sIf (dB (fz (dOp gEq (dV 12) (dC (.int 0))))) (sExpr (dMutL 9 uApp (aCons (dV 10) (aNil)))) (sNx)))))
noncomputable def B_sure_rests_1 : FS := sSeq (sParM [8, 9] (mCons (dLs gLstD (aNil)) (mCons (dLs gLstD (aNil)) (mNil))))
 (sSeq (sFor (jArg rg1 (aCons (dV 7) (aNil))) (gN 10) (B_sure_rests_2))
 (sExpr (dMutL 4 uApp (aCons (fz (dLs gTupD (aCons (dV 8) (aCons (dV 9) (aNil))))) (aNil)))))
noncomputable def G_sure_rests : FS := sSeq (sExpr (fz (dCall F_check_moduli (aCons (dV 0) (aNil)))))
 (sSeq (sExpr (fz (dCall F_check_seen (aCons (dV 1) (aNil)))))
 (sSeq (sParM [2, 3, 4] (mCons (nE (fz (dCall F_had_by (aCons (dV 0) (aCons (dV 1) (aNil)))))) (mCons (nE (fz (dCall F_out_of (aCons (dV 1) (aNil))))) (mCons (dLs gLstD (aNil)) (mNil)))))
 (sSeq (sSet 5 (fz (dCall F_ways (aCons (dV 0) (aCons (dV 2) (aCons (dV 3) (aNil)))))))
 (sSeq (sIf (dB (fz (dOp gEq (dV 5) (dC (.int 0))))) (sRz "Nothing") (sNx))
 (sSeq (sFor (jArg enumG (aCons (dV 0) (aNil))) (gT 2 (gsCons (gN 6) (gsCons (gN 7) (gsNil)))) (B_sure_rests_1))
 (sRet (dV 4)))))))
--FRZ
--DICTT had
--DICTT with_one
noncomputable def F_sure_rests : List D → Fr := autoF 2 13 G_sure_rests
theorem ok_sure_rests : ∀ (ds : List D), F_sure_rests ds ≠ .no → ds.length = 2 ∧ out (G_sure_rests (startD 13 ds)) = F_sure_rests ds := autoF_ok
abbrev rowE (p : List Int × List Int) : D := .tup [lI p.1, lI p.2]
/-- how many lots, one rest more being had -/
def wayW (ms : List Int) (had : List Rst) (out : List Int) (k : Nat) (r : Int) : Int := wayS ms (addT had [(k : Int), r]) out
def sureRow (ms : List Int) (had : List Rst) (out : List Int) (k : Nat) (l : List Int) : List Int × List Int :=
  (l.filter fun r => decide (wayW ms had out k r = wayS ms had out), l.filter fun r => decide (wayW ms had out k r = 0))
def sureF (ms : List Int) (had : List Rst) (out : List Int) (k : Nat) : List Int → List (List Int × List Int)
  | [] => []
  | m :: r => sureRow ms had out k (zr m.toNat) :: sureF ms had out (k + 1) r
theorem sureF_snoc (ms : List Int) (had : List Rst) (out : List Int) (m : Int) : ∀ (l : List Int) (k : Nat), sureF ms had out k (l ++ [m]) = sureF ms had out k l ++ [sureRow ms had out (k + l.length) (zr m.toNat)]
  | [], k => rfl
  | a :: r, k => by
    rw [List.cons_append]
    unfold sureF
    rw [sureF_snoc ms had out m r (k + 1), List.length_cons, show k + 1 + r.length = k + (r.length + 1) by omega]
    rfl
theorem sureF_len (ms : List Int) (had : List Rst) (out : List Int) : ∀ (l : List Int) (k : Nat), (sureF ms had out k l).length = l.length
  | [], _ => rfl
  | a :: r, k => congrArg Nat.succ (sureF_len ms had out r (k + 1))
theorem sr_in {ms : List Int} (h : MsOk ms) {had : List Rst} (hh : Had ms had) {o : List Int} (ho : o.length ≤ 8) {k : Nat} {m : Int} (hm : ms[k]? = some m) {s1 s4 : Option S} (i : Nat) (x : D) (ρ : Sl) (hx : ((zr m.toNat).map D.int)[i]? = some x)
    (hI : ∃ z10 z11 z12, ρ = [some (.d (tI ms)), s1, some (.d (dTs had)), some (.d (lI o)), s4, some (.d (.int (wayS ms had o))), some (.d (.int (k : Nat))), some (.d (.int m)), some (.o (oL ((sureRow ms had o k ((zr m.toNat).take i)).1.map .int))), some (.o (oL ((sureRow ms had o k ((zr m.toNat).take i)).2.map .int))), z10, z11, z12]) :
    ∃ ρ1, gN 10 x ρ = some ρ1 ∧ wpS (B_sure_rests_2 ρ1) (nxQ fun ρ => ∃ z10 z11 z12, ρ = [some (.d (tI ms)), s1, some (.d (dTs had)), some (.d (lI o)), s4, some (.d (.int (wayS ms had o))), some (.d (.int (k : Nat))), some (.d (.int m)), some (.o (oL ((sureRow ms had o k ((zr m.toNat).take (i + 1))).1.map .int))), some (.o (oL ((sureRow ms had o k ((zr m.toNat).take (i + 1))).2.map .int))), z10, z11, z12]) := by
  obtain ⟨z10, z11, z12, rfl⟩ := hI
  obtain ⟨r, hr, rfl⟩ := map_get hx
  refine ⟨_, rfl, ?_⟩
  have s2 : (2 : Nat) ≤ sizeLine := by decide
  have s200 : (200 : Nat) < sizeLine := by decide
  have hrm := mem_zr.mp (List.mem_of_getElem? hr)
  have hmr := h.rng m (List.mem_of_getElem? hm)
  have hu : [((k : Nat) : Int), r] ∈ univ ms := mem_univ.mpr ⟨k, m, r, hm, hrm.1, by omega, rfl⟩
  have e2 : gDict [dTs had] = some (.o ⟨none, .oT (kT had)⟩) := if_pos (hash_ok h hh)
  obtain ⟨u1, u2⟩ := h.univ_len
  have hl := hh.len
  have hk : (kT had).length < sizeLine := by unfold kT; rw [List.length_map]; omega
  have ea : asTup (.tup [.int ((k : Nat) : Int), .int r]) = some [((k : Nat) : Int), r] := asTup_tI [((k : Nat) : Int), r]
  have fw := F_ways_d h (hh.add hu) ho
  have et : (zr m.toNat).take (i + 1) = (zr m.toNat).take i ++ [r] := take_succ_of hr
  have l1 : ((sureRow ms had o k ((zr m.toNat).take i)).1.map D.int).length < sizeLine := by
    have := List.length_filter_le (fun r => decide (wayW ms had o k r = wayS ms had o)) ((zr m.toNat).take i)
    rw [List.length_take, zr_len] at this
    rw [List.length_map]
    show (List.filter _ _).length < _
    omega
  have l2 : ((sureRow ms had o k ((zr m.toNat).take i)).2.map D.int).length < sizeLine := by
    have := List.length_filter_le (fun r => decide (wayW ms had o k r = 0)) ((zr m.toNat).take i)
    rw [List.length_take, zr_len] at this
    rw [List.length_map]
    show (List.filter _ _).length < _
    omega
  have n1 : (sureRow ms had o k ((zr m.toNat).take (i + 1))).1.map D.int = (sureRow ms had o k ((zr m.toNat).take i)).1.map D.int ++ if decide (wayS ms (addT had [((k : Nat) : Int), r]) o = wayS ms had o) = true then [D.int r] else [] := by
    rw [et]
    show (List.filter _ (_ ++ [r])).map D.int = _
    rw [List.filter_append, List.map_append, List.filter_cons]
    congr 1
    show (if decide (wayW ms had o k r = wayS ms had o) = true then _ else _ : List Int).map D.int = _
    unfold wayW
    split <;> rfl
  have n2 : (sureRow ms had o k ((zr m.toNat).take (i + 1))).2.map D.int = (sureRow ms had o k ((zr m.toNat).take i)).2.map D.int ++ if decide (wayS ms (addT had [((k : Nat) : Int), r]) o = 0) = true then [D.int r] else [] := by
    rw [et]
    show (List.filter _ (_ ++ [r])).map D.int = _
    rw [List.filter_append, List.map_append, List.filter_cons]
    congr 1
    show (if decide (wayW ms had o k r = 0) = true then _ else _ : List Int).map D.int = _
    unfold wayW
    split <;> rfl
  rw [n1, n2]
  clear n1 n2
  generalize (sureRow ms had o k ((zr m.toNat).take i)).1.map D.int = L1 at l1
  generalize (sureRow ms had o k ((zr m.toNat).take i)).2.map D.int = L2 at l2
  have fw : F_ways [tI ms, .dT (kT (addT had [((k : Nat) : Int), r])), lI o] = .ok (.d (.int (wayS ms (addT had [((k : Nat) : Int), r]) o))) := fw
  have ep := putK_T had [((k : Nat) : Int), r]
  unfold B_sure_rests_2
  refine wp_seq (by simp only [sSeq, sRet, sRetN, sExpr, sIf, sSet, sSetN, sAsg, sParM, sFor, sNx, sBk, sCt, sAug, sRz, sRm1, sRm2, sSetIx, sPutF, dV, dC, dOp, dUn, dLs, fz, nE, dB, dAnd, dOr, dNot, dAndV, dOrV, dNotV, dIf, dChI, dIsi, dCall, dCall0, dCallO, dCallO0, dMake, dMake0, dFld, dProp, dSlice, dLc, dMutL, pkE, pkT, rowD, oNone, oSome, aNil, aCons, aStar, mNil, mCons, putS, sOf, gN, gT, gsCons, gsNil, jSeq, jArg, seqD, rsO_some, rsO_none, out, startD, outO, startO, ocAt, olAt, frA, frS, lkN, putN, gTupD, gLstD, uApp, flatD, toV, tYesD, Rs.bind_eq, Rs.bind_ok, Rs.bind_er, Rs.bind_no, S.frz, OC.frz, OB.frz, Option.bind_some, Option.bind_none, Option.bind, Option.map, List.map_cons, List.map_nil, List.cons_append, List.nil_append, List.append_nil, List.length_cons, List.length_nil, Nat.reduceAdd, Nat.reduceSub, List.replicate_succ, List.replicate_zero, List.getElem?_cons_zero, List.getElem?_cons_succ, List.set_cons_zero, List.set_cons_succ, Int.cast_ofNat_Int, ne_eq, not_true_eq_false, not_false_eq_true, decide_false, decide_true, Int.reduceLT, Int.reduceLE, Int.reduceGT, Int.reduceGE, Int.reduceEq, Int.reduceNeg, Int.reduceAdd, Int.reduceSub, Int.reduceMul, if_true, if_false, reduceIte, Bool.false_eq_true, Bool.true_eq_false, Bool.not_true, Bool.not_false, Nat.zero_add, true_and, and_true, ite_true, ite_false, gAdd_int, gSub_int, gNeg_int, gLt_int, gLe_int, gGt_int, gGe_int, gIs_non, gLen_tup, gLen_lst, gLen_scr, gMax2_int, gMin2_int, gInt_int, gInt_bl, gAbs_int, gTuple_tup, gTuple_lst, gIn_tI, gIn_lI, gIsi_int, gIsi_bool, gIsi_tuple, gIsi_list, gIsi_str, isOb, isIntD, isBlD, isTupD, isLstD, isStrD, e2]; rfl) ?_
  refine wp_seq (ρ1 := [some (.d (tI ms)), s1, some (.d (dTs had)), some (.d (lI o)), s4, some (.d (.int (wayS ms had o))), some (.d (.int (k : Nat))), some (.d (.int m)), some (.o (oL L1)), some (.o (oL L2)), some (.d (.int r)), some (.o ⟨none, .oT (kT (addT had [((k : Nat) : Int), r]))⟩), z12]) (by rw [← ep]; simp only [sPutK, sSeq, sRet, sRetN, sExpr, sIf, sSet, sSetN, sAsg, sParM, sFor, sNx, sBk, sCt, sAug, sRz, sRm1, sRm2, sSetIx, sPutF, dV, dC, dOp, dUn, dLs, fz, nE, dB, dAnd, dOr, dNot, dAndV, dOrV, dNotV, dIf, dChI, dIsi, dCall, dCall0, dCallO, dCallO0, dMake, dMake0, dFld, dProp, dSlice, dLc, dMutL, pkE, pkT, rowD, oNone, oSome, aNil, aCons, aStar, mNil, mCons, putS, sOf, gN, gT, gsCons, gsNil, jSeq, jArg, seqD, rsO_some, rsO_none, out, startD, outO, startO, ocAt, olAt, frA, frS, lkN, putN, gTupD, gLstD, uApp, flatD, toV, tYesD, Rs.bind_eq, Rs.bind_ok, Rs.bind_er, Rs.bind_no, S.frz, OC.frz, OB.frz, Option.bind_some, Option.bind_none, Option.bind, Option.map, List.map_cons, List.map_nil, List.cons_append, List.nil_append, List.append_nil, List.length_cons, List.length_nil, Nat.reduceAdd, Nat.reduceSub, List.replicate_succ, List.replicate_zero, List.getElem?_cons_zero, List.getElem?_cons_succ, List.set_cons_zero, List.set_cons_succ, Int.cast_ofNat_Int, ne_eq, not_true_eq_false, not_false_eq_true, decide_false, decide_true, Int.reduceLT, Int.reduceLE, Int.reduceGT, Int.reduceGE, Int.reduceEq, Int.reduceNeg, Int.reduceAdd, Int.reduceSub, Int.reduceMul, if_true, if_false, reduceIte, Bool.false_eq_true, Bool.true_eq_false, Bool.not_true, Bool.not_false, Nat.zero_add, true_and, and_true, ite_true, ite_false, gAdd_int, gSub_int, gNeg_int, gLt_int, gLe_int, gGt_int, gGe_int, gIs_non, gLen_tup, gLen_lst, gLen_scr, gMax2_int, gMin2_int, gInt_int, gInt_bl, gAbs_int, gTuple_tup, gTuple_lst, gIn_tI, gIn_lI, gIsi_int, gIsi_bool, gIsi_tuple, gIsi_list, gIsi_str, isOb, isIntD, isBlD, isTupD, isLstD, isStrD, s2, ea, hk, and_self] <;> rfl) ?_
  refine wp_seq (by simp only [sSeq, sRet, sRetN, sExpr, sIf, sSet, sSetN, sAsg, sParM, sFor, sNx, sBk, sCt, sAug, sRz, sRm1, sRm2, sSetIx, sPutF, dV, dC, dOp, dUn, dLs, fz, nE, dB, dAnd, dOr, dNot, dAndV, dOrV, dNotV, dIf, dChI, dIsi, dCall, dCall0, dCallO, dCallO0, dMake, dMake0, dFld, dProp, dSlice, dLc, dMutL, pkE, pkT, rowD, oNone, oSome, aNil, aCons, aStar, mNil, mCons, putS, sOf, gN, gT, gsCons, gsNil, jSeq, jArg, seqD, rsO_some, rsO_none, out, startD, outO, startO, ocAt, olAt, frA, frS, lkN, putN, gTupD, gLstD, uApp, flatD, toV, tYesD, Rs.bind_eq, Rs.bind_ok, Rs.bind_er, Rs.bind_no, S.frz, OC.frz, OB.frz, Option.bind_some, Option.bind_none, Option.bind, Option.map, List.map_cons, List.map_nil, List.cons_append, List.nil_append, List.append_nil, List.length_cons, List.length_nil, Nat.reduceAdd, Nat.reduceSub, List.replicate_succ, List.replicate_zero, List.getElem?_cons_zero, List.getElem?_cons_succ, List.set_cons_zero, List.set_cons_succ, Int.cast_ofNat_Int, ne_eq, not_true_eq_false, not_false_eq_true, decide_false, decide_true, Int.reduceLT, Int.reduceLE, Int.reduceGT, Int.reduceGE, Int.reduceEq, Int.reduceNeg, Int.reduceAdd, Int.reduceSub, Int.reduceMul, if_true, if_false, reduceIte, Bool.false_eq_true, Bool.true_eq_false, Bool.not_true, Bool.not_false, Nat.zero_add, true_and, and_true, ite_true, ite_false, gAdd_int, gSub_int, gNeg_int, gLt_int, gLe_int, gGt_int, gGe_int, gIs_non, gLen_tup, gLen_lst, gLen_scr, gMax2_int, gMin2_int, gInt_int, gInt_bl, gAbs_int, gTuple_tup, gTuple_lst, gIn_tI, gIn_lI, gIsi_int, gIsi_bool, gIsi_tuple, gIsi_list, gIsi_str, isOb, isIntD, isBlD, isTupD, isLstD, isStrD, fw]; rfl) ?_
  generalize wayS ms (addT had [((k : Nat) : Int), r]) o = w
  generalize wayS ms had o = v
  refine wp_join (P := fun ρ => ρ = [some (.d (tI ms)), s1, some (.d (dTs had)), some (.d (lI o)), s4, some (.d (.int v)), some (.d (.int (k : Nat))), some (.d (.int m)), some (.o (oL (L1 ++ if decide (w = v) = true then [D.int r] else []))), some (.o (oL L2)), some (.d (.int r)), some (.d (dTs (addT had [((k : Nat) : Int), r]))), some (.d (.int w))]) ?_ ?_
  · by_cases hv : w = v
    · have d1 := decide_eq_true hv
      rw [if_pos (decide_eq_true hv)]
      exact wp_if (b := true) (by simp only [sSeq, sRet, sRetN, sExpr, sIf, sSet, sSetN, sAsg, sParM, sFor, sNx, sBk, sCt, sAug, sRz, sRm1, sRm2, sSetIx, sPutF, dV, dC, dOp, dUn, dLs, fz, nE, dB, dAnd, dOr, dNot, dAndV, dOrV, dNotV, dIf, dChI, dIsi, dCall, dCall0, dCallO, dCallO0, dMake, dMake0, dFld, dProp, dSlice, dLc, dMutL, pkE, pkT, rowD, oNone, oSome, aNil, aCons, aStar, mNil, mCons, putS, sOf, gN, gT, gsCons, gsNil, jSeq, jArg, seqD, rsO_some, rsO_none, out, startD, outO, startO, ocAt, olAt, frA, frS, lkN, putN, gTupD, gLstD, uApp, flatD, toV, tYesD, Rs.bind_eq, Rs.bind_ok, Rs.bind_er, Rs.bind_no, S.frz, OC.frz, OB.frz, Option.bind_some, Option.bind_none, Option.bind, Option.map, List.map_cons, List.map_nil, List.cons_append, List.nil_append, List.append_nil, List.length_cons, List.length_nil, Nat.reduceAdd, Nat.reduceSub, List.replicate_succ, List.replicate_zero, List.getElem?_cons_zero, List.getElem?_cons_succ, List.set_cons_zero, List.set_cons_succ, Int.cast_ofNat_Int, ne_eq, not_true_eq_false, not_false_eq_true, decide_false, decide_true, Int.reduceLT, Int.reduceLE, Int.reduceGT, Int.reduceGE, Int.reduceEq, Int.reduceNeg, Int.reduceAdd, Int.reduceSub, Int.reduceMul, if_true, if_false, reduceIte, Bool.false_eq_true, Bool.true_eq_false, Bool.not_true, Bool.not_false, Nat.zero_add, true_and, and_true, ite_true, ite_false, gAdd_int, gSub_int, gNeg_int, gLt_int, gLe_int, gGt_int, gGe_int, gIs_non, gLen_tup, gLen_lst, gLen_scr, gMax2_int, gMin2_int, gInt_int, gInt_bl, gAbs_int, gTuple_tup, gTuple_lst, gIn_tI, gIn_lI, gIsi_int, gIsi_bool, gIsi_tuple, gIsi_list, gIsi_str, isOb, isIntD, isBlD, isTupD, isLstD, isStrD, gEq_int, d1] <;> rfl) (fun _ => wp_nx (by simp only [sSeq, sRet, sRetN, sExpr, sIf, sSet, sSetN, sAsg, sParM, sFor, sNx, sBk, sCt, sAug, sRz, sRm1, sRm2, sSetIx, sPutF, dV, dC, dOp, dUn, dLs, fz, nE, dB, dAnd, dOr, dNot, dAndV, dOrV, dNotV, dIf, dChI, dIsi, dCall, dCall0, dCallO, dCallO0, dMake, dMake0, dFld, dProp, dSlice, dLc, dMutL, pkE, pkT, rowD, oNone, oSome, aNil, aCons, aStar, mNil, mCons, putS, sOf, gN, gT, gsCons, gsNil, jSeq, jArg, seqD, rsO_some, rsO_none, out, startD, outO, startO, ocAt, olAt, frA, frS, lkN, putN, gTupD, gLstD, uApp, flatD, toV, tYesD, Rs.bind_eq, Rs.bind_ok, Rs.bind_er, Rs.bind_no, S.frz, OC.frz, OB.frz, Option.bind_some, Option.bind_none, Option.bind, Option.map, List.map_cons, List.map_nil, List.cons_append, List.nil_append, List.append_nil, List.length_cons, List.length_nil, Nat.reduceAdd, Nat.reduceSub, List.replicate_succ, List.replicate_zero, List.getElem?_cons_zero, List.getElem?_cons_succ, List.set_cons_zero, List.set_cons_succ, Int.cast_ofNat_Int, ne_eq, not_true_eq_false, not_false_eq_true, decide_false, decide_true, Int.reduceLT, Int.reduceLE, Int.reduceGT, Int.reduceGE, Int.reduceEq, Int.reduceNeg, Int.reduceAdd, Int.reduceSub, Int.reduceMul, if_true, if_false, reduceIte, Bool.false_eq_true, Bool.true_eq_false, Bool.not_true, Bool.not_false, Nat.zero_add, true_and, and_true, ite_true, ite_false, gAdd_int, gSub_int, gNeg_int, gLt_int, gLe_int, gGt_int, gGe_int, gIs_non, gLen_tup, gLen_lst, gLen_scr, gMax2_int, gMin2_int, gInt_int, gInt_bl, gAbs_int, gTuple_tup, gTuple_lst, gIn_tI, gIn_lI, gIsi_int, gIsi_bool, gIsi_tuple, gIsi_list, gIsi_str, isOb, isIntD, isBlD, isTupD, isLstD, isStrD, l1] <;> rfl) rfl) (fun z => nomatch z)
    · have d1 := decide_eq_false hv
      rw [if_neg (by simpa using hv), List.append_nil]
      exact wp_if (b := false) (by simp only [sSeq, sRet, sRetN, sExpr, sIf, sSet, sSetN, sAsg, sParM, sFor, sNx, sBk, sCt, sAug, sRz, sRm1, sRm2, sSetIx, sPutF, dV, dC, dOp, dUn, dLs, fz, nE, dB, dAnd, dOr, dNot, dAndV, dOrV, dNotV, dIf, dChI, dIsi, dCall, dCall0, dCallO, dCallO0, dMake, dMake0, dFld, dProp, dSlice, dLc, dMutL, pkE, pkT, rowD, oNone, oSome, aNil, aCons, aStar, mNil, mCons, putS, sOf, gN, gT, gsCons, gsNil, jSeq, jArg, seqD, rsO_some, rsO_none, out, startD, outO, startO, ocAt, olAt, frA, frS, lkN, putN, gTupD, gLstD, uApp, flatD, toV, tYesD, Rs.bind_eq, Rs.bind_ok, Rs.bind_er, Rs.bind_no, S.frz, OC.frz, OB.frz, Option.bind_some, Option.bind_none, Option.bind, Option.map, List.map_cons, List.map_nil, List.cons_append, List.nil_append, List.append_nil, List.length_cons, List.length_nil, Nat.reduceAdd, Nat.reduceSub, List.replicate_succ, List.replicate_zero, List.getElem?_cons_zero, List.getElem?_cons_succ, List.set_cons_zero, List.set_cons_succ, Int.cast_ofNat_Int, ne_eq, not_true_eq_false, not_false_eq_true, decide_false, decide_true, Int.reduceLT, Int.reduceLE, Int.reduceGT, Int.reduceGE, Int.reduceEq, Int.reduceNeg, Int.reduceAdd, Int.reduceSub, Int.reduceMul, if_true, if_false, reduceIte, Bool.false_eq_true, Bool.true_eq_false, Bool.not_true, Bool.not_false, Nat.zero_add, true_and, and_true, ite_true, ite_false, gAdd_int, gSub_int, gNeg_int, gLt_int, gLe_int, gGt_int, gGe_int, gIs_non, gLen_tup, gLen_lst, gLen_scr, gMax2_int, gMin2_int, gInt_int, gInt_bl, gAbs_int, gTuple_tup, gTuple_lst, gIn_tI, gIn_lI, gIsi_int, gIsi_bool, gIsi_tuple, gIsi_list, gIsi_str, isOb, isIntD, isBlD, isTupD, isLstD, isStrD, gEq_int, d1] <;> rfl) (fun z => nomatch z) (fun _ => wp_nx rfl rfl)
  · rintro ρ rfl
    generalize (L1 ++ if decide (w = v) = true then [D.int r] else []) = L3
    by_cases hv : w = 0
    · have d1 := decide_eq_true hv
      rw [if_pos (decide_eq_true hv)]
      exact wp_if (b := true) (by simp only [sSeq, sRet, sRetN, sExpr, sIf, sSet, sSetN, sAsg, sParM, sFor, sNx, sBk, sCt, sAug, sRz, sRm1, sRm2, sSetIx, sPutF, dV, dC, dOp, dUn, dLs, fz, nE, dB, dAnd, dOr, dNot, dAndV, dOrV, dNotV, dIf, dChI, dIsi, dCall, dCall0, dCallO, dCallO0, dMake, dMake0, dFld, dProp, dSlice, dLc, dMutL, pkE, pkT, rowD, oNone, oSome, aNil, aCons, aStar, mNil, mCons, putS, sOf, gN, gT, gsCons, gsNil, jSeq, jArg, seqD, rsO_some, rsO_none, out, startD, outO, startO, ocAt, olAt, frA, frS, lkN, putN, gTupD, gLstD, uApp, flatD, toV, tYesD, Rs.bind_eq, Rs.bind_ok, Rs.bind_er, Rs.bind_no, S.frz, OC.frz, OB.frz, Option.bind_some, Option.bind_none, Option.bind, Option.map, List.map_cons, List.map_nil, List.cons_append, List.nil_append, List.append_nil, List.length_cons, List.length_nil, Nat.reduceAdd, Nat.reduceSub, List.replicate_succ, List.replicate_zero, List.getElem?_cons_zero, List.getElem?_cons_succ, List.set_cons_zero, List.set_cons_succ, Int.cast_ofNat_Int, ne_eq, not_true_eq_false, not_false_eq_true, decide_false, decide_true, Int.reduceLT, Int.reduceLE, Int.reduceGT, Int.reduceGE, Int.reduceEq, Int.reduceNeg, Int.reduceAdd, Int.reduceSub, Int.reduceMul, if_true, if_false, reduceIte, Bool.false_eq_true, Bool.true_eq_false, Bool.not_true, Bool.not_false, Nat.zero_add, true_and, and_true, ite_true, ite_false, gAdd_int, gSub_int, gNeg_int, gLt_int, gLe_int, gGt_int, gGe_int, gIs_non, gLen_tup, gLen_lst, gLen_scr, gMax2_int, gMin2_int, gInt_int, gInt_bl, gAbs_int, gTuple_tup, gTuple_lst, gIn_tI, gIn_lI, gIsi_int, gIsi_bool, gIsi_tuple, gIsi_list, gIsi_str, isOb, isIntD, isBlD, isTupD, isLstD, isStrD, gEq_int, d1] <;> rfl) (fun _ => wp_nx (by simp only [sSeq, sRet, sRetN, sExpr, sIf, sSet, sSetN, sAsg, sParM, sFor, sNx, sBk, sCt, sAug, sRz, sRm1, sRm2, sSetIx, sPutF, dV, dC, dOp, dUn, dLs, fz, nE, dB, dAnd, dOr, dNot, dAndV, dOrV, dNotV, dIf, dChI, dIsi, dCall, dCall0, dCallO, dCallO0, dMake, dMake0, dFld, dProp, dSlice, dLc, dMutL, pkE, pkT, rowD, oNone, oSome, aNil, aCons, aStar, mNil, mCons, putS, sOf, gN, gT, gsCons, gsNil, jSeq, jArg, seqD, rsO_some, rsO_none, out, startD, outO, startO, ocAt, olAt, frA, frS, lkN, putN, gTupD, gLstD, uApp, flatD, toV, tYesD, Rs.bind_eq, Rs.bind_ok, Rs.bind_er, Rs.bind_no, S.frz, OC.frz, OB.frz, Option.bind_some, Option.bind_none, Option.bind, Option.map, List.map_cons, List.map_nil, List.cons_append, List.nil_append, List.append_nil, List.length_cons, List.length_nil, Nat.reduceAdd, Nat.reduceSub, List.replicate_succ, List.replicate_zero, List.getElem?_cons_zero, List.getElem?_cons_succ, List.set_cons_zero, List.set_cons_succ, Int.cast_ofNat_Int, ne_eq, not_true_eq_false, not_false_eq_true, decide_false, decide_true, Int.reduceLT, Int.reduceLE, Int.reduceGT, Int.reduceGE, Int.reduceEq, Int.reduceNeg, Int.reduceAdd, Int.reduceSub, Int.reduceMul, if_true, if_false, reduceIte, Bool.false_eq_true, Bool.true_eq_false, Bool.not_true, Bool.not_false, Nat.zero_add, true_and, and_true, ite_true, ite_false, gAdd_int, gSub_int, gNeg_int, gLt_int, gLe_int, gGt_int, gGe_int, gIs_non, gLen_tup, gLen_lst, gLen_scr, gMax2_int, gMin2_int, gInt_int, gInt_bl, gAbs_int, gTuple_tup, gTuple_lst, gIn_tI, gIn_lI, gIsi_int, gIsi_bool, gIsi_tuple, gIsi_list, gIsi_str, isOb, isIntD, isBlD, isTupD, isLstD, isStrD, l2] <;> rfl) ⟨_, _, _, rfl⟩) (fun z => nomatch z)
    · have d1 := decide_eq_false hv
      rw [if_neg (by simpa using hv), List.append_nil]
      exact wp_if (b := false) (by simp only [sSeq, sRet, sRetN, sExpr, sIf, sSet, sSetN, sAsg, sParM, sFor, sNx, sBk, sCt, sAug, sRz, sRm1, sRm2, sSetIx, sPutF, dV, dC, dOp, dUn, dLs, fz, nE, dB, dAnd, dOr, dNot, dAndV, dOrV, dNotV, dIf, dChI, dIsi, dCall, dCall0, dCallO, dCallO0, dMake, dMake0, dFld, dProp, dSlice, dLc, dMutL, pkE, pkT, rowD, oNone, oSome, aNil, aCons, aStar, mNil, mCons, putS, sOf, gN, gT, gsCons, gsNil, jSeq, jArg, seqD, rsO_some, rsO_none, out, startD, outO, startO, ocAt, olAt, frA, frS, lkN, putN, gTupD, gLstD, uApp, flatD, toV, tYesD, Rs.bind_eq, Rs.bind_ok, Rs.bind_er, Rs.bind_no, S.frz, OC.frz, OB.frz, Option.bind_some, Option.bind_none, Option.bind, Option.map, List.map_cons, List.map_nil, List.cons_append, List.nil_append, List.append_nil, List.length_cons, List.length_nil, Nat.reduceAdd, Nat.reduceSub, List.replicate_succ, List.replicate_zero, List.getElem?_cons_zero, List.getElem?_cons_succ, List.set_cons_zero, List.set_cons_succ, Int.cast_ofNat_Int, ne_eq, not_true_eq_false, not_false_eq_true, decide_false, decide_true, Int.reduceLT, Int.reduceLE, Int.reduceGT, Int.reduceGE, Int.reduceEq, Int.reduceNeg, Int.reduceAdd, Int.reduceSub, Int.reduceMul, if_true, if_false, reduceIte, Bool.false_eq_true, Bool.true_eq_false, Bool.not_true, Bool.not_false, Nat.zero_add, true_and, and_true, ite_true, ite_false, gAdd_int, gSub_int, gNeg_int, gLt_int, gLe_int, gGt_int, gGe_int, gIs_non, gLen_tup, gLen_lst, gLen_scr, gMax2_int, gMin2_int, gInt_int, gInt_bl, gAbs_int, gTuple_tup, gTuple_lst, gIn_tI, gIn_lI, gIsi_int, gIsi_bool, gIsi_tuple, gIsi_list, gIsi_str, isOb, isIntD, isBlD, isTupD, isLstD, isStrD, gEq_int, d1] <;> rfl) (fun z => nomatch z) (fun _ => wp_nx rfl ⟨_, _, _, rfl⟩)
theorem F_sure_rests_no {ms : List Int} {seen : List (Int × Bool)} (h : MsOk ms) (hs : SeenOk seen) {d : D} (hd : d = .tup (seen.map seenD) ∨ d = .lst (seen.map seenD)) (hw : wayS ms (hadBy ms seen) (outsL seen) = 0) : F_sure_rests [tI ms, d] = .er ⟨"Nothing", []⟩ := by
  refine (autoF_at).trans ?_
  have s0 : (0 : Nat) ≤ sizeLine := Nat.zero_le _
  have fw := F_ways_d h (had_ok (seen := seen) h) (outs_len hs)
  rw [hw] at fw
  have fw : F_ways [tI ms, .dT (kT (hadBy ms seen)), .lst ((outsL seen).map .int)] = .ok (.d (.int 0)) := fw
  simp only [G_sure_rests, sSeq, sRet, sRetN, sExpr, sIf, sSet, sSetN, sAsg, sParM, sFor, sNx, sBk, sCt, sAug, sRz, sRm1, sRm2, sSetIx, sPutF, dV, dC, dOp, dUn, dLs, fz, nE, dB, dAnd, dOr, dNot, dAndV, dOrV, dNotV, dIf, dChI, dIsi, dCall, dCall0, dCallO, dCallO0, dMake, dMake0, dFld, dProp, dSlice, dLc, dMutL, pkE, pkT, rowD, oNone, oSome, aNil, aCons, aStar, mNil, mCons, putS, sOf, gN, gT, gsCons, gsNil, jSeq, jArg, seqD, rsO_some, rsO_none, out, startD, outO, startO, ocAt, olAt, frA, frS, lkN, putN, gTupD, gLstD, uApp, flatD, toV, tYesD, Rs.bind_eq, Rs.bind_ok, Rs.bind_er, Rs.bind_no, S.frz, OC.frz, OB.frz, Option.bind_some, Option.bind_none, Option.bind, Option.map, List.map_cons, List.map_nil, List.cons_append, List.nil_append, List.append_nil, List.length_cons, List.length_nil, Nat.reduceAdd, Nat.reduceSub, List.replicate_succ, List.replicate_zero, List.getElem?_cons_zero, List.getElem?_cons_succ, List.set_cons_zero, List.set_cons_succ, Int.cast_ofNat_Int, ne_eq, not_true_eq_false, not_false_eq_true, decide_false, decide_true, Int.reduceLT, Int.reduceLE, Int.reduceGT, Int.reduceGE, Int.reduceEq, Int.reduceNeg, Int.reduceAdd, Int.reduceSub, Int.reduceMul, if_true, if_false, reduceIte, Bool.false_eq_true, Bool.true_eq_false, Bool.not_true, Bool.not_false, Nat.zero_add, true_and, and_true, ite_true, ite_false, gAdd_int, gSub_int, gNeg_int, gLt_int, gLe_int, gGt_int, gGe_int, gIs_non, gLen_tup, gLen_lst, gLen_scr, gMax2_int, gMin2_int, gInt_int, gInt_bl, gAbs_int, gTuple_tup, gTuple_lst, gIn_tI, gIn_lI, gIsi_int, gIsi_bool, gIsi_tuple, gIsi_list, gIsi_str, isOb, isIntD, isBlD, isTupD, isLstD, isStrD, F_check_moduli_ok h, F_check_seen_ok hs hd, F_had_by_d h hs hd, F_out_of_d hs hd, s0, fw, gEq_int]
theorem F_sure_rests_ok {ms : List Int} {seen : List (Int × Bool)} (h : MsOk ms) (hs : SeenOk seen) {d : D} (hd : d = .tup (seen.map seenD) ∨ d = .lst (seen.map seenD)) (hw : wayS ms (hadBy ms seen) (outsL seen) ≠ 0) : F_sure_rests [tI ms, d] = .ok (.d (.lst ((sureF ms (hadBy ms seen) (outsL seen) 0 ms).map rowE))) := by
  refine autoF_wp ?_
  have s0 : (0 : Nat) ≤ sizeLine := Nat.zero_le _
  have s2 : (2 : Nat) ≤ sizeLine := by decide
  have s4 : (4 : Nat) < sizeLine := by decide
  have hh := had_ok (seen := seen) h
  have ho := outs_len hs
  have fw := F_ways_d h hh ho
  have f1 := F_had_by_d h hs hd
  have f2 := F_out_of_d hs hd
  have hl := h.len
  unfold G_sure_rests
  refine wp_seq (by simp only [sSeq, sRet, sRetN, sExpr, sIf, sSet, sSetN, sAsg, sParM, sFor, sNx, sBk, sCt, sAug, sRz, sRm1, sRm2, sSetIx, sPutF, dV, dC, dOp, dUn, dLs, fz, nE, dB, dAnd, dOr, dNot, dAndV, dOrV, dNotV, dIf, dChI, dIsi, dCall, dCall0, dCallO, dCallO0, dMake, dMake0, dFld, dProp, dSlice, dLc, dMutL, pkE, pkT, rowD, oNone, oSome, aNil, aCons, aStar, mNil, mCons, putS, sOf, gN, gT, gsCons, gsNil, jSeq, jArg, seqD, rsO_some, rsO_none, out, startD, outO, startO, ocAt, olAt, frA, frS, lkN, putN, gTupD, gLstD, uApp, flatD, toV, tYesD, Rs.bind_eq, Rs.bind_ok, Rs.bind_er, Rs.bind_no, S.frz, OC.frz, OB.frz, Option.bind_some, Option.bind_none, Option.bind, Option.map, List.map_cons, List.map_nil, List.cons_append, List.nil_append, List.append_nil, List.length_cons, List.length_nil, Nat.reduceAdd, Nat.reduceSub, List.replicate_succ, List.replicate_zero, List.getElem?_cons_zero, List.getElem?_cons_succ, List.set_cons_zero, List.set_cons_succ, Int.cast_ofNat_Int, ne_eq, not_true_eq_false, not_false_eq_true, decide_false, decide_true, Int.reduceLT, Int.reduceLE, Int.reduceGT, Int.reduceGE, Int.reduceEq, Int.reduceNeg, Int.reduceAdd, Int.reduceSub, Int.reduceMul, if_true, if_false, reduceIte, Bool.false_eq_true, Bool.true_eq_false, Bool.not_true, Bool.not_false, Nat.zero_add, true_and, and_true, ite_true, ite_false, gAdd_int, gSub_int, gNeg_int, gLt_int, gLe_int, gGt_int, gGe_int, gIs_non, gLen_tup, gLen_lst, gLen_scr, gMax2_int, gMin2_int, gInt_int, gInt_bl, gAbs_int, gTuple_tup, gTuple_lst, gIn_tI, gIn_lI, gIsi_int, gIsi_bool, gIsi_tuple, gIsi_list, gIsi_str, isOb, isIntD, isBlD, isTupD, isLstD, isStrD, F_check_moduli_ok h]; rfl) ?_
  refine wp_seq (by simp only [sSeq, sRet, sRetN, sExpr, sIf, sSet, sSetN, sAsg, sParM, sFor, sNx, sBk, sCt, sAug, sRz, sRm1, sRm2, sSetIx, sPutF, dV, dC, dOp, dUn, dLs, fz, nE, dB, dAnd, dOr, dNot, dAndV, dOrV, dNotV, dIf, dChI, dIsi, dCall, dCall0, dCallO, dCallO0, dMake, dMake0, dFld, dProp, dSlice, dLc, dMutL, pkE, pkT, rowD, oNone, oSome, aNil, aCons, aStar, mNil, mCons, putS, sOf, gN, gT, gsCons, gsNil, jSeq, jArg, seqD, rsO_some, rsO_none, out, startD, outO, startO, ocAt, olAt, frA, frS, lkN, putN, gTupD, gLstD, uApp, flatD, toV, tYesD, Rs.bind_eq, Rs.bind_ok, Rs.bind_er, Rs.bind_no, S.frz, OC.frz, OB.frz, Option.bind_some, Option.bind_none, Option.bind, Option.map, List.map_cons, List.map_nil, List.cons_append, List.nil_append, List.append_nil, List.length_cons, List.length_nil, Nat.reduceAdd, Nat.reduceSub, List.replicate_succ, List.replicate_zero, List.getElem?_cons_zero, List.getElem?_cons_succ, List.set_cons_zero, List.set_cons_succ, Int.cast_ofNat_Int, ne_eq, not_true_eq_false, not_false_eq_true, decide_false, decide_true, Int.reduceLT, Int.reduceLE, Int.reduceGT, Int.reduceGE, Int.reduceEq, Int.reduceNeg, Int.reduceAdd, Int.reduceSub, Int.reduceMul, if_true, if_false, reduceIte, Bool.false_eq_true, Bool.true_eq_false, Bool.not_true, Bool.not_false, Nat.zero_add, true_and, and_true, ite_true, ite_false, gAdd_int, gSub_int, gNeg_int, gLt_int, gLe_int, gGt_int, gGe_int, gIs_non, gLen_tup, gLen_lst, gLen_scr, gMax2_int, gMin2_int, gInt_int, gInt_bl, gAbs_int, gTuple_tup, gTuple_lst, gIn_tI, gIn_lI, gIsi_int, gIsi_bool, gIsi_tuple, gIsi_list, gIsi_str, isOb, isIntD, isBlD, isTupD, isLstD, isStrD, F_check_seen_ok hs hd]; rfl) ?_
  generalize hadBy ms seen = had at *
  generalize outsL seen = o at *
  have fw : F_ways [tI ms, .dT (kT had), .lst (o.map .int)] = .ok (.d (.int (wayS ms had o))) := fw
  refine wp_seq (by simp only [sSeq, sRet, sRetN, sExpr, sIf, sSet, sSetN, sAsg, sParM, sFor, sNx, sBk, sCt, sAug, sRz, sRm1, sRm2, sSetIx, sPutF, dV, dC, dOp, dUn, dLs, fz, nE, dB, dAnd, dOr, dNot, dAndV, dOrV, dNotV, dIf, dChI, dIsi, dCall, dCall0, dCallO, dCallO0, dMake, dMake0, dFld, dProp, dSlice, dLc, dMutL, pkE, pkT, rowD, oNone, oSome, aNil, aCons, aStar, mNil, mCons, putS, sOf, gN, gT, gsCons, gsNil, jSeq, jArg, seqD, rsO_some, rsO_none, out, startD, outO, startO, ocAt, olAt, frA, frS, lkN, putN, gTupD, gLstD, uApp, flatD, toV, tYesD, Rs.bind_eq, Rs.bind_ok, Rs.bind_er, Rs.bind_no, S.frz, OC.frz, OB.frz, Option.bind_some, Option.bind_none, Option.bind, Option.map, List.map_cons, List.map_nil, List.cons_append, List.nil_append, List.append_nil, List.length_cons, List.length_nil, Nat.reduceAdd, Nat.reduceSub, List.replicate_succ, List.replicate_zero, List.getElem?_cons_zero, List.getElem?_cons_succ, List.set_cons_zero, List.set_cons_succ, Int.cast_ofNat_Int, ne_eq, not_true_eq_false, not_false_eq_true, decide_false, decide_true, Int.reduceLT, Int.reduceLE, Int.reduceGT, Int.reduceGE, Int.reduceEq, Int.reduceNeg, Int.reduceAdd, Int.reduceSub, Int.reduceMul, if_true, if_false, reduceIte, Bool.false_eq_true, Bool.true_eq_false, Bool.not_true, Bool.not_false, Nat.zero_add, true_and, and_true, ite_true, ite_false, gAdd_int, gSub_int, gNeg_int, gLt_int, gLe_int, gGt_int, gGe_int, gIs_non, gLen_tup, gLen_lst, gLen_scr, gMax2_int, gMin2_int, gInt_int, gInt_bl, gAbs_int, gTuple_tup, gTuple_lst, gIn_tI, gIn_lI, gIsi_int, gIsi_bool, gIsi_tuple, gIsi_list, gIsi_str, isOb, isIntD, isBlD, isTupD, isLstD, isStrD, f1, f2, s0]; rfl) ?_
  refine wp_seq (by simp only [sSeq, sRet, sRetN, sExpr, sIf, sSet, sSetN, sAsg, sParM, sFor, sNx, sBk, sCt, sAug, sRz, sRm1, sRm2, sSetIx, sPutF, dV, dC, dOp, dUn, dLs, fz, nE, dB, dAnd, dOr, dNot, dAndV, dOrV, dNotV, dIf, dChI, dIsi, dCall, dCall0, dCallO, dCallO0, dMake, dMake0, dFld, dProp, dSlice, dLc, dMutL, pkE, pkT, rowD, oNone, oSome, aNil, aCons, aStar, mNil, mCons, putS, sOf, gN, gT, gsCons, gsNil, jSeq, jArg, seqD, rsO_some, rsO_none, out, startD, outO, startO, ocAt, olAt, frA, frS, lkN, putN, gTupD, gLstD, uApp, flatD, toV, tYesD, Rs.bind_eq, Rs.bind_ok, Rs.bind_er, Rs.bind_no, S.frz, OC.frz, OB.frz, Option.bind_some, Option.bind_none, Option.bind, Option.map, List.map_cons, List.map_nil, List.cons_append, List.nil_append, List.append_nil, List.length_cons, List.length_nil, Nat.reduceAdd, Nat.reduceSub, List.replicate_succ, List.replicate_zero, List.getElem?_cons_zero, List.getElem?_cons_succ, List.set_cons_zero, List.set_cons_succ, Int.cast_ofNat_Int, ne_eq, not_true_eq_false, not_false_eq_true, decide_false, decide_true, Int.reduceLT, Int.reduceLE, Int.reduceGT, Int.reduceGE, Int.reduceEq, Int.reduceNeg, Int.reduceAdd, Int.reduceSub, Int.reduceMul, if_true, if_false, reduceIte, Bool.false_eq_true, Bool.true_eq_false, Bool.not_true, Bool.not_false, Nat.zero_add, true_and, and_true, ite_true, ite_false, gAdd_int, gSub_int, gNeg_int, gLt_int, gLe_int, gGt_int, gGe_int, gIs_non, gLen_tup, gLen_lst, gLen_scr, gMax2_int, gMin2_int, gInt_int, gInt_bl, gAbs_int, gTuple_tup, gTuple_lst, gIn_tI, gIn_lI, gIsi_int, gIsi_bool, gIsi_tuple, gIsi_list, gIsi_str, isOb, isIntD, isBlD, isTupD, isLstD, isStrD, fw]; rfl) ?_
  refine wp_seq_no (by simp only [sSeq, sRet, sRetN, sExpr, sIf, sSet, sSetN, sAsg, sParM, sFor, sNx, sBk, sCt, sAug, sRz, sRm1, sRm2, sSetIx, sPutF, dV, dC, dOp, dUn, dLs, fz, nE, dB, dAnd, dOr, dNot, dAndV, dOrV, dNotV, dIf, dChI, dIsi, dCall, dCall0, dCallO, dCallO0, dMake, dMake0, dFld, dProp, dSlice, dLc, dMutL, pkE, pkT, rowD, oNone, oSome, aNil, aCons, aStar, mNil, mCons, putS, sOf, gN, gT, gsCons, gsNil, jSeq, jArg, seqD, rsO_some, rsO_none, out, startD, outO, startO, ocAt, olAt, frA, frS, lkN, putN, gTupD, gLstD, uApp, flatD, toV, tYesD, Rs.bind_eq, Rs.bind_ok, Rs.bind_er, Rs.bind_no, S.frz, OC.frz, OB.frz, Option.bind_some, Option.bind_none, Option.bind, Option.map, List.map_cons, List.map_nil, List.cons_append, List.nil_append, List.append_nil, List.length_cons, List.length_nil, Nat.reduceAdd, Nat.reduceSub, List.replicate_succ, List.replicate_zero, List.getElem?_cons_zero, List.getElem?_cons_succ, List.set_cons_zero, List.set_cons_succ, Int.cast_ofNat_Int, ne_eq, not_true_eq_false, not_false_eq_true, decide_false, decide_true, Int.reduceLT, Int.reduceLE, Int.reduceGT, Int.reduceGE, Int.reduceEq, Int.reduceNeg, Int.reduceAdd, Int.reduceSub, Int.reduceMul, if_true, if_false, reduceIte, Bool.false_eq_true, Bool.true_eq_false, Bool.not_true, Bool.not_false, Nat.zero_add, true_and, and_true, ite_true, ite_false, gAdd_int, gSub_int, gNeg_int, gLt_int, gLe_int, gGt_int, gGe_int, gIs_non, gLen_tup, gLen_lst, gLen_scr, gMax2_int, gMin2_int, gInt_int, gInt_bl, gAbs_int, gTuple_tup, gTuple_lst, gIn_tI, gIn_lI, gIsi_int, gIsi_bool, gIsi_tuple, gIsi_list, gIsi_str, isOb, isIntD, isBlD, isTupD, isLstD, isStrD, gEq_int, decide_eq_false hw]; rfl) ?_
  have ee : enumG [tI ms] = some (enumK 0 (ms.map .int)) := by rw [← enumD_eq]; rfl
  refine wp_forix (items := enumK 0 (ms.map .int)) (fun i ρ => ∃ z6 z7 z8 z9 z10 z11 z12, ρ = [some (.d (tI ms)), some (.d d), some (.d (dTs had)), some (.d (lI o)), some (.o (oL ((sureF ms had o 0 (ms.take i)).map rowE))), some (.d (.int (wayS ms had o))), z6, z7, z8, z9, z10, z11, z12])
    (by simp only [sSeq, sRet, sRetN, sExpr, sIf, sSet, sSetN, sAsg, sParM, sFor, sNx, sBk, sCt, sAug, sRz, sRm1, sRm2, sSetIx, sPutF, dV, dC, dOp, dUn, dLs, fz, nE, dB, dAnd, dOr, dNot, dAndV, dOrV, dNotV, dIf, dChI, dIsi, dCall, dCall0, dCallO, dCallO0, dMake, dMake0, dFld, dProp, dSlice, dLc, dMutL, pkE, pkT, rowD, oNone, oSome, aNil, aCons, aStar, mNil, mCons, putS, sOf, gN, gT, gsCons, gsNil, jSeq, jArg, seqD, rsO_some, rsO_none, out, startD, outO, startO, ocAt, olAt, frA, frS, lkN, putN, gTupD, gLstD, uApp, flatD, toV, tYesD, Rs.bind_eq, Rs.bind_ok, Rs.bind_er, Rs.bind_no, S.frz, OC.frz, OB.frz, Option.bind_some, Option.bind_none, Option.bind, Option.map, List.map_cons, List.map_nil, List.cons_append, List.nil_append, List.append_nil, List.length_cons, List.length_nil, Nat.reduceAdd, Nat.reduceSub, List.replicate_succ, List.replicate_zero, List.getElem?_cons_zero, List.getElem?_cons_succ, List.set_cons_zero, List.set_cons_succ, Int.cast_ofNat_Int, ne_eq, not_true_eq_false, not_false_eq_true, decide_false, decide_true, Int.reduceLT, Int.reduceLE, Int.reduceGT, Int.reduceGE, Int.reduceEq, Int.reduceNeg, Int.reduceAdd, Int.reduceSub, Int.reduceMul, if_true, if_false, reduceIte, Bool.false_eq_true, Bool.true_eq_false, Bool.not_true, Bool.not_false, Nat.zero_add, true_and, and_true, ite_true, ite_false, gAdd_int, gSub_int, gNeg_int, gLt_int, gLe_int, gGt_int, gGe_int, gIs_non, gLen_tup, gLen_lst, gLen_scr, gMax2_int, gMin2_int, gInt_int, gInt_bl, gAbs_int, gTuple_tup, gTuple_lst, gIn_tI, gIn_lI, gIsi_int, gIsi_bool, gIsi_tuple, gIsi_list, gIsi_str, isOb, isIntD, isBlD, isTupD, isLstD, isStrD, ee]; rfl) ⟨_, _, _, _, _, _, _, rfl⟩ ?_ ?_
  · rintro i x ρ hx ⟨z6, z7, z8, z9, z10, z11, z12, rfl⟩
    have hil : i < ms.length := by
      have := (List.getElem?_eq_some_iff.mp hx).1
      rwa [← enumD_eq, enumD, List.length_map, List.length_zip, List.length_range, List.length_map, Nat.min_self] at this
    obtain ⟨m, hm⟩ : ∃ m, ms[i]? = some m := ⟨_, List.getElem?_eq_getElem hil⟩
    obtain rfl : x = .tup [.int (i : Nat), .int m] := by
      rw [← enumD_eq, enumD_get (d := .int m) (by rw [List.getElem?_map, hm]; rfl)] at hx
      exact (Option.some.inj hx).symm
    have hmr := h.rng m (List.mem_of_getElem? hm)
    refine ⟨_, rfl, ?_⟩
    unfold B_sure_rests_1
    refine wp_seq (by simp only [sSeq, sRet, sRetN, sExpr, sIf, sSet, sSetN, sAsg, sParM, sFor, sNx, sBk, sCt, sAug, sRz, sRm1, sRm2, sSetIx, sPutF, dV, dC, dOp, dUn, dLs, fz, nE, dB, dAnd, dOr, dNot, dAndV, dOrV, dNotV, dIf, dChI, dIsi, dCall, dCall0, dCallO, dCallO0, dMake, dMake0, dFld, dProp, dSlice, dLc, dMutL, pkE, pkT, rowD, oNone, oSome, aNil, aCons, aStar, mNil, mCons, putS, sOf, gN, gT, gsCons, gsNil, jSeq, jArg, seqD, rsO_some, rsO_none, out, startD, outO, startO, ocAt, olAt, frA, frS, lkN, putN, gTupD, gLstD, uApp, flatD, toV, tYesD, Rs.bind_eq, Rs.bind_ok, Rs.bind_er, Rs.bind_no, S.frz, OC.frz, OB.frz, Option.bind_some, Option.bind_none, Option.bind, Option.map, List.map_cons, List.map_nil, List.cons_append, List.nil_append, List.append_nil, List.length_cons, List.length_nil, Nat.reduceAdd, Nat.reduceSub, List.replicate_succ, List.replicate_zero, List.getElem?_cons_zero, List.getElem?_cons_succ, List.set_cons_zero, List.set_cons_succ, Int.cast_ofNat_Int, ne_eq, not_true_eq_false, not_false_eq_true, decide_false, decide_true, Int.reduceLT, Int.reduceLE, Int.reduceGT, Int.reduceGE, Int.reduceEq, Int.reduceNeg, Int.reduceAdd, Int.reduceSub, Int.reduceMul, if_true, if_false, reduceIte, Bool.false_eq_true, Bool.true_eq_false, Bool.not_true, Bool.not_false, Nat.zero_add, true_and, and_true, ite_true, ite_false, gAdd_int, gSub_int, gNeg_int, gLt_int, gLe_int, gGt_int, gGe_int, gIs_non, gLen_tup, gLen_lst, gLen_scr, gMax2_int, gMin2_int, gInt_int, gInt_bl, gAbs_int, gTuple_tup, gTuple_lst, gIn_tI, gIn_lI, gIsi_int, gIsi_bool, gIsi_tuple, gIsi_list, gIsi_str, isOb, isIntD, isBlD, isTupD, isLstD, isStrD, s0]; rfl) ?_
    have er : rg1 [.int m] = some ((zr m.toNat).map .int) := by
      have := rg1_nat (n := m.toNat) (by omega)
      rwa [Int.toNat_of_nonneg (by omega)] at this
    refine wp_forix (items := (zr m.toNat).map .int) (fun j ρ => ∃ z10 z11 z12, ρ = [some (.d (tI ms)), some (.d d), some (.d (dTs had)), some (.d (lI o)), some (.o (oL ((sureF ms had o 0 (ms.take i)).map rowE))), some (.d (.int (wayS ms had o))), some (.d (.int (i : Nat))), some (.d (.int m)), some (.o (oL ((sureRow ms had o i ((zr m.toNat).take j)).1.map .int))), some (.o (oL ((sureRow ms had o i ((zr m.toNat).take j)).2.map .int))), z10, z11, z12])
      (by simp only [sSeq, sRet, sRetN, sExpr, sIf, sSet, sSetN, sAsg, sParM, sFor, sNx, sBk, sCt, sAug, sRz, sRm1, sRm2, sSetIx, sPutF, dV, dC, dOp, dUn, dLs, fz, nE, dB, dAnd, dOr, dNot, dAndV, dOrV, dNotV, dIf, dChI, dIsi, dCall, dCall0, dCallO, dCallO0, dMake, dMake0, dFld, dProp, dSlice, dLc, dMutL, pkE, pkT, rowD, oNone, oSome, aNil, aCons, aStar, mNil, mCons, putS, sOf, gN, gT, gsCons, gsNil, jSeq, jArg, seqD, rsO_some, rsO_none, out, startD, outO, startO, ocAt, olAt, frA, frS, lkN, putN, gTupD, gLstD, uApp, flatD, toV, tYesD, Rs.bind_eq, Rs.bind_ok, Rs.bind_er, Rs.bind_no, S.frz, OC.frz, OB.frz, Option.bind_some, Option.bind_none, Option.bind, Option.map, List.map_cons, List.map_nil, List.cons_append, List.nil_append, List.append_nil, List.length_cons, List.length_nil, Nat.reduceAdd, Nat.reduceSub, List.replicate_succ, List.replicate_zero, List.getElem?_cons_zero, List.getElem?_cons_succ, List.set_cons_zero, List.set_cons_succ, Int.cast_ofNat_Int, ne_eq, not_true_eq_false, not_false_eq_true, decide_false, decide_true, Int.reduceLT, Int.reduceLE, Int.reduceGT, Int.reduceGE, Int.reduceEq, Int.reduceNeg, Int.reduceAdd, Int.reduceSub, Int.reduceMul, if_true, if_false, reduceIte, Bool.false_eq_true, Bool.true_eq_false, Bool.not_true, Bool.not_false, Nat.zero_add, true_and, and_true, ite_true, ite_false, gAdd_int, gSub_int, gNeg_int, gLt_int, gLe_int, gGt_int, gGe_int, gIs_non, gLen_tup, gLen_lst, gLen_scr, gMax2_int, gMin2_int, gInt_int, gInt_bl, gAbs_int, gTuple_tup, gTuple_lst, gIn_tI, gIn_lI, gIsi_int, gIsi_bool, gIsi_tuple, gIsi_list, gIsi_str, isOb, isIntD, isBlD, isTupD, isLstD, isStrD, er]; rfl) ⟨_, _, _, rfl⟩ (fun j x ρ hx hI => sr_in h hh ho hm j x ρ hx hI) ?_
    rintro ρ ⟨y10, y11, y12, rfl⟩
    rw [List.length_map, List.take_length]
    have sl : ((sureF ms had o 0 (ms.take i)).map rowE).length < sizeLine := by rw [List.length_map, sureF_len, List.length_take]; omega
    have es : (sureF ms had o 0 (ms.take (i + 1))).map rowE = (sureF ms had o 0 (ms.take i)).map rowE ++ [.tup [.lst ((sureRow ms had o i (zr m.toNat)).1.map .int), .lst ((sureRow ms had o i (zr m.toNat)).2.map .int)]] := by
      rw [take_succ_of hm, sureF_snoc, List.map_append, List.length_take, show 0 + min i ms.length = i by omega]
      rfl
    exact wp_nx (by simp only [sSeq, sRet, sRetN, sExpr, sIf, sSet, sSetN, sAsg, sParM, sFor, sNx, sBk, sCt, sAug, sRz, sRm1, sRm2, sSetIx, sPutF, dV, dC, dOp, dUn, dLs, fz, nE, dB, dAnd, dOr, dNot, dAndV, dOrV, dNotV, dIf, dChI, dIsi, dCall, dCall0, dCallO, dCallO0, dMake, dMake0, dFld, dProp, dSlice, dLc, dMutL, pkE, pkT, rowD, oNone, oSome, aNil, aCons, aStar, mNil, mCons, putS, sOf, gN, gT, gsCons, gsNil, jSeq, jArg, seqD, rsO_some, rsO_none, out, startD, outO, startO, ocAt, olAt, frA, frS, lkN, putN, gTupD, gLstD, uApp, flatD, toV, tYesD, Rs.bind_eq, Rs.bind_ok, Rs.bind_er, Rs.bind_no, S.frz, OC.frz, OB.frz, Option.bind_some, Option.bind_none, Option.bind, Option.map, List.map_cons, List.map_nil, List.cons_append, List.nil_append, List.append_nil, List.length_cons, List.length_nil, Nat.reduceAdd, Nat.reduceSub, List.replicate_succ, List.replicate_zero, List.getElem?_cons_zero, List.getElem?_cons_succ, List.set_cons_zero, List.set_cons_succ, Int.cast_ofNat_Int, ne_eq, not_true_eq_false, not_false_eq_true, decide_false, decide_true, Int.reduceLT, Int.reduceLE, Int.reduceGT, Int.reduceGE, Int.reduceEq, Int.reduceNeg, Int.reduceAdd, Int.reduceSub, Int.reduceMul, if_true, if_false, reduceIte, Bool.false_eq_true, Bool.true_eq_false, Bool.not_true, Bool.not_false, Nat.zero_add, true_and, and_true, ite_true, ite_false, gAdd_int, gSub_int, gNeg_int, gLt_int, gLe_int, gGt_int, gGe_int, gIs_non, gLen_tup, gLen_lst, gLen_scr, gMax2_int, gMin2_int, gInt_int, gInt_bl, gAbs_int, gTuple_tup, gTuple_lst, gIn_tI, gIn_lI, gIsi_int, gIsi_bool, gIsi_tuple, gIsi_list, gIsi_str, isOb, isIntD, isBlD, isTupD, isLstD, isStrD, s2, sl] <;> rfl) ⟨_, _, _, _, _, _, _, by rw [es]⟩
  · rintro ρ ⟨z6, z7, z8, z9, z10, z11, z12, rfl⟩
    have el : (enumK 0 (ms.map D.int)).length = ms.length := by rw [← enumD_eq, enumD, List.length_map, List.length_zip, List.length_range, List.length_map, Nat.min_self]
    rw [el, List.take_length]
    exact wp_rt (by simp only [sSeq, sRet, sRetN, sExpr, sIf, sSet, sSetN, sAsg, sParM, sFor, sNx, sBk, sCt, sAug, sRz, sRm1, sRm2, sSetIx, sPutF, dV, dC, dOp, dUn, dLs, fz, nE, dB, dAnd, dOr, dNot, dAndV, dOrV, dNotV, dIf, dChI, dIsi, dCall, dCall0, dCallO, dCallO0, dMake, dMake0, dFld, dProp, dSlice, dLc, dMutL, pkE, pkT, rowD, oNone, oSome, aNil, aCons, aStar, mNil, mCons, putS, sOf, gN, gT, gsCons, gsNil, jSeq, jArg, seqD, rsO_some, rsO_none, out, startD, outO, startO, ocAt, olAt, frA, frS, lkN, putN, gTupD, gLstD, uApp, flatD, toV, tYesD, Rs.bind_eq, Rs.bind_ok, Rs.bind_er, Rs.bind_no, S.frz, OC.frz, OB.frz, Option.bind_some, Option.bind_none, Option.bind, Option.map, List.map_cons, List.map_nil, List.cons_append, List.nil_append, List.append_nil, List.length_cons, List.length_nil, Nat.reduceAdd, Nat.reduceSub, List.replicate_succ, List.replicate_zero, List.getElem?_cons_zero, List.getElem?_cons_succ, List.set_cons_zero, List.set_cons_succ, Int.cast_ofNat_Int, ne_eq, not_true_eq_false, not_false_eq_true, decide_false, decide_true, Int.reduceLT, Int.reduceLE, Int.reduceGT, Int.reduceGE, Int.reduceEq, Int.reduceNeg, Int.reduceAdd, Int.reduceSub, Int.reduceMul, if_true, if_false, reduceIte, Bool.false_eq_true, Bool.true_eq_false, Bool.not_true, Bool.not_false, Nat.zero_add, true_and, and_true, ite_true, ite_false, gAdd_int, gSub_int, gNeg_int, gLt_int, gLe_int, gGt_int, gGe_int, gIs_non, gLen_tup, gLen_lst, gLen_scr, gMax2_int, gMin2_int, gInt_int, gInt_bl, gAbs_int, gTuple_tup, gTuple_lst, gIn_tI, gIn_lI, gIsi_int, gIsi_bool, gIsi_tuple, gIsi_list, gIsi_str, isOb, isIntD, isBlD, isTupD, isLstD, isStrD]; rfl)
theorem F_sure_rests_ms {d e : D} {x : Ex} (h : noOb 1 d = true) (hm : msR d = .er x) : F_sure_rests [d, e] = .er x := by
  refine (autoF_at).trans ?_
  have e1 := F_check_moduli_d h
  rw [hm] at e1
  simp only [G_sure_rests, sSeq, sRet, sRetN, sExpr, sIf, sSet, sSetN, sAsg, sParM, sFor, sNx, sBk, sCt, sAug, sRz, sRm1, sRm2, sSetIx, sPutF, dV, dC, dOp, dUn, dLs, fz, nE, dB, dAnd, dOr, dNot, dAndV, dOrV, dNotV, dIf, dChI, dIsi, dCall, dCall0, dCallO, dCallO0, dMake, dMake0, dFld, dProp, dSlice, dLc, dMutL, pkE, pkT, rowD, oNone, oSome, aNil, aCons, aStar, mNil, mCons, putS, sOf, gN, gT, gsCons, gsNil, jSeq, jArg, seqD, rsO_some, rsO_none, out, startD, outO, startO, ocAt, olAt, frA, frS, lkN, putN, gTupD, gLstD, uApp, flatD, toV, tYesD, Rs.bind_eq, Rs.bind_ok, Rs.bind_er, Rs.bind_no, S.frz, OC.frz, OB.frz, Option.bind_some, Option.bind_none, Option.bind, Option.map, List.map_cons, List.map_nil, List.cons_append, List.nil_append, List.append_nil, List.length_cons, List.length_nil, Nat.reduceAdd, Nat.reduceSub, List.replicate_succ, List.replicate_zero, List.getElem?_cons_zero, List.getElem?_cons_succ, List.set_cons_zero, List.set_cons_succ, Int.cast_ofNat_Int, ne_eq, not_true_eq_false, not_false_eq_true, decide_false, decide_true, Int.reduceLT, Int.reduceLE, Int.reduceGT, Int.reduceGE, Int.reduceEq, Int.reduceNeg, Int.reduceAdd, Int.reduceSub, Int.reduceMul, if_true, if_false, reduceIte, Bool.false_eq_true, Bool.true_eq_false, Bool.not_true, Bool.not_false, Nat.zero_add, true_and, and_true, ite_true, ite_false, gAdd_int, gSub_int, gNeg_int, gLt_int, gLe_int, gGt_int, gGe_int, gIs_non, gLen_tup, gLen_lst, gLen_scr, gMax2_int, gMin2_int, gInt_int, gInt_bl, gAbs_int, gTuple_tup, gTuple_lst, gIn_tI, gIn_lI, gIsi_int, gIsi_bool, gIsi_tuple, gIsi_list, gIsi_str, isOb, isIntD, isBlD, isTupD, isLstD, isStrD, e1]
theorem F_sure_rests_se {ms : List Int} {d : D} {x : Ex} (h : MsOk ms) (hd : noOb 2 d = true) (hn : ∀ ns, d ≠ .scr ns) (hm : seR d = .er x) : F_sure_rests [tI ms, d] = .er x := by
  refine (autoF_at).trans ?_
  have e1 := F_check_seen_d hd hn
  rw [hm] at e1
  simp only [G_sure_rests, sSeq, sRet, sRetN, sExpr, sIf, sSet, sSetN, sAsg, sParM, sFor, sNx, sBk, sCt, sAug, sRz, sRm1, sRm2, sSetIx, sPutF, dV, dC, dOp, dUn, dLs, fz, nE, dB, dAnd, dOr, dNot, dAndV, dOrV, dNotV, dIf, dChI, dIsi, dCall, dCall0, dCallO, dCallO0, dMake, dMake0, dFld, dProp, dSlice, dLc, dMutL, pkE, pkT, rowD, oNone, oSome, aNil, aCons, aStar, mNil, mCons, putS, sOf, gN, gT, gsCons, gsNil, jSeq, jArg, seqD, rsO_some, rsO_none, out, startD, outO, startO, ocAt, olAt, frA, frS, lkN, putN, gTupD, gLstD, uApp, flatD, toV, tYesD, Rs.bind_eq, Rs.bind_ok, Rs.bind_er, Rs.bind_no, S.frz, OC.frz, OB.frz, Option.bind_some, Option.bind_none, Option.bind, Option.map, List.map_cons, List.map_nil, List.cons_append, List.nil_append, List.append_nil, List.length_cons, List.length_nil, Nat.reduceAdd, Nat.reduceSub, List.replicate_succ, List.replicate_zero, List.getElem?_cons_zero, List.getElem?_cons_succ, List.set_cons_zero, List.set_cons_succ, Int.cast_ofNat_Int, ne_eq, not_true_eq_false, not_false_eq_true, decide_false, decide_true, Int.reduceLT, Int.reduceLE, Int.reduceGT, Int.reduceGE, Int.reduceEq, Int.reduceNeg, Int.reduceAdd, Int.reduceSub, Int.reduceMul, if_true, if_false, reduceIte, Bool.false_eq_true, Bool.true_eq_false, Bool.not_true, Bool.not_false, Nat.zero_add, true_and, and_true, ite_true, ite_false, gAdd_int, gSub_int, gNeg_int, gLt_int, gLe_int, gGt_int, gGe_int, gIs_non, gLen_tup, gLen_lst, gLen_scr, gMax2_int, gMin2_int, gInt_int, gInt_bl, gAbs_int, gTuple_tup, gTuple_lst, gIn_tI, gIn_lI, gIsi_int, gIsi_bool, gIsi_tuple, gIsi_list, gIsi_str, isOb, isIntD, isBlD, isTupD, isLstD, isStrD, F_check_moduli_ok h, e1]
end RL

namespace RL
open PySem PySem.Spec PyProof.Rows L2
noncomputable def G__law_told_there : FS := sSeq (sSet 3 (dC .non))
 (sSeq (sTryS (sSet 3 (dIf (dB (dV 2)) (fz (dCall F_many_lots (aCons (dV 0) (aCons (dV 1) (aNil))))) (fz (dCall F_sure_rests (aCons (dV 0) (aCons (dV 1) (aNil))))))) 4 [⟨"BadModuli", [("RestError", false), ("Nothing", false), ("BadModuli", true), ("BadSeen", false)], sSetL 3 [.s "moduli", .f "index"]⟩, ⟨"BadSeen", [("RestError", false), ("Nothing", false), ("BadModuli", false), ("BadSeen", true)], sSetL 3 [.s "seen", .f "index"]⟩])
 (sRet (dV 3)))
--FRZ
noncomputable def F__law_told_there : List D → Fr := autoF 3 5 G__law_told_there
theorem ok__law_told_there : ∀ (ds : List D), F__law_told_there ds ≠ .no → ds.length = 3 ∧ out (G__law_told_there (startD 5 ds)) = F__law_told_there ds := autoF_ok
theorem tt_ms {d e w : D} {v : V} {b : Bool} (h : noOb 1 d = true) (hm : msR d = .er ⟨"BadModuli", [("index", v)]⟩) (hv : ofV v = some w) : F__law_told_there [d, e, .bl b] = .ok (.d (.lst [.str "moduli", w])) := by
  refine (autoF_at).trans ?_
  have l5 : (4 : Nat) < 5 := by decide
  have lk1 : List.lookup ("BadModuli" : Str) ([("RestError", false), ("Nothing", false), ("BadModuli", true), ("BadSeen", false)] : List (Str × Bool)) = some true := by rfl
  have lk3 : List.lookup ("index" : Str) ([("index", v)] : List (Str × V)) = some v := by rfl
  have s2 : (2 : Nat) ≤ 10 := by decide
  cases b
  · simp only [G__law_told_there, sTryS, tryGo, sSetL, valsD, valD, endX, sSeq, sRet, sRetN, sExpr, sIf, sSet, sSetN, sAsg, sParM, sFor, sNx, sBk, sCt, sAug, sRz, sRm1, sRm2, sSetIx, sPutF, dV, dC, dOp, dUn, dLs, fz, nE, dB, dAnd, dOr, dNot, dAndV, dOrV, dNotV, dIf, dChI, dIsi, dCall, dCall0, dCallO, dCallO0, dMake, dMake0, dFld, dProp, dSlice, dLc, dMutL, pkE, pkT, rowD, oNone, oSome, aNil, aCons, aStar, mNil, mCons, putS, sOf, gN, gT, gsCons, gsNil, jSeq, jArg, seqD, rsO_some, rsO_none, out, startD, outO, startO, ocAt, olAt, frA, frS, lkN, putN, gTupD, gLstD, uApp, flatD, toV, tYesD, Rs.bind_eq, Rs.bind_ok, Rs.bind_er, Rs.bind_no, S.frz, OC.frz, OB.frz, Option.bind_some, Option.bind_none, Option.bind, Option.map, List.map_cons, List.map_nil, List.cons_append, List.nil_append, List.append_nil, List.length_cons, List.length_nil, Nat.reduceAdd, Nat.reduceSub, List.replicate_succ, List.replicate_zero, List.getElem?_cons_zero, List.getElem?_cons_succ, List.set_cons_zero, List.set_cons_succ, Int.cast_ofNat_Int, ne_eq, not_true_eq_false, not_false_eq_true, decide_false, decide_true, Int.reduceLT, Int.reduceLE, Int.reduceGT, Int.reduceGE, Int.reduceEq, Int.reduceNeg, Int.reduceAdd, Int.reduceSub, Int.reduceMul, if_true, if_false, reduceIte, Bool.false_eq_true, Bool.true_eq_false, Bool.not_true, Bool.not_false, Nat.zero_add, true_and, and_true, ite_true, ite_false, gAdd_int, gSub_int, gNeg_int, gLt_int, gLe_int, gGt_int, gGe_int, gIs_non, gLen_tup, gLen_lst, gLen_scr, gMax2_int, gMin2_int, gInt_int, gInt_bl, gAbs_int, gTuple_tup, gTuple_lst, gIn_tI, gIn_lI, gIsi_int, gIsi_bool, gIsi_tuple, gIsi_list, gIsi_str, isOb, isIntD, isBlD, isTupD, isLstD, isStrD, F_sure_rests_ms h hm, lk1, lk3, hv, l5, s2]
  · simp only [G__law_told_there, sTryS, tryGo, sSetL, valsD, valD, endX, sSeq, sRet, sRetN, sExpr, sIf, sSet, sSetN, sAsg, sParM, sFor, sNx, sBk, sCt, sAug, sRz, sRm1, sRm2, sSetIx, sPutF, dV, dC, dOp, dUn, dLs, fz, nE, dB, dAnd, dOr, dNot, dAndV, dOrV, dNotV, dIf, dChI, dIsi, dCall, dCall0, dCallO, dCallO0, dMake, dMake0, dFld, dProp, dSlice, dLc, dMutL, pkE, pkT, rowD, oNone, oSome, aNil, aCons, aStar, mNil, mCons, putS, sOf, gN, gT, gsCons, gsNil, jSeq, jArg, seqD, rsO_some, rsO_none, out, startD, outO, startO, ocAt, olAt, frA, frS, lkN, putN, gTupD, gLstD, uApp, flatD, toV, tYesD, Rs.bind_eq, Rs.bind_ok, Rs.bind_er, Rs.bind_no, S.frz, OC.frz, OB.frz, Option.bind_some, Option.bind_none, Option.bind, Option.map, List.map_cons, List.map_nil, List.cons_append, List.nil_append, List.append_nil, List.length_cons, List.length_nil, Nat.reduceAdd, Nat.reduceSub, List.replicate_succ, List.replicate_zero, List.getElem?_cons_zero, List.getElem?_cons_succ, List.set_cons_zero, List.set_cons_succ, Int.cast_ofNat_Int, ne_eq, not_true_eq_false, not_false_eq_true, decide_false, decide_true, Int.reduceLT, Int.reduceLE, Int.reduceGT, Int.reduceGE, Int.reduceEq, Int.reduceNeg, Int.reduceAdd, Int.reduceSub, Int.reduceMul, if_true, if_false, reduceIte, Bool.false_eq_true, Bool.true_eq_false, Bool.not_true, Bool.not_false, Nat.zero_add, true_and, and_true, ite_true, ite_false, gAdd_int, gSub_int, gNeg_int, gLt_int, gLe_int, gGt_int, gGe_int, gIs_non, gLen_tup, gLen_lst, gLen_scr, gMax2_int, gMin2_int, gInt_int, gInt_bl, gAbs_int, gTuple_tup, gTuple_lst, gIn_tI, gIn_lI, gIsi_int, gIsi_bool, gIsi_tuple, gIsi_list, gIsi_str, isOb, isIntD, isBlD, isTupD, isLstD, isStrD, F_many_lots_ms h hm, lk1, lk3, hv, l5, s2]
theorem tt_se {ms : List Int} {d w : D} {v : V} {b : Bool} (h : MsOk ms) (hd : noOb 2 d = true) (hn : ∀ ns, d ≠ .scr ns) (hm : seR d = .er ⟨"BadSeen", [("index", v)]⟩) (hv : ofV v = some w) : F__law_told_there [tI ms, d, .bl b] = .ok (.d (.lst [.str "seen", w])) := by
  refine (autoF_at).trans ?_
  have l5 : (4 : Nat) < 5 := by decide
  have lk1 : List.lookup ("BadSeen" : Str) ([("RestError", false), ("Nothing", false), ("BadModuli", true), ("BadSeen", false)] : List (Str × Bool)) = some false := by rfl
  have lk2 : List.lookup ("BadSeen" : Str) ([("RestError", false), ("Nothing", false), ("BadModuli", false), ("BadSeen", true)] : List (Str × Bool)) = some true := by rfl
  have lk3 : List.lookup ("index" : Str) ([("index", v)] : List (Str × V)) = some v := by rfl
  have s2 : (2 : Nat) ≤ 10 := by decide
  cases b
  · simp only [G__law_told_there, sTryS, tryGo, sSetL, valsD, valD, endX, sSeq, sRet, sRetN, sExpr, sIf, sSet, sSetN, sAsg, sParM, sFor, sNx, sBk, sCt, sAug, sRz, sRm1, sRm2, sSetIx, sPutF, dV, dC, dOp, dUn, dLs, fz, nE, dB, dAnd, dOr, dNot, dAndV, dOrV, dNotV, dIf, dChI, dIsi, dCall, dCall0, dCallO, dCallO0, dMake, dMake0, dFld, dProp, dSlice, dLc, dMutL, pkE, pkT, rowD, oNone, oSome, aNil, aCons, aStar, mNil, mCons, putS, sOf, gN, gT, gsCons, gsNil, jSeq, jArg, seqD, rsO_some, rsO_none, out, startD, outO, startO, ocAt, olAt, frA, frS, lkN, putN, gTupD, gLstD, uApp, flatD, toV, tYesD, Rs.bind_eq, Rs.bind_ok, Rs.bind_er, Rs.bind_no, S.frz, OC.frz, OB.frz, Option.bind_some, Option.bind_none, Option.bind, Option.map, List.map_cons, List.map_nil, List.cons_append, List.nil_append, List.append_nil, List.length_cons, List.length_nil, Nat.reduceAdd, Nat.reduceSub, List.replicate_succ, List.replicate_zero, List.getElem?_cons_zero, List.getElem?_cons_succ, List.set_cons_zero, List.set_cons_succ, Int.cast_ofNat_Int, ne_eq, not_true_eq_false, not_false_eq_true, decide_false, decide_true, Int.reduceLT, Int.reduceLE, Int.reduceGT, Int.reduceGE, Int.reduceEq, Int.reduceNeg, Int.reduceAdd, Int.reduceSub, Int.reduceMul, if_true, if_false, reduceIte, Bool.false_eq_true, Bool.true_eq_false, Bool.not_true, Bool.not_false, Nat.zero_add, true_and, and_true, ite_true, ite_false, gAdd_int, gSub_int, gNeg_int, gLt_int, gLe_int, gGt_int, gGe_int, gIs_non, gLen_tup, gLen_lst, gLen_scr, gMax2_int, gMin2_int, gInt_int, gInt_bl, gAbs_int, gTuple_tup, gTuple_lst, gIn_tI, gIn_lI, gIsi_int, gIsi_bool, gIsi_tuple, gIsi_list, gIsi_str, isOb, isIntD, isBlD, isTupD, isLstD, isStrD, F_sure_rests_se h hd hn hm, lk1, lk2, lk3, hv, l5, s2]
  · simp only [G__law_told_there, sTryS, tryGo, sSetL, valsD, valD, endX, sSeq, sRet, sRetN, sExpr, sIf, sSet, sSetN, sAsg, sParM, sFor, sNx, sBk, sCt, sAug, sRz, sRm1, sRm2, sSetIx, sPutF, dV, dC, dOp, dUn, dLs, fz, nE, dB, dAnd, dOr, dNot, dAndV, dOrV, dNotV, dIf, dChI, dIsi, dCall, dCall0, dCallO, dCallO0, dMake, dMake0, dFld, dProp, dSlice, dLc, dMutL, pkE, pkT, rowD, oNone, oSome, aNil, aCons, aStar, mNil, mCons, putS, sOf, gN, gT, gsCons, gsNil, jSeq, jArg, seqD, rsO_some, rsO_none, out, startD, outO, startO, ocAt, olAt, frA, frS, lkN, putN, gTupD, gLstD, uApp, flatD, toV, tYesD, Rs.bind_eq, Rs.bind_ok, Rs.bind_er, Rs.bind_no, S.frz, OC.frz, OB.frz, Option.bind_some, Option.bind_none, Option.bind, Option.map, List.map_cons, List.map_nil, List.cons_append, List.nil_append, List.append_nil, List.length_cons, List.length_nil, Nat.reduceAdd, Nat.reduceSub, List.replicate_succ, List.replicate_zero, List.getElem?_cons_zero, List.getElem?_cons_succ, List.set_cons_zero, List.set_cons_succ, Int.cast_ofNat_Int, ne_eq, not_true_eq_false, not_false_eq_true, decide_false, decide_true, Int.reduceLT, Int.reduceLE, Int.reduceGT, Int.reduceGE, Int.reduceEq, Int.reduceNeg, Int.reduceAdd, Int.reduceSub, Int.reduceMul, if_true, if_false, reduceIte, Bool.false_eq_true, Bool.true_eq_false, Bool.not_true, Bool.not_false, Nat.zero_add, true_and, and_true, ite_true, ite_false, gAdd_int, gSub_int, gNeg_int, gLt_int, gLe_int, gGt_int, gGe_int, gIs_non, gLen_tup, gLen_lst, gLen_scr, gMax2_int, gMin2_int, gInt_int, gInt_bl, gAbs_int, gTuple_tup, gTuple_lst, gIn_tI, gIn_lI, gIsi_int, gIsi_bool, gIsi_tuple, gIsi_list, gIsi_str, isOb, isIntD, isBlD, isTupD, isLstD, isStrD, F_many_lots_se h hd hn hm, lk1, lk2, lk3, hv, l5, s2]
end RL

namespace RL
open PySem PySem.Spec PyProof.Rows L2
noncomputable def E_law_1 : FE := fz (dOp gAdd (dC (.int 1)) (fz (dCallO0 1 F__law_pick (aCons (dC (.int 30)) (aNil)))))
noncomputable def E_law_2 : FE := fz (dLs gTupD (aCons (fz (dCallO0 1 F__law_far (aNil))) (aCons (dC (.bl true)) (aNil))))
noncomputable def B_law_1 : FS := sSeq (sSet 3 (fz (dLs gTuple (aCons (fz (dLc (jArg rg1 (aCons (fz (dOp gAdd (dC (.int 1)) (fz (dCallO0 1 F__law_pick (aCons (dC (.int 4)) (aNil)))))) (aNil))) (gN 4) (tYesD) (E_law_1) [4])) (aNil)))))
 (sSeq (sParM [5, 6] (mCons (nE (fz (dLc (jArg rg1 (aCons (fz (dCallO0 1 F__law_pick (aCons (dC (.int 5)) (aNil)))) (aNil))) (gN 4) (tYesD) (E_law_2) [4]))) (mCons (nE (fz (dOp gEq (fz (dCallO0 1 F__law_pick (aCons (dC (.int 2)) (aNil)))) (dC (.int 0))))) (mNil))))
 (sSeq (sSet 7 (fz (dCallO0 1 F__law_pick (aCons (fz (dLs gLen (aCons (dV 3) (aNil)))) (aNil)))))
 (sSeq (sSet 8 (fz (dOp gAdd (fz (dOp gAdd (fz (dSlice gSl (dV 3) oNone (oSome (dV 7)))) (fz (dLs gTupD (aCons (fz (dOp gIx (fz (dLs gLstD (aCons (dC (.int 0)) (aCons (dC (.int 31)) (aCons (fz (dUn gNeg (dC (.int 1)))) (aCons (dC (.bl true)) (aCons (dC .non) (aCons (dC (.str "2")) (aNil))))))))) (fz (dCallO0 1 F__law_pick (aCons (dC (.int 6)) (aNil)))))) (aNil)))))) (fz (dSlice gSl (dV 3) (oSome (fz (dOp gAdd (dV 7) (dC (.int 1))))) oNone)))))
 (sSeq (sIf (dB (fz (dOp gNe (fz (dCall0 F__law_told_there (aCons (dV 8) (aCons (dC .non) (aCons (dV 6) (aNil)))))) (fz (dLs gLstD (aCons (dC (.str "moduli")) (aCons (dV 7) (aNil)))))))) (sRet (dC (.bl false))) (sNx))
 (sSeq (sIf (dB (fz (dOp gNe (fz (dCall0 F__law_told_there (aCons (fz (dOp gIx (fz (dLs gLstD (aCons (dC .non) (aCons (fz (dLs gTupD (aNil))) (aCons (fz (dLs gList (aCons (dV 3) (aNil)))) (aCons (fz (dOp gRepT (fz (dLs gTupD (aCons (dC (.int 2)) (aNil)))) (dC (.int 5)))) (aCons (dC (.int 4)) (aNil)))))))) (fz (dCallO0 1 F__law_pick (aCons (dC (.int 5)) (aNil)))))) (aCons (dC .non) (aCons (dV 6) (aNil)))))) (fz (dLs gLstD (aCons (dC (.str "moduli")) (aCons (dC .non) (aNil)))))))) (sRet (dC (.bl false))) (sNx))
 (sSeq (sSetN 9 (dLs gLstD (aCons (dC .non) (aCons (fz (dLs gTupD (aCons (dC (.int 1)) (aNil)))) (aCons (fz (dLs gLstD (aCons (dC (.int 1)) (aCons (dC (.bl true)) (aNil))))) (aCons (fz (dLs gTupD (aCons (dC (.int 1)) (aCons (dC (.int 1)) (aNil))))) (aCons (fz (dLs gTupD (aCons (dC (.bl true)) (aCons (dC (.bl true)) (aNil))))) (aCons (fz (dLs gTupD (aCons (dC (.str "1")) (aCons (dC (.bl true)) (aNil))))) (aCons (fz (dLs gTupD (aCons (fz (dOp gAdd (fz (dOp gPow (dC (.int 10)) (dC (.int 30)))) (dC (.int 1)))) (aCons (dC (.bl true)) (aNil))))) (aCons (fz (dLs gTupD (aCons (dC (.int 1)) (aCons (dC .non) (aNil))))) (aNil)))))))))))
 (sSeq (sExpr (dMutL 9 uApp (aCons (fz (dLs gTupD (aCons (dC (.int 1)) (aCons (dC (.bl true)) (aCons (dC (.bl true)) (aNil)))))) (aNil))))
 (sSeq (sSet 8 (fz (dOp gAdd (dV 5) (fz (dLs gLstD (aCons (fz (dOp gIx (dV 9) (fz (dCallO0 1 F__law_pick (aCons (dC (.int 9)) (aNil)))))) (aCons (dC .non) (aNil))))))))
 (sSeq (sIf (dB (fz (dOp gNe (fz (dCall0 F__law_told_there (aCons (dV 3) (aCons (dV 8) (aCons (dV 6) (aNil)))))) (fz (dLs gLstD (aCons (dC (.str "seen")) (aCons (fz (dLs gLen (aCons (dV 5) (aNil)))) (aNil)))))))) (sRet (dC (.bl false))) (sNx))
 (sSeq (sIf (dB (fz (dOp gNe (fz (dCall0 F__law_told_there (aCons (dV 3) (aCons (fz (dOp gIx (fz (dLs gLstD (aCons (dC .non) (aCons (dC (.str "seen")) (aCons (fz (dDict0)) (aCons (fz (dOp gMul (fz (dLs gLstD (aCons (fz (dLs gTupD (aCons (dC (.int 1)) (aCons (dC (.bl true)) (aNil))))) (aNil)))) (dC (.int 21)))) (aNil))))))) (fz (dCallO0 1 F__law_pick (aCons (dC (.int 4)) (aNil)))))) (aCons (dV 6) (aNil)))))) (fz (dLs gLstD (aCons (dC (.str "seen")) (aCons (dC .non) (aNil)))))))) (sRet (dC (.bl false))) (sNx))
 (sIf (dB (fz (dOp gNe (fz (dCall0 F__law_told_there (aCons (dV 3) (aCons (fz (dOp gAdd (fz (dLs gTuple (aCons (dV 5) (aNil)))) (fz (dOp gRepT (fz (dLs gTupD (aCons (fz (dLs gTupD (aCons (dC (.int 0)) (aCons (dC (.bl false)) (aNil))))) (aNil)))) (dC (.int 9)))))) (aCons (dV 6) (aNil)))))) (fz (dLs gLstD (aCons (dC (.str "seen")) (aCons (fz (dOp gAdd (fz (dLs gLen (aCons (dV 5) (aNil)))) (dC (.int 8)))) (aNil)))))))) (sRet (dC (.bl false))) (sNx))))))))))))
noncomputable def G_law : FS := sSeq (sSetN 1 (dCall0 F__law_draws (aCons (dV 0) (aNil))))
 (sSeq (sFor (jArg rg1 (aCons (dC (.int 4)) (aNil))) (gN 2) (B_law_1))
 (sRetN (dOp gEq (fz (dCall0 F_many_lots (aCons (fz (dLs gTupD (aCons (dC (.int 30)) (aCons (dC (.int 30)) (aCons (dC (.int 30)) (aCons (dC (.int 30)) (aNil))))))) (aCons (fz (dOp gMul (fz (dLs gLstD (aCons (fz (dLs gTupD (aCons (dC (.int 5)) (aCons (dC (.bl true)) (aNil))))) (aNil)))) (dC (.int 20)))) (aNil))))) (fz (dOp gMul (fz (dOp gPow (dC (.int 2)) (dC (.int 58)))) (fz (dOp gPow (dC (.int 2)) (dC (.int 58)))))))))
--FRZ
theorem gNe_lsi (x : Str) (n : Int) (h : PyData.strOk x = true) : gNe (.lst [.str x, .int n]) (.lst [.str x, .int n]) = some (.d (.bl false)) := by
  simp [gNe, plainD, h, eqD, toP, toPs, PyData.eqv, PyData.eqvAll]
theorem gNe_lsn (x : Str) (h : PyData.strOk x = true) : gNe (.lst [.str x, .non]) (.lst [.str x, .non]) = some (.d (.bl false)) := by
  simp [gNe, plainD, h, eqD, toP, toPs, PyData.eqv, PyData.eqvAll]
theorem seenBad_at : ∀ (seen : List (Int × Bool)) (k : Nat) (o : Int) (d : D) (r : List D), (∀ p ∈ seen, (-far ≤ p.1 ∧ p.1 ≤ far) ∧ p.2 = true) → o ≤ 8 → isSeenD d = false → seenBad k o (seen.map seenD ++ d :: r) = some (k + seen.length)
  | [], k, o, d, r, _, _, hd => by
    show seenBad k o (d :: r) = _
    unfold seenBad
    rw [hd, if_neg (by decide)]
    rfl
  | p :: s, k, o, d, r, h, ho, hd => by
    obtain ⟨n, b⟩ := p
    obtain ⟨hp, hb⟩ := h (n, b) (by simp)
    dsimp only at hb hp
    subst hb
    show seenBad k o (seenD (n, true) :: (s.map seenD ++ d :: r)) = _
    unfold seenBad
    have e : isSeenD (seenD (n, true)) = true := by
      show (isFromD (.int n) (-far) far && true) = true
      rw [isFromD_of hp.1 hp.2]
      rfl
    have eo : outI (seenD (n, true)) = 0 := rfl
    rw [if_pos e, eo, if_neg (by omega), seenBad_at s (k + 1) (o + 0) d r (fun x hx => h x (by simp [hx])) (by omega) hd, List.length_cons]
    congr 1
    omega
theorem seenBad_out : ∀ (n : Nat) (k : Nat) (o : Int), o ≤ 8 → o + (n : Int) > 8 → seenBad k o (List.replicate n (seenD (0, false))) = some (k + (8 - o).toNat)
  | 0, k, o, h1, h2 => absurd h2 (by omega)
  | n + 1, k, o, h1, h2 => by
    rw [List.replicate_succ]
    unfold seenBad
    have e : isSeenD (seenD (0, false)) = true := by decide +kernel
    have eo : outI (seenD (0, false)) = 1 := rfl
    rw [if_pos e, eo]
    by_cases ho : o + 1 > 8
    · rw [if_pos ho]
      congr 1
      omega
    · rw [if_neg ho, seenBad_out n (k + 1) (o + 1) (by omega) (by omega)]
      congr 1
      omega
theorem seenBad_app : ∀ (seen : List (Int × Bool)) (k : Nat) (o : Int) (r : List D), (∀ p ∈ seen, (-far ≤ p.1 ∧ p.1 ≤ far) ∧ p.2 = true) → o ≤ 8 → seenBad k o (seen.map seenD ++ r) = seenBad (k + seen.length) o r
  | [], k, o, r, _, _ => rfl
  | p :: s, k, o, r, h, ho => by
    obtain ⟨n, b⟩ := p
    obtain ⟨hp, hb⟩ := h (n, b) (by simp)
    dsimp only at hb hp
    subst hb
    show seenBad k o (seenD (n, true) :: (s.map seenD ++ r)) = _
    conv => lhs; unfold seenBad
    have e : isSeenD (seenD (n, true)) = true := by
      show (isFromD (.int n) (-far) far && true) = true
      rw [isFromD_of hp.1 hp.2]
      rfl
    have eo : outI (seenD (n, true)) = 0 := rfl
    rw [if_pos e, eo, if_neg (by omega), seenBad_app s (k + 1) (o + 0) r (fun x hx => h x (by simp [hx])) (by omega), List.length_cons, Int.add_zero, show k + 1 + s.length = k + (s.length + 1) by omega]
theorem big_ways : wayS [30, 30, 30, 30] (hadBy [30, 30, 30, 30] (List.replicate 20 (5, true))) (outsL (List.replicate 20 (5, true))) = 2 ^ 58 * 2 ^ 58 := by decide +kernel
abbrev k33I (z0 : S) : Sl → Prop := fun ρ => ∃ (q : RowS) (z2 z3 z5 z6 z7 z8 z9 : Option S), RowOk q ∧ ρ = [some z0, some (.o ⟨none, q.ob⟩), z2, z3, none, z5, z6, z7, z8, z9]
theorem k33_odd {j : Int} (j0 : 0 ≤ j) (j1 : j < 6) : ∃ a, gIx (.lst [.int 0, .int 31, .int (-1), .bl true, .non, .str "2"]) (.int j) = some (.d a) ∧ isOb a = false ∧ isFromD a 1 30 = false := by
  obtain rfl | rfl | rfl | rfl | rfl | rfl : j = 0 ∨ j = 1 ∨ j = 2 ∨ j = 3 ∨ j = 4 ∨ j = 5 := by omega
  · exact ⟨_, gIx_l0, rfl, rfl⟩
  · exact ⟨_, gIx_l1, rfl, rfl⟩
  · exact ⟨_, gIx_l2, rfl, rfl⟩
  · exact ⟨_, gIx_l3, rfl, rfl⟩
  · exact ⟨_, gIx_lst (atI_nat (j := 4) rfl), rfl, rfl⟩
  · exact ⟨_, gIx_lst (atI_nat (j := 5) rfl), rfl, rfl⟩
theorem k33_ms {ms : List Int} {j : Int} (j0 : 0 ≤ j) (j1 : j < 5) : ∃ a, gIx (.lst [.non, .tup [], .lst (ms.map .int), .tup [.int 2, .int 2, .int 2, .int 2, .int 2], .int 4]) (.int j) = some (.d a) ∧ noOb 1 a = true ∧ msR a = .er ⟨"BadModuli", [("index", .non)]⟩ := by
  obtain rfl | rfl | rfl | rfl | rfl : j = 0 ∨ j = 1 ∨ j = 2 ∨ j = 3 ∨ j = 4 := by omega
  · exact ⟨_, gIx_l0, rfl, rfl⟩
  · exact ⟨_, gIx_l1, rfl, rfl⟩
  · refine ⟨_, gIx_l2, ?_, rfl⟩
    show (ms.map D.int).all (noOb 0) = true
    rw [List.all_map, List.all_eq_true]
    exact fun _ _ => rfl
  · exact ⟨_, gIx_l3, rfl, rfl⟩
  · exact ⟨_, gIx_lst (atI_nat (j := 4) rfl), rfl, rfl⟩
theorem k33_sd {j : Int} (j0 : 0 ≤ j) (j1 : j < 9) : ∃ a, gIx (.lst [.non, .tup [.int 1], .lst [.int 1, .bl true], .tup [.int 1, .int 1], .tup [.bl true, .bl true], .tup [.str "1", .bl true], .tup [.int (10 ^ 30 + 1), .bl true], .tup [.int 1, .non], .tup [.int 1, .bl true, .bl true]]) (.int j) = some (.d a) ∧ noOb 1 a = true ∧ isSeenD a = false := by
  obtain rfl | rfl | rfl | rfl | rfl | rfl | rfl | rfl | rfl : j = 0 ∨ j = 1 ∨ j = 2 ∨ j = 3 ∨ j = 4 ∨ j = 5 ∨ j = 6 ∨ j = 7 ∨ j = 8 := by omega
  · exact ⟨_, gIx_l0, rfl, rfl⟩
  · exact ⟨_, gIx_l1, rfl, rfl⟩
  · exact ⟨_, gIx_l2, rfl, rfl⟩
  · exact ⟨_, gIx_l3, rfl, by decide +kernel⟩
  · exact ⟨_, gIx_lst (atI_nat (j := 4) rfl), rfl, rfl⟩
  · exact ⟨_, gIx_lst (atI_nat (j := 5) rfl), rfl, rfl⟩
  · exact ⟨_, gIx_lst (atI_nat (j := 6) rfl), rfl, by decide +kernel⟩
  · exact ⟨_, gIx_lst (atI_nat (j := 7) rfl), rfl, by decide +kernel⟩
  · exact ⟨_, gIx_lst (atI_nat (j := 8) rfl), rfl, rfl⟩
theorem k33_se {L : List D} (hL : L.length = 21) (hn : noOb 2 (.lst L) = true) {j : Int} (j0 : 0 ≤ j) (j1 : j < 4) : ∃ a, gIx (.lst [.non, .str "seen", .dK [], .lst L]) (.int j) = some (.d a) ∧ noOb 2 a = true ∧ (∀ ns, a ≠ .scr ns) ∧ seR a = .er ⟨"BadSeen", [("index", .non)]⟩ := by
  obtain rfl | rfl | rfl | rfl : j = 0 ∨ j = 1 ∨ j = 2 ∨ j = 3 := by omega
  · exact ⟨_, gIx_l0, rfl, (fun _ z => by cases z), rfl⟩
  · exact ⟨_, gIx_l1, rfl, (fun _ z => by cases z), rfl⟩
  · exact ⟨_, gIx_l2, rfl, (fun _ z => by cases z), rfl⟩
  · refine ⟨_, gIx_l3, hn, (fun _ z => by cases z), ?_⟩
    show seenR L = _
    unfold seenR
    rw [if_neg (by omega)]
theorem k33_body {z0 : S} (x : D) (ρ : Sl) (hI : k33I z0 ρ) : ∃ ρ1, gN 2 x ρ = some ρ1 ∧ wpS (B_law_1 ρ1) (nxQ (k33I z0)) := by
  obtain ⟨q, z2, z3, z5, z6, z7, z8, z9, hq, rfl⟩ := hI
  refine ⟨_, rfl, ?_⟩
  have s0 : (0 : Nat) ≤ sizeLine := Nat.zero_le _
  have s1 : (1 : Nat) ≤ sizeLine := by decide
  have s2 : (2 : Nat) ≤ sizeLine := by decide
  have s3 : (3 : Nat) ≤ sizeLine := by decide
  have s4 : (4 : Nat) ≤ sizeLine := by decide
  have s5 : (5 : Nat) ≤ sizeLine := by decide
  have s6 : (6 : Nat) ≤ sizeLine := by decide
  have s8 : (8 : Nat) ≤ sizeLine := by decide
  have s8' : (8 : Nat) < sizeLine := by decide
  have s50 : (50 : Nat) ≤ sizeLine := by decide
  have so1 : PyData.strOk ("moduli" : Str) = true := by decide +kernel
  have so2 : PyData.strOk ("seen" : Str) = true := by decide +kernel
  obtain ⟨u, q1, e1, hq1, u0, u1⟩ := pick_ex hq (m := 4) (by decide)
  obtain ⟨n, hn⟩ : ∃ n : Nat, 1 + u = ((n : Nat) : Int) := ⟨(1 + u).toNat, by omega⟩
  have hn2 : 1 ≤ n ∧ n ≤ 4 := by omega
  obtain ⟨ms, q2, hq2, hml, hmr, c1⟩ := lcL_drawn RowOk (fun m : Int => 1 ≤ m ∧ m ≤ 30) (g := gN 4) (fe := E_law_1) (vs := [4]) (fun t : Nat => D.int (0 + (t : Nat))) D.int (fun q => [some z0, some (.o ⟨none, q.ob⟩), some (.d x), z3, none, z5, z6, z7, z8, z9]) (List.range n) [] q1 hq1 (by simp; omega)
    (fun t _ q hq => by
      obtain ⟨a, qa, ea, hqa, a0, a1⟩ := pick_ex hq (m := 30) (by decide)
      exact ⟨1 + a, _, _, qa, hqa, by omega, rfl, by simp only [E_law_1, sSeq, sRet, sRetN, sExpr, sIf, sSet, sSetN, sAsg, sParM, sFor, sNx, sBk, sCt, sAug, sRz, sRm1, sRm2, sSetIx, sPutF, dV, dC, dOp, dUn, dLs, fz, nE, dB, dAnd, dOr, dNot, dAndV, dOrV, dNotV, dIf, dChI, dIsi, dCall, dCall0, dCallO, dCallO0, dMake, dMake0, dFld, dProp, dSlice, dLc, dMutL, pkE, pkT, rowD, oNone, oSome, aNil, aCons, aStar, mNil, mCons, putS, sOf, gN, gT, gsCons, gsNil, jSeq, jArg, seqD, rsO_some, rsO_none, out, startD, outO, startO, ocAt, olAt, frA, frS, lkN, putN, gTupD, gLstD, uApp, flatD, toV, tYesD, Rs.bind_eq, Rs.bind_ok, Rs.bind_er, Rs.bind_no, S.frz, OC.frz, OB.frz, Option.bind_some, Option.bind_none, Option.bind, Option.map, List.map_cons, List.map_nil, List.cons_append, List.nil_append, List.append_nil, List.length_cons, List.length_nil, Nat.reduceAdd, Nat.reduceSub, List.replicate_succ, List.replicate_zero, List.getElem?_cons_zero, List.getElem?_cons_succ, List.set_cons_zero, List.set_cons_succ, Int.cast_ofNat_Int, ne_eq, not_true_eq_false, not_false_eq_true, decide_false, decide_true, Int.reduceLT, Int.reduceLE, Int.reduceGT, Int.reduceGE, Int.reduceEq, Int.reduceNeg, Int.reduceAdd, Int.reduceSub, Int.reduceMul, if_true, if_false, reduceIte, Bool.false_eq_true, Bool.true_eq_false, Bool.not_true, Bool.not_false, Nat.zero_add, true_and, and_true, ite_true, ite_false, gAdd_int, gSub_int, gNeg_int, gLt_int, gLe_int, gGt_int, gGe_int, gIs_non, gLen_tup, gLen_lst, gLen_scr, gMax2_int, gMin2_int, gInt_int, gInt_bl, gAbs_int, gTuple_tup, gTuple_lst, gIn_tI, gIn_lI, gIsi_int, gIsi_bool, gIsi_tuple, gIsi_list, gIsi_str, isOb, isIntD, isBlD, isTupD, isLstD, isStrD, ea]; rfl, rfl⟩)
  rw [List.nil_append] at c1
  rw [List.length_range] at hml
  have hok : MsOk ms := ⟨by omega, by omega, hmr⟩
  have er1 : rg1 [.int ((n : Nat) : Int)] = some ((List.range n).map fun t : Nat => D.int (0 + (t : Nat))) := rg1_int (j := (n : Nat)) (by omega)
  unfold B_law_1
  refine wp_seq (by simp only [sSeq, sRet, sRetN, sExpr, sIf, sSet, sSetN, sAsg, sParM, sFor, sNx, sBk, sCt, sAug, sRz, sRm1, sRm2, sSetIx, sPutF, dV, dC, dOp, dUn, dLs, fz, nE, dB, dAnd, dOr, dNot, dAndV, dOrV, dNotV, dIf, dChI, dIsi, dCall, dCall0, dCallO, dCallO0, dMake, dMake0, dFld, dProp, dSlice, dLc, dMutL, pkE, pkT, rowD, oNone, oSome, aNil, aCons, aStar, mNil, mCons, putS, sOf, gN, gT, gsCons, gsNil, jSeq, jArg, seqD, rsO_some, rsO_none, out, startD, outO, startO, ocAt, olAt, frA, frS, lkN, putN, gTupD, gLstD, uApp, flatD, toV, tYesD, Rs.bind_eq, Rs.bind_ok, Rs.bind_er, Rs.bind_no, S.frz, OC.frz, OB.frz, Option.bind_some, Option.bind_none, Option.bind, Option.map, List.map_cons, List.map_nil, List.cons_append, List.nil_append, List.append_nil, List.length_cons, List.length_nil, Nat.reduceAdd, Nat.reduceSub, List.replicate_succ, List.replicate_zero, List.getElem?_cons_zero, List.getElem?_cons_succ, List.set_cons_zero, List.set_cons_succ, Int.cast_ofNat_Int, ne_eq, not_true_eq_false, not_false_eq_true, decide_false, decide_true, Int.reduceLT, Int.reduceLE, Int.reduceGT, Int.reduceGE, Int.reduceEq, Int.reduceNeg, Int.reduceAdd, Int.reduceSub, Int.reduceMul, if_true, if_false, reduceIte, Bool.false_eq_true, Bool.true_eq_false, Bool.not_true, Bool.not_false, Nat.zero_add, true_and, and_true, ite_true, ite_false, gAdd_int, gSub_int, gNeg_int, gLt_int, gLe_int, gGt_int, gGe_int, gIs_non, gLen_tup, gLen_lst, gLen_scr, gMax2_int, gMin2_int, gInt_int, gInt_bl, gAbs_int, gTuple_tup, gTuple_lst, gIn_tI, gIn_lI, gIsi_int, gIsi_bool, gIsi_tuple, gIsi_list, gIsi_str, isOb, isIntD, isBlD, isTupD, isLstD, isStrD, e1, hn, er1, wipeD, c1]; rfl) ?_
  obtain ⟨v, q3, e3, hq3, v0, v1⟩ := pick_ex hq2 (m := 5) (by decide)
  obtain ⟨j, hj⟩ : ∃ j : Nat, v = ((j : Nat) : Int) := ⟨v.toNat, by omega⟩
  obtain ⟨seen, q4, hq4, hsl, hsr, c2⟩ := lcL_drawn RowOk (fun p : Int × Bool => (-far ≤ p.1 ∧ p.1 ≤ far) ∧ p.2 = true) (g := gN 4) (fe := E_law_2) (vs := [4]) (fun t : Nat => D.int (0 + (t : Nat))) seenD (fun q => [some z0, some (.o ⟨none, q.ob⟩), some (.d x), some (.d (tI ms)), none, z5, z6, z7, z8, z9]) (List.range j) [] q3 hq3 (by simp; omega)
    (fun t _ q hq => by
      obtain ⟨a, qa, ea, hqa, a0, a1⟩ := far_ex hq
      exact ⟨(a, true), _, _, qa, hqa, ⟨⟨by unfold far; omega, by unfold far; omega⟩, rfl⟩, rfl, by simp only [E_law_2, sSeq, sRet, sRetN, sExpr, sIf, sSet, sSetN, sAsg, sParM, sFor, sNx, sBk, sCt, sAug, sRz, sRm1, sRm2, sSetIx, sPutF, dV, dC, dOp, dUn, dLs, fz, nE, dB, dAnd, dOr, dNot, dAndV, dOrV, dNotV, dIf, dChI, dIsi, dCall, dCall0, dCallO, dCallO0, dMake, dMake0, dFld, dProp, dSlice, dLc, dMutL, pkE, pkT, rowD, oNone, oSome, aNil, aCons, aStar, mNil, mCons, putS, sOf, gN, gT, gsCons, gsNil, jSeq, jArg, seqD, rsO_some, rsO_none, out, startD, outO, startO, ocAt, olAt, frA, frS, lkN, putN, gTupD, gLstD, uApp, flatD, toV, tYesD, Rs.bind_eq, Rs.bind_ok, Rs.bind_er, Rs.bind_no, S.frz, OC.frz, OB.frz, Option.bind_some, Option.bind_none, Option.bind, Option.map, List.map_cons, List.map_nil, List.cons_append, List.nil_append, List.append_nil, List.length_cons, List.length_nil, Nat.reduceAdd, Nat.reduceSub, List.replicate_succ, List.replicate_zero, List.getElem?_cons_zero, List.getElem?_cons_succ, List.set_cons_zero, List.set_cons_succ, Int.cast_ofNat_Int, ne_eq, not_true_eq_false, not_false_eq_true, decide_false, decide_true, Int.reduceLT, Int.reduceLE, Int.reduceGT, Int.reduceGE, Int.reduceEq, Int.reduceNeg, Int.reduceAdd, Int.reduceSub, Int.reduceMul, if_true, if_false, reduceIte, Bool.false_eq_true, Bool.true_eq_false, Bool.not_true, Bool.not_false, Nat.zero_add, true_and, and_true, ite_true, ite_false, gAdd_int, gSub_int, gNeg_int, gLt_int, gLe_int, gGt_int, gGe_int, gIs_non, gLen_tup, gLen_lst, gLen_scr, gMax2_int, gMin2_int, gInt_int, gInt_bl, gAbs_int, gTuple_tup, gTuple_lst, gIn_tI, gIn_lI, gIsi_int, gIsi_bool, gIsi_tuple, gIsi_list, gIsi_str, isOb, isIntD, isBlD, isTupD, isLstD, isStrD, ea, s2]; rfl, rfl⟩)
  rw [List.nil_append] at c2
  rw [List.length_range] at hsl
  have er2 : rg1 [.int v] = some ((List.range j).map fun t : Nat => D.int (0 + (t : Nat))) := by rw [hj]; exact rg1_int (j := (j : Nat)) (by omega)
  obtain ⟨b, q5, e5, hq5, b0, b1⟩ := pick_ex hq4 (m := 2) (by decide)
  refine wp_seq (by simp only [sSeq, sRet, sRetN, sExpr, sIf, sSet, sSetN, sAsg, sParM, sFor, sNx, sBk, sCt, sAug, sRz, sRm1, sRm2, sSetIx, sPutF, dV, dC, dOp, dUn, dLs, fz, nE, dB, dAnd, dOr, dNot, dAndV, dOrV, dNotV, dIf, dChI, dIsi, dCall, dCall0, dCallO, dCallO0, dMake, dMake0, dFld, dProp, dSlice, dLc, dMutL, pkE, pkT, rowD, oNone, oSome, aNil, aCons, aStar, mNil, mCons, putS, sOf, gN, gT, gsCons, gsNil, jSeq, jArg, seqD, rsO_some, rsO_none, out, startD, outO, startO, ocAt, olAt, frA, frS, lkN, putN, gTupD, gLstD, uApp, flatD, toV, tYesD, Rs.bind_eq, Rs.bind_ok, Rs.bind_er, Rs.bind_no, S.frz, OC.frz, OB.frz, Option.bind_some, Option.bind_none, Option.bind, Option.map, List.map_cons, List.map_nil, List.cons_append, List.nil_append, List.append_nil, List.length_cons, List.length_nil, Nat.reduceAdd, Nat.reduceSub, List.replicate_succ, List.replicate_zero, List.getElem?_cons_zero, List.getElem?_cons_succ, List.set_cons_zero, List.set_cons_succ, Int.cast_ofNat_Int, ne_eq, not_true_eq_false, not_false_eq_true, decide_false, decide_true, Int.reduceLT, Int.reduceLE, Int.reduceGT, Int.reduceGE, Int.reduceEq, Int.reduceNeg, Int.reduceAdd, Int.reduceSub, Int.reduceMul, if_true, if_false, reduceIte, Bool.false_eq_true, Bool.true_eq_false, Bool.not_true, Bool.not_false, Nat.zero_add, true_and, and_true, ite_true, ite_false, gAdd_int, gSub_int, gNeg_int, gLt_int, gLe_int, gGt_int, gGe_int, gIs_non, gLen_tup, gLen_lst, gLen_scr, gMax2_int, gMin2_int, gInt_int, gInt_bl, gAbs_int, gTuple_tup, gTuple_lst, gIn_tI, gIn_lI, gIsi_int, gIsi_bool, gIsi_tuple, gIsi_list, gIsi_str, isOb, isIntD, isBlD, isTupD, isLstD, isStrD, e3, er2, wipeD, c2, e5, gEq_int]; rfl) ?_
  generalize decide (b = 0) = im
  obtain ⟨a, q6, e6, hq6, a0, a1⟩ := pick_ex hq5 (m := ((ms.length : Nat) : Int)) ⟨by omega, by omega⟩
  obtain ⟨i, rfl⟩ : ∃ i : Nat, a = i := ⟨a.toNat, by omega⟩
  refine wp_seq (by simp only [sSeq, sRet, sRetN, sExpr, sIf, sSet, sSetN, sAsg, sParM, sFor, sNx, sBk, sCt, sAug, sRz, sRm1, sRm2, sSetIx, sPutF, dV, dC, dOp, dUn, dLs, fz, nE, dB, dAnd, dOr, dNot, dAndV, dOrV, dNotV, dIf, dChI, dIsi, dCall, dCall0, dCallO, dCallO0, dMake, dMake0, dFld, dProp, dSlice, dLc, dMutL, pkE, pkT, rowD, oNone, oSome, aNil, aCons, aStar, mNil, mCons, putS, sOf, gN, gT, gsCons, gsNil, jSeq, jArg, seqD, rsO_some, rsO_none, out, startD, outO, startO, ocAt, olAt, frA, frS, lkN, putN, gTupD, gLstD, uApp, flatD, toV, tYesD, Rs.bind_eq, Rs.bind_ok, Rs.bind_er, Rs.bind_no, S.frz, OC.frz, OB.frz, Option.bind_some, Option.bind_none, Option.bind, Option.map, List.map_cons, List.map_nil, List.cons_append, List.nil_append, List.append_nil, List.length_cons, List.length_nil, Nat.reduceAdd, Nat.reduceSub, List.replicate_succ, List.replicate_zero, List.getElem?_cons_zero, List.getElem?_cons_succ, List.set_cons_zero, List.set_cons_succ, Int.cast_ofNat_Int, ne_eq, not_true_eq_false, not_false_eq_true, decide_false, decide_true, Int.reduceLT, Int.reduceLE, Int.reduceGT, Int.reduceGE, Int.reduceEq, Int.reduceNeg, Int.reduceAdd, Int.reduceSub, Int.reduceMul, if_true, if_false, reduceIte, Bool.false_eq_true, Bool.true_eq_false, Bool.not_true, Bool.not_false, Nat.zero_add, true_and, and_true, ite_true, ite_false, gAdd_int, gSub_int, gNeg_int, gLt_int, gLe_int, gGt_int, gGe_int, gIs_non, gLen_tup, gLen_lst, gLen_scr, gMax2_int, gMin2_int, gInt_int, gInt_bl, gAbs_int, gTuple_tup, gTuple_lst, gIn_tI, gIn_lI, gIsi_int, gIsi_bool, gIsi_tuple, gIsi_list, gIsi_str, isOb, isIntD, isBlD, isTupD, isLstD, isStrD, List.length_map, e6]; rfl) ?_
  have t1 : gSl (tI ms) none (some ((i : Nat) : Int)) = some (.d (tI (ms.take i))) := by rw [gSl_tto, ← List.map_take]
  have ei1 : ((i : Nat) : Int) + 1 = ((i + 1 : Nat) : Int) := by omega
  have t2 : gSl (tI ms) (some ((i + 1 : Nat) : Int)) none = some (.d (tI (ms.drop (i + 1)))) := by rw [gSl_tfrom, ← List.map_drop]
  obtain ⟨c, q7, e7, hq7, c0, c1'⟩ := pick_ex hq6 (m := 6) (by decide)
  obtain ⟨d, ed, d1, d2⟩ := k33_odd c0 c1'
  have g1 : gAdd (tI (ms.take i)) (.tup [d]) = some (.d (.tup ((ms.take i).map .int ++ [d]))) := gAdd_tup (by simp; omega)
  have g2 : gAdd (.tup ((ms.take i).map .int ++ [d])) (tI (ms.drop (i + 1))) = some (.d (.tup ((ms.take i).map .int ++ [d] ++ (ms.drop (i + 1)).map .int))) := gAdd_tup (by simp; omega)
  refine wp_seq (by simp only [sSeq, sRet, sRetN, sExpr, sIf, sSet, sSetN, sAsg, sParM, sFor, sNx, sBk, sCt, sAug, sRz, sRm1, sRm2, sSetIx, sPutF, dV, dC, dOp, dUn, dLs, fz, nE, dB, dAnd, dOr, dNot, dAndV, dOrV, dNotV, dIf, dChI, dIsi, dCall, dCall0, dCallO, dCallO0, dMake, dMake0, dFld, dProp, dSlice, dLc, dMutL, pkE, pkT, rowD, oNone, oSome, aNil, aCons, aStar, mNil, mCons, putS, sOf, gN, gT, gsCons, gsNil, jSeq, jArg, seqD, rsO_some, rsO_none, out, startD, outO, startO, ocAt, olAt, frA, frS, lkN, putN, gTupD, gLstD, uApp, flatD, toV, tYesD, Rs.bind_eq, Rs.bind_ok, Rs.bind_er, Rs.bind_no, S.frz, OC.frz, OB.frz, Option.bind_some, Option.bind_none, Option.bind, Option.map, List.map_cons, List.map_nil, List.cons_append, List.nil_append, List.append_nil, List.length_cons, List.length_nil, Nat.reduceAdd, Nat.reduceSub, List.replicate_succ, List.replicate_zero, List.getElem?_cons_zero, List.getElem?_cons_succ, List.set_cons_zero, List.set_cons_succ, Int.cast_ofNat_Int, ne_eq, not_true_eq_false, not_false_eq_true, decide_false, decide_true, Int.reduceLT, Int.reduceLE, Int.reduceGT, Int.reduceGE, Int.reduceEq, Int.reduceNeg, Int.reduceAdd, Int.reduceSub, Int.reduceMul, if_true, if_false, reduceIte, Bool.false_eq_true, Bool.true_eq_false, Bool.not_true, Bool.not_false, Nat.zero_add, true_and, and_true, ite_true, ite_false, gAdd_int, gSub_int, gNeg_int, gLt_int, gLe_int, gGt_int, gGe_int, gIs_non, gLen_tup, gLen_lst, gLen_scr, gMax2_int, gMin2_int, gInt_int, gInt_bl, gAbs_int, gTuple_tup, gTuple_lst, gIn_tI, gIn_lI, gIsi_int, gIsi_bool, gIsi_tuple, gIsi_list, gIsi_str, isOb, isIntD, isBlD, isTupD, isLstD, isStrD, t1, s6, e7, ed, s1, g1, ei1, t2, g2]; rfl) ?_
  have f1 : F__law_told_there [.tup ((ms.take i).map .int ++ [d] ++ (ms.drop (i + 1)).map .int), .non, .bl im] = .ok (.d (.lst [.str "moduli", .int ((i : Nat) : Int)])) := by
    refine tt_ms (v := .int ((i : Nat) : Int)) ?_ ?_ rfl
    · show ((ms.take i).map D.int ++ [d] ++ (ms.drop (i + 1)).map D.int).all (noOb 0) = true
      have hd0 : noOb 0 d = true := by cases d <;> first | rfl | (cases d1; done)
      have ha : ∀ l : List Int, (l.map D.int).all (noOb 0) = true := fun l => by
        rw [List.all_map, List.all_eq_true]
        exact fun _ _ => rfl
      rw [List.all_append, List.all_append, ha, ha, show ([d] : List D).all (noOb 0) = true by rw [List.all_cons, hd0]; rfl]
      rfl
    · have hi : i < ms.length := by omega
      show msT _ = _
      unfold msT
      rw [if_pos (by simp; omega), List.append_assoc, List.singleton_append, firstBad_at (fun y hy => by
        obtain ⟨m, hm, rfl⟩ := List.mem_map.mp hy
        have := hmr m (List.mem_of_mem_take hm)
        exact isFromD_of this.1 this.2) d2]
      simp
      omega
  refine wp_seq_no (by simp only [sSeq, sRet, sRetN, sExpr, sIf, sSet, sSetN, sAsg, sParM, sFor, sNx, sBk, sCt, sAug, sRz, sRm1, sRm2, sSetIx, sPutF, dV, dC, dOp, dUn, dLs, fz, nE, dB, dAnd, dOr, dNot, dAndV, dOrV, dNotV, dIf, dChI, dIsi, dCall, dCall0, dCallO, dCallO0, dMake, dMake0, dFld, dProp, dSlice, dLc, dMutL, pkE, pkT, rowD, oNone, oSome, aNil, aCons, aStar, mNil, mCons, putS, sOf, gN, gT, gsCons, gsNil, jSeq, jArg, seqD, rsO_some, rsO_none, out, startD, outO, startO, ocAt, olAt, frA, frS, lkN, putN, gTupD, gLstD, uApp, flatD, toV, tYesD, Rs.bind_eq, Rs.bind_ok, Rs.bind_er, Rs.bind_no, S.frz, OC.frz, OB.frz, Option.bind_some, Option.bind_none, Option.bind, Option.map, List.map_cons, List.map_nil, List.cons_append, List.nil_append, List.append_nil, List.length_cons, List.length_nil, Nat.reduceAdd, Nat.reduceSub, List.replicate_succ, List.replicate_zero, List.getElem?_cons_zero, List.getElem?_cons_succ, List.set_cons_zero, List.set_cons_succ, Int.cast_ofNat_Int, ne_eq, not_true_eq_false, not_false_eq_true, decide_false, decide_true, Int.reduceLT, Int.reduceLE, Int.reduceGT, Int.reduceGE, Int.reduceEq, Int.reduceNeg, Int.reduceAdd, Int.reduceSub, Int.reduceMul, if_true, if_false, reduceIte, Bool.false_eq_true, Bool.true_eq_false, Bool.not_true, Bool.not_false, Nat.zero_add, true_and, and_true, ite_true, ite_false, gAdd_int, gSub_int, gNeg_int, gLt_int, gLe_int, gGt_int, gGe_int, gIs_non, gLen_tup, gLen_lst, gLen_scr, gMax2_int, gMin2_int, gInt_int, gInt_bl, gAbs_int, gTuple_tup, gTuple_lst, gIn_tI, gIn_lI, gIsi_int, gIsi_bool, gIsi_tuple, gIsi_list, gIsi_str, isOb, isIntD, isBlD, isTupD, isLstD, isStrD, f1, s2, gNe_lsi _ _ so1]; rfl) ?_
  obtain ⟨e, q8, e8, hq8, h80, h81⟩ := pick_ex hq7 (m := 5) (by decide)
  obtain ⟨w, ew, w1, w2⟩ := k33_ms (ms := ms) h80 h81
  have f2 := tt_ms (e := .non) (b := im) (v := .non) w1 w2 rfl
  have r5 : gRepT (.tup [.int 2]) (.int 5) = some (.d (.tup [.int 2, .int 2, .int 2, .int 2, .int 2])) := gRepT_tup (by simp) (by decide) (by decide) (by decide)
  have gl : gList [tI ms] = some (.o (oL (ms.map .int))) := rfl
  refine wp_seq_no (by simp only [sSeq, sRet, sRetN, sExpr, sIf, sSet, sSetN, sAsg, sParM, sFor, sNx, sBk, sCt, sAug, sRz, sRm1, sRm2, sSetIx, sPutF, dV, dC, dOp, dUn, dLs, fz, nE, dB, dAnd, dOr, dNot, dAndV, dOrV, dNotV, dIf, dChI, dIsi, dCall, dCall0, dCallO, dCallO0, dMake, dMake0, dFld, dProp, dSlice, dLc, dMutL, pkE, pkT, rowD, oNone, oSome, aNil, aCons, aStar, mNil, mCons, putS, sOf, gN, gT, gsCons, gsNil, jSeq, jArg, seqD, rsO_some, rsO_none, out, startD, outO, startO, ocAt, olAt, frA, frS, lkN, putN, gTupD, gLstD, uApp, flatD, toV, tYesD, Rs.bind_eq, Rs.bind_ok, Rs.bind_er, Rs.bind_no, S.frz, OC.frz, OB.frz, Option.bind_some, Option.bind_none, Option.bind, Option.map, List.map_cons, List.map_nil, List.cons_append, List.nil_append, List.append_nil, List.length_cons, List.length_nil, Nat.reduceAdd, Nat.reduceSub, List.replicate_succ, List.replicate_zero, List.getElem?_cons_zero, List.getElem?_cons_succ, List.set_cons_zero, List.set_cons_succ, Int.cast_ofNat_Int, ne_eq, not_true_eq_false, not_false_eq_true, decide_false, decide_true, Int.reduceLT, Int.reduceLE, Int.reduceGT, Int.reduceGE, Int.reduceEq, Int.reduceNeg, Int.reduceAdd, Int.reduceSub, Int.reduceMul, if_true, if_false, reduceIte, Bool.false_eq_true, Bool.true_eq_false, Bool.not_true, Bool.not_false, Nat.zero_add, true_and, and_true, ite_true, ite_false, gAdd_int, gSub_int, gNeg_int, gLt_int, gLe_int, gGt_int, gGe_int, gIs_non, gLen_tup, gLen_lst, gLen_scr, gMax2_int, gMin2_int, gInt_int, gInt_bl, gAbs_int, gTuple_tup, gTuple_lst, gIn_tI, gIn_lI, gIsi_int, gIsi_bool, gIsi_tuple, gIsi_list, gIsi_str, isOb, isIntD, isBlD, isTupD, isLstD, isStrD, s0, gl, s1, r5, s5, e8, ew, f2, s2, gNe_lsn _ so1]; rfl) ?_
  have p30 : gPow (.int 10) (.int 30) = some (.d (.int (10 ^ 30))) := by rfl
  refine wp_seq (by simp only [sSeq, sRet, sRetN, sExpr, sIf, sSet, sSetN, sAsg, sParM, sFor, sNx, sBk, sCt, sAug, sRz, sRm1, sRm2, sSetIx, sPutF, dV, dC, dOp, dUn, dLs, fz, nE, dB, dAnd, dOr, dNot, dAndV, dOrV, dNotV, dIf, dChI, dIsi, dCall, dCall0, dCallO, dCallO0, dMake, dMake0, dFld, dProp, dSlice, dLc, dMutL, pkE, pkT, rowD, oNone, oSome, aNil, aCons, aStar, mNil, mCons, putS, sOf, gN, gT, gsCons, gsNil, jSeq, jArg, seqD, rsO_some, rsO_none, out, startD, outO, startO, ocAt, olAt, frA, frS, lkN, putN, gTupD, gLstD, uApp, flatD, toV, tYesD, Rs.bind_eq, Rs.bind_ok, Rs.bind_er, Rs.bind_no, S.frz, OC.frz, OB.frz, Option.bind_some, Option.bind_none, Option.bind, Option.map, List.map_cons, List.map_nil, List.cons_append, List.nil_append, List.append_nil, List.length_cons, List.length_nil, Nat.reduceAdd, Nat.reduceSub, List.replicate_succ, List.replicate_zero, List.getElem?_cons_zero, List.getElem?_cons_succ, List.set_cons_zero, List.set_cons_succ, Int.cast_ofNat_Int, ne_eq, not_true_eq_false, not_false_eq_true, decide_false, decide_true, Int.reduceLT, Int.reduceLE, Int.reduceGT, Int.reduceGE, Int.reduceEq, Int.reduceNeg, Int.reduceAdd, Int.reduceSub, Int.reduceMul, if_true, if_false, reduceIte, Bool.false_eq_true, Bool.true_eq_false, Bool.not_true, Bool.not_false, Nat.zero_add, true_and, and_true, ite_true, ite_false, gAdd_int, gSub_int, gNeg_int, gLt_int, gLe_int, gGt_int, gGe_int, gIs_non, gLen_tup, gLen_lst, gLen_scr, gMax2_int, gMin2_int, gInt_int, gInt_bl, gAbs_int, gTuple_tup, gTuple_lst, gIn_tI, gIn_lI, gIsi_int, gIsi_bool, gIsi_tuple, gIsi_list, gIsi_str, isOb, isIntD, isBlD, isTupD, isLstD, isStrD, s1, s2, p30, s8]; rfl) ?_
  refine wp_seq (by simp only [sSeq, sRet, sRetN, sExpr, sIf, sSet, sSetN, sAsg, sParM, sFor, sNx, sBk, sCt, sAug, sRz, sRm1, sRm2, sSetIx, sPutF, dV, dC, dOp, dUn, dLs, fz, nE, dB, dAnd, dOr, dNot, dAndV, dOrV, dNotV, dIf, dChI, dIsi, dCall, dCall0, dCallO, dCallO0, dMake, dMake0, dFld, dProp, dSlice, dLc, dMutL, pkE, pkT, rowD, oNone, oSome, aNil, aCons, aStar, mNil, mCons, putS, sOf, gN, gT, gsCons, gsNil, jSeq, jArg, seqD, rsO_some, rsO_none, out, startD, outO, startO, ocAt, olAt, frA, frS, lkN, putN, gTupD, gLstD, uApp, flatD, toV, tYesD, Rs.bind_eq, Rs.bind_ok, Rs.bind_er, Rs.bind_no, S.frz, OC.frz, OB.frz, Option.bind_some, Option.bind_none, Option.bind, Option.map, List.map_cons, List.map_nil, List.cons_append, List.nil_append, List.append_nil, List.length_cons, List.length_nil, Nat.reduceAdd, Nat.reduceSub, List.replicate_succ, List.replicate_zero, List.getElem?_cons_zero, List.getElem?_cons_succ, List.set_cons_zero, List.set_cons_succ, Int.cast_ofNat_Int, ne_eq, not_true_eq_false, not_false_eq_true, decide_false, decide_true, Int.reduceLT, Int.reduceLE, Int.reduceGT, Int.reduceGE, Int.reduceEq, Int.reduceNeg, Int.reduceAdd, Int.reduceSub, Int.reduceMul, if_true, if_false, reduceIte, Bool.false_eq_true, Bool.true_eq_false, Bool.not_true, Bool.not_false, Nat.zero_add, true_and, and_true, ite_true, ite_false, gAdd_int, gSub_int, gNeg_int, gLt_int, gLe_int, gGt_int, gGe_int, gIs_non, gLen_tup, gLen_lst, gLen_scr, gMax2_int, gMin2_int, gInt_int, gInt_bl, gAbs_int, gTuple_tup, gTuple_lst, gIn_tI, gIn_lI, gIsi_int, gIsi_bool, gIsi_tuple, gIsi_list, gIsi_str, isOb, isIntD, isBlD, isTupD, isLstD, isStrD, s3, s8']; rfl) ?_
  obtain ⟨k, q9, e9, hq9, k0, k1⟩ := pick_ex hq8 (m := 9) (by decide)
  obtain ⟨a3, ea3, n3, b3⟩ := k33_sd k0 k1
  have g3 : gAdd (.lst (seen.map seenD)) (.lst [a3, .non]) = some (.o (oL (seen.map seenD ++ [a3, .non]))) := gAdd_lst (by simp; omega)
  have hsn : ∀ r : List D, (∀ d ∈ r, noOb 1 d = true) → (seen.map seenD ++ r).all (noOb 1) = true := fun r hr => by
    rw [List.all_append, noOb_seen, Bool.true_and, List.all_eq_true]
    exact hr
  have f3 : F__law_told_there [tI ms, .lst (seen.map seenD ++ [a3, .non]), .bl im] = .ok (.d (.lst [.str "seen", .int ((seen.length : Nat) : Int)])) := by
    refine tt_se (v := .int ((seen.length : Nat) : Int)) hok (hsn _ fun d hd => ?_) (fun _ z => by cases z) ?_ rfl
    · rcases List.mem_cons.mp hd with rfl | hd
      · exact n3
      · rw [List.mem_singleton] at hd; rw [hd]; rfl
    · show seenR _ = _
      unfold seenR
      rw [if_pos (by simp; omega), seenBad_at seen 0 0 a3 [.non] hsr (by decide) b3, Nat.zero_add]
  refine wp_seq (by simp only [sSeq, sRet, sRetN, sExpr, sIf, sSet, sSetN, sAsg, sParM, sFor, sNx, sBk, sCt, sAug, sRz, sRm1, sRm2, sSetIx, sPutF, dV, dC, dOp, dUn, dLs, fz, nE, dB, dAnd, dOr, dNot, dAndV, dOrV, dNotV, dIf, dChI, dIsi, dCall, dCall0, dCallO, dCallO0, dMake, dMake0, dFld, dProp, dSlice, dLc, dMutL, pkE, pkT, rowD, oNone, oSome, aNil, aCons, aStar, mNil, mCons, putS, sOf, gN, gT, gsCons, gsNil, jSeq, jArg, seqD, rsO_some, rsO_none, out, startD, outO, startO, ocAt, olAt, frA, frS, lkN, putN, gTupD, gLstD, uApp, flatD, toV, tYesD, Rs.bind_eq, Rs.bind_ok, Rs.bind_er, Rs.bind_no, S.frz, OC.frz, OB.frz, Option.bind_some, Option.bind_none, Option.bind, Option.map, List.map_cons, List.map_nil, List.cons_append, List.nil_append, List.append_nil, List.length_cons, List.length_nil, Nat.reduceAdd, Nat.reduceSub, List.replicate_succ, List.replicate_zero, List.getElem?_cons_zero, List.getElem?_cons_succ, List.set_cons_zero, List.set_cons_succ, Int.cast_ofNat_Int, ne_eq, not_true_eq_false, not_false_eq_true, decide_false, decide_true, Int.reduceLT, Int.reduceLE, Int.reduceGT, Int.reduceGE, Int.reduceEq, Int.reduceNeg, Int.reduceAdd, Int.reduceSub, Int.reduceMul, if_true, if_false, reduceIte, Bool.false_eq_true, Bool.true_eq_false, Bool.not_true, Bool.not_false, Nat.zero_add, true_and, and_true, ite_true, ite_false, gAdd_int, gSub_int, gNeg_int, gLt_int, gLe_int, gGt_int, gGe_int, gIs_non, gLen_tup, gLen_lst, gLen_scr, gMax2_int, gMin2_int, gInt_int, gInt_bl, gAbs_int, gTuple_tup, gTuple_lst, gIn_tI, gIn_lI, gIsi_int, gIsi_bool, gIsi_tuple, gIsi_list, gIsi_str, isOb, isIntD, isBlD, isTupD, isLstD, isStrD, e9, ea3, s2, g3]; rfl) ?_
  refine wp_seq_no (by simp only [sSeq, sRet, sRetN, sExpr, sIf, sSet, sSetN, sAsg, sParM, sFor, sNx, sBk, sCt, sAug, sRz, sRm1, sRm2, sSetIx, sPutF, dV, dC, dOp, dUn, dLs, fz, nE, dB, dAnd, dOr, dNot, dAndV, dOrV, dNotV, dIf, dChI, dIsi, dCall, dCall0, dCallO, dCallO0, dMake, dMake0, dFld, dProp, dSlice, dLc, dMutL, pkE, pkT, rowD, oNone, oSome, aNil, aCons, aStar, mNil, mCons, putS, sOf, gN, gT, gsCons, gsNil, jSeq, jArg, seqD, rsO_some, rsO_none, out, startD, outO, startO, ocAt, olAt, frA, frS, lkN, putN, gTupD, gLstD, uApp, flatD, toV, tYesD, Rs.bind_eq, Rs.bind_ok, Rs.bind_er, Rs.bind_no, S.frz, OC.frz, OB.frz, Option.bind_some, Option.bind_none, Option.bind, Option.map, List.map_cons, List.map_nil, List.cons_append, List.nil_append, List.append_nil, List.length_cons, List.length_nil, Nat.reduceAdd, Nat.reduceSub, List.replicate_succ, List.replicate_zero, List.getElem?_cons_zero, List.getElem?_cons_succ, List.set_cons_zero, List.set_cons_succ, Int.cast_ofNat_Int, ne_eq, not_true_eq_false, not_false_eq_true, decide_false, decide_true, Int.reduceLT, Int.reduceLE, Int.reduceGT, Int.reduceGE, Int.reduceEq, Int.reduceNeg, Int.reduceAdd, Int.reduceSub, Int.reduceMul, if_true, if_false, reduceIte, Bool.false_eq_true, Bool.true_eq_false, Bool.not_true, Bool.not_false, Nat.zero_add, true_and, and_true, ite_true, ite_false, gAdd_int, gSub_int, gNeg_int, gLt_int, gLe_int, gGt_int, gGe_int, gIs_non, gLen_tup, gLen_lst, gLen_scr, gMax2_int, gMin2_int, gInt_int, gInt_bl, gAbs_int, gTuple_tup, gTuple_lst, gIn_tI, gIn_lI, gIsi_int, gIsi_bool, gIsi_tuple, gIsi_list, gIsi_str, isOb, isIntD, isBlD, isTupD, isLstD, isStrD, f3, s2, List.length_map, gNe_lsi _ _ so2]; rfl) ?_
  obtain ⟨w4, q10, e10, hq10, w40, w41⟩ := pick_ex hq9 (m := 4) (by decide)
  have r21 : gMul (.lst [.tup [.int 1, .bl true]]) (.int 21) = some (.o (oL (List.replicate 21 [D.tup [.int 1, .bl true]]).flatten)) := by
    show orE (gI cMul (fun i j => .int (i * j)) _ _) (gRep (.lst [.tup [.int 1, .bl true]]) (.int 21)) = _
    have : gRep (.lst [.tup [.int 1, .bl true]]) (.int 21) = some (.o (oL (List.replicate 21 [D.tup [.int 1, .bl true]]).flatten)) := if_pos (by decide)
    rw [this]
    rfl
  obtain ⟨a4, ea4, n4, ns4, b4⟩ := k33_se (L := (List.replicate 21 [D.tup [.int 1, .bl true]]).flatten) (by decide) (by decide) w40 w41
  generalize (List.replicate 21 [D.tup [.int 1, .bl true]]).flatten = L21 at r21 ea4
  have f4 := tt_se (b := im) (v := .non) hok n4 ns4 b4 rfl
  refine wp_seq_no (by simp only [sSeq, sRet, sRetN, sExpr, sIf, sSet, sSetN, sAsg, sParM, sFor, sNx, sBk, sCt, sAug, sRz, sRm1, sRm2, sSetIx, sPutF, dV, dC, dOp, dUn, dLs, fz, nE, dB, dAnd, dOr, dNot, dAndV, dOrV, dNotV, dIf, dChI, dIsi, dCall, dCall0, dCallO, dCallO0, dMake, dMake0, dFld, dProp, dSlice, dLc, dMutL, pkE, pkT, rowD, oNone, oSome, aNil, aCons, aStar, mNil, mCons, putS, sOf, gN, gT, gsCons, gsNil, jSeq, jArg, seqD, rsO_some, rsO_none, out, startD, outO, startO, ocAt, olAt, frA, frS, lkN, putN, gTupD, gLstD, uApp, flatD, toV, tYesD, Rs.bind_eq, Rs.bind_ok, Rs.bind_er, Rs.bind_no, S.frz, OC.frz, OB.frz, Option.bind_some, Option.bind_none, Option.bind, Option.map, List.map_cons, List.map_nil, List.cons_append, List.nil_append, List.append_nil, List.length_cons, List.length_nil, Nat.reduceAdd, Nat.reduceSub, List.replicate_succ, List.replicate_zero, List.getElem?_cons_zero, List.getElem?_cons_succ, List.set_cons_zero, List.set_cons_succ, Int.cast_ofNat_Int, ne_eq, not_true_eq_false, not_false_eq_true, decide_false, decide_true, Int.reduceLT, Int.reduceLE, Int.reduceGT, Int.reduceGE, Int.reduceEq, Int.reduceNeg, Int.reduceAdd, Int.reduceSub, Int.reduceMul, if_true, if_false, reduceIte, Bool.false_eq_true, Bool.true_eq_false, Bool.not_true, Bool.not_false, Nat.zero_add, true_and, and_true, ite_true, ite_false, gAdd_int, gSub_int, gNeg_int, gLt_int, gLe_int, gGt_int, gGe_int, gIs_non, gLen_tup, gLen_lst, gLen_scr, gMax2_int, gMin2_int, gInt_int, gInt_bl, gAbs_int, gTuple_tup, gTuple_lst, gIn_tI, gIn_lI, gIsi_int, gIsi_bool, gIsi_tuple, gIsi_list, gIsi_str, isOb, isIntD, isBlD, isTupD, isLstD, isStrD, dDict0, s1, s2, r21, s4, e10, ea4, f4, gNe_lsn _ so2]; rfl) ?_
  have r9 : gRepT (.tup [.tup [.int 0, .bl false]]) (.int 9) = some (.d (.tup (List.replicate 9 (seenD (0, false))))) := gRepT_tup (by simp) (by decide) (by decide) (by decide)
  have g5 : gAdd (.tup (seen.map seenD)) (.tup (List.replicate 9 (seenD (0, false)))) = some (.d (.tup (seen.map seenD ++ List.replicate 9 (seenD (0, false))))) := gAdd_tup (by simp; omega)
  have f5 : F__law_told_there [tI ms, .tup (seen.map seenD ++ List.replicate 9 (seenD (0, false))), .bl im] = .ok (.d (.lst [.str "seen", .int (((seen.length + 8 : Nat)) : Int)])) := by
    refine tt_se (v := .int ((seen.length + 8 : Nat) : Int)) hok (hsn _ fun d hd => ?_) (fun _ z => by cases z) ?_ rfl
    · rw [(List.mem_replicate.mp hd).2]
      rfl
    · show seenR _ = _
      unfold seenR
      rw [if_pos (by simp; omega), seenBad_app seen 0 0 _ hsr (by decide), seenBad_out 9 _ 0 (by decide) (by decide), Nat.zero_add]
      rfl
  have e58 : ((seen.length : Nat) : Int) + 8 = ((seen.length + 8 : Nat) : Int) := by omega
  generalize List.replicate 9 (seenD (0, false)) = R9 at r9 g5 f5
  have r9 : gRepT (.tup [.tup [.int 0, .bl false]]) (.int 9) = some (.d (.tup R9)) := r9
  exact wp_no (by simp only [sSeq, sRet, sRetN, sExpr, sIf, sSet, sSetN, sAsg, sParM, sFor, sNx, sBk, sCt, sAug, sRz, sRm1, sRm2, sSetIx, sPutF, dV, dC, dOp, dUn, dLs, fz, nE, dB, dAnd, dOr, dNot, dAndV, dOrV, dNotV, dIf, dChI, dIsi, dCall, dCall0, dCallO, dCallO0, dMake, dMake0, dFld, dProp, dSlice, dLc, dMutL, pkE, pkT, rowD, oNone, oSome, aNil, aCons, aStar, mNil, mCons, putS, sOf, gN, gT, gsCons, gsNil, jSeq, jArg, seqD, rsO_some, rsO_none, out, startD, outO, startO, ocAt, olAt, frA, frS, lkN, putN, gTupD, gLstD, uApp, flatD, toV, tYesD, Rs.bind_eq, Rs.bind_ok, Rs.bind_er, Rs.bind_no, S.frz, OC.frz, OB.frz, Option.bind_some, Option.bind_none, Option.bind, Option.map, List.map_cons, List.map_nil, List.cons_append, List.nil_append, List.append_nil, List.length_cons, List.length_nil, Nat.reduceAdd, Nat.reduceSub, List.replicate_succ, List.replicate_zero, List.getElem?_cons_zero, List.getElem?_cons_succ, List.set_cons_zero, List.set_cons_succ, Int.cast_ofNat_Int, ne_eq, not_true_eq_false, not_false_eq_true, decide_false, decide_true, Int.reduceLT, Int.reduceLE, Int.reduceGT, Int.reduceGE, Int.reduceEq, Int.reduceNeg, Int.reduceAdd, Int.reduceSub, Int.reduceMul, if_true, if_false, reduceIte, Bool.false_eq_true, Bool.true_eq_false, Bool.not_true, Bool.not_false, Nat.zero_add, true_and, and_true, ite_true, ite_false, gAdd_int, gSub_int, gNeg_int, gLt_int, gLe_int, gGt_int, gGe_int, gIs_non, gLen_tup, gLen_lst, gLen_scr, gMax2_int, gMin2_int, gInt_int, gInt_bl, gAbs_int, gTuple_tup, gTuple_lst, gIn_tI, gIn_lI, gIsi_int, gIsi_bool, gIsi_tuple, gIsi_list, gIsi_str, isOb, isIntD, isBlD, isTupD, isLstD, isStrD, s1, s2, r9, g5, f5, List.length_map, e58, gNe_lsi _ _ so2] <;> rfl) ⟨_, rfl, q10, _, _, _, _, _, _, _, hq10, rfl⟩
theorem ok_law (ns : List Int) (h : ns.length ≤ 63) : out (G_law (startD 10 [.scr ns])) = .ok (.d (.bl true)) := by
  refine out_wp ?_
  obtain ⟨q0, e0, hq0⟩ := draws_ex ns
  have s1 : (1 : Nat) ≤ sizeLine := by decide
  have s2 : (2 : Nat) ≤ sizeLine := by decide
  have s4 : (4 : Nat) ≤ sizeLine := by decide
  have hok : MsOk [30, 30, 30, 30] := ⟨by decide, by decide, by decide⟩
  have hs : SeenOk (List.replicate 20 (5, true)) := ⟨by decide, by decide +kernel, by decide⟩
  have f1 := F_many_lots_ok hok hs (d := .lst ((List.replicate 20 ((5 : Int), true)).map seenD)) (.inr rfl)
  rw [big_ways] at f1
  have r20 : gMul (.lst [.tup [.int 5, .bl true]]) (.int 20) = some (.o (oL ((List.replicate 20 ((5 : Int), true)).map seenD))) := by
    show orE (gI cMul (fun i j => .int (i * j)) _ _) (gRep (.lst [.tup [.int 5, .bl true]]) (.int 20)) = _
    have : gRep (.lst [.tup [.int 5, .bl true]]) (.int 20) = some (.o (oL (List.replicate 20 [D.tup [.int 5, .bl true]]).flatten)) := if_pos (by decide)
    rw [this]
    rfl
  generalize (List.replicate 20 ((5 : Int), true)).map seenD = L20 at f1 r20
  have f1 : F_many_lots [.tup [.int 30, .int 30, .int 30, .int 30], .lst L20] = .ok (.d (.int (2 ^ 58 * 2 ^ 58))) := f1
  have p58 : gPow (.int 2) (.int 58) = some (.d (.int (2 ^ 58))) := by rfl
  have gm : gMul (.int (2 ^ 58)) (.int (2 ^ 58)) = some (.d (.int (2 ^ 58 * 2 ^ 58))) := gMul_int (cMul_l (by decide))
  have ge : gEq (.int (2 ^ 58 * 2 ^ 58)) (.int (2 ^ 58 * 2 ^ 58)) = some (.d (.bl true)) := (gEq_int _ _).trans (by simp)
  generalize (2 : Int) ^ 58 * 2 ^ 58 = big at f1 gm ge
  generalize (2 : Int) ^ 58 = half at p58 gm
  unfold G_law
  refine wp_seq (by simp only [sSeq, sRet, sRetN, sExpr, sIf, sSet, sSetN, sAsg, sParM, sFor, sNx, sBk, sCt, sAug, sRz, sRm1, sRm2, sSetIx, sPutF, dV, dC, dOp, dUn, dLs, fz, nE, dB, dAnd, dOr, dNot, dAndV, dOrV, dNotV, dIf, dChI, dIsi, dCall, dCall0, dCallO, dCallO0, dMake, dMake0, dFld, dProp, dSlice, dLc, dMutL, pkE, pkT, rowD, oNone, oSome, aNil, aCons, aStar, mNil, mCons, putS, sOf, gN, gT, gsCons, gsNil, jSeq, jArg, seqD, rsO_some, rsO_none, out, startD, outO, startO, ocAt, olAt, frA, frS, lkN, putN, gTupD, gLstD, uApp, flatD, toV, tYesD, Rs.bind_eq, Rs.bind_ok, Rs.bind_er, Rs.bind_no, S.frz, OC.frz, OB.frz, Option.bind_some, Option.bind_none, Option.bind, Option.map, List.map_cons, List.map_nil, List.cons_append, List.nil_append, List.append_nil, List.length_cons, List.length_nil, Nat.reduceAdd, Nat.reduceSub, List.replicate_succ, List.replicate_zero, List.getElem?_cons_zero, List.getElem?_cons_succ, List.set_cons_zero, List.set_cons_succ, Int.cast_ofNat_Int, ne_eq, not_true_eq_false, not_false_eq_true, decide_false, decide_true, Int.reduceLT, Int.reduceLE, Int.reduceGT, Int.reduceGE, Int.reduceEq, Int.reduceNeg, Int.reduceAdd, Int.reduceSub, Int.reduceMul, if_true, if_false, reduceIte, Bool.false_eq_true, Bool.true_eq_false, Bool.not_true, Bool.not_false, Nat.zero_add, true_and, and_true, ite_true, ite_false, gAdd_int, gSub_int, gNeg_int, gLt_int, gLe_int, gGt_int, gGe_int, gIs_non, gLen_tup, gLen_lst, gLen_scr, gMax2_int, gMin2_int, gInt_int, gInt_bl, gAbs_int, gTuple_tup, gTuple_lst, gIn_tI, gIn_lI, gIsi_int, gIsi_bool, gIsi_tuple, gIsi_list, gIsi_str, isOb, isIntD, isBlD, isTupD, isLstD, isStrD, e0]; rfl) ?_
  refine wp_for (k33I (.d (.scr ns))) (items := rangeD 0 4) (by simp only [sSeq, sRet, sRetN, sExpr, sIf, sSet, sSetN, sAsg, sParM, sFor, sNx, sBk, sCt, sAug, sRz, sRm1, sRm2, sSetIx, sPutF, dV, dC, dOp, dUn, dLs, fz, nE, dB, dAnd, dOr, dNot, dAndV, dOrV, dNotV, dIf, dChI, dIsi, dCall, dCall0, dCallO, dCallO0, dMake, dMake0, dFld, dProp, dSlice, dLc, dMutL, pkE, pkT, rowD, oNone, oSome, aNil, aCons, aStar, mNil, mCons, putS, sOf, gN, gT, gsCons, gsNil, jSeq, jArg, seqD, rsO_some, rsO_none, out, startD, outO, startO, ocAt, olAt, frA, frS, lkN, putN, gTupD, gLstD, uApp, flatD, toV, tYesD, Rs.bind_eq, Rs.bind_ok, Rs.bind_er, Rs.bind_no, S.frz, OC.frz, OB.frz, Option.bind_some, Option.bind_none, Option.bind, Option.map, List.map_cons, List.map_nil, List.cons_append, List.nil_append, List.append_nil, List.length_cons, List.length_nil, Nat.reduceAdd, Nat.reduceSub, List.replicate_succ, List.replicate_zero, List.getElem?_cons_zero, List.getElem?_cons_succ, List.set_cons_zero, List.set_cons_succ, Int.cast_ofNat_Int, ne_eq, not_true_eq_false, not_false_eq_true, decide_false, decide_true, Int.reduceLT, Int.reduceLE, Int.reduceGT, Int.reduceGE, Int.reduceEq, Int.reduceNeg, Int.reduceAdd, Int.reduceSub, Int.reduceMul, if_true, if_false, reduceIte, Bool.false_eq_true, Bool.true_eq_false, Bool.not_true, Bool.not_false, Nat.zero_add, true_and, and_true, ite_true, ite_false, gAdd_int, gSub_int, gNeg_int, gLt_int, gLe_int, gGt_int, gGe_int, gIs_non, gLen_tup, gLen_lst, gLen_scr, gMax2_int, gMin2_int, gInt_int, gInt_bl, gAbs_int, gTuple_tup, gTuple_lst, gIn_tI, gIn_lI, gIsi_int, gIsi_bool, gIsi_tuple, gIsi_list, gIsi_str, isOb, isIntD, isBlD, isTupD, isLstD, isStrD, rg1_int (j := 4) (by decide)]; rfl) ⟨q0, _, _, _, _, _, _, _, hq0, rfl⟩ (fun x _ ρ hI => k33_body x ρ hI) ?_
  rintro ρ ⟨q, z2, z3, z5, z6, z7, z8, z9, hq, rfl⟩
  exact wp_rt (by simp only [sSeq, sRet, sRetN, sExpr, sIf, sSet, sSetN, sAsg, sParM, sFor, sNx, sBk, sCt, sAug, sRz, sRm1, sRm2, sSetIx, sPutF, dV, dC, dOp, dUn, dLs, fz, nE, dB, dAnd, dOr, dNot, dAndV, dOrV, dNotV, dIf, dChI, dIsi, dCall, dCall0, dCallO, dCallO0, dMake, dMake0, dFld, dProp, dSlice, dLc, dMutL, pkE, pkT, rowD, oNone, oSome, aNil, aCons, aStar, mNil, mCons, putS, sOf, gN, gT, gsCons, gsNil, jSeq, jArg, seqD, rsO_some, rsO_none, out, startD, outO, startO, ocAt, olAt, frA, frS, lkN, putN, gTupD, gLstD, uApp, flatD, toV, tYesD, Rs.bind_eq, Rs.bind_ok, Rs.bind_er, Rs.bind_no, S.frz, OC.frz, OB.frz, Option.bind_some, Option.bind_none, Option.bind, Option.map, List.map_cons, List.map_nil, List.cons_append, List.nil_append, List.append_nil, List.length_cons, List.length_nil, Nat.reduceAdd, Nat.reduceSub, List.replicate_succ, List.replicate_zero, List.getElem?_cons_zero, List.getElem?_cons_succ, List.set_cons_zero, List.set_cons_succ, Int.cast_ofNat_Int, ne_eq, not_true_eq_false, not_false_eq_true, decide_false, decide_true, Int.reduceLT, Int.reduceLE, Int.reduceGT, Int.reduceGE, Int.reduceEq, Int.reduceNeg, Int.reduceAdd, Int.reduceSub, Int.reduceMul, if_true, if_false, reduceIte, Bool.false_eq_true, Bool.true_eq_false, Bool.not_true, Bool.not_false, Nat.zero_add, true_and, and_true, ite_true, ite_false, gAdd_int, gSub_int, gNeg_int, gLt_int, gLe_int, gGt_int, gGe_int, gIs_non, gLen_tup, gLen_lst, gLen_scr, gMax2_int, gMin2_int, gInt_int, gInt_bl, gAbs_int, gTuple_tup, gTuple_lst, gIn_tI, gIn_lI, gIsi_int, gIsi_bool, gIsi_tuple, gIsi_list, gIsi_str, isOb, isIntD, isBlD, isTupD, isLstD, isStrD, s1, s2, s4, r20, f1, p58, gm, ge] <;> rfl)
end RL

namespace RL
open PySem PySem.Spec PyProof.Rows L2
def top (i : Nat) : Stmt := PySem.Challenge.pw_restlots_k33_seen_refused.main.body.getD i (.Pass ⟨0, 0, 0, 0⟩)
abbrev s_is_from : Stmt := top 7
def da_is_from : DefA := ⟨fun K => He.ga K "is_from", "is_from", "is_from", defArgs s_is_from, defBody s_is_from, defScope s_is_from⟩
abbrev s_check_moduli : Stmt := top 13
def da_check_moduli : DefA := ⟨fun K => He.ga K "check_moduli", "check_moduli", "check_moduli", defArgs s_check_moduli, defBody s_check_moduli, defScope s_check_moduli⟩
abbrev s_is_seen : Stmt := top 14
def da_is_seen : DefA := ⟨fun K => He.ga K "is_seen", "is_seen", "is_seen", defArgs s_is_seen, defBody s_is_seen, defScope s_is_seen⟩
abbrev s_check_seen : Stmt := top 15
def da_check_seen : DefA := ⟨fun K => He.ga K "check_seen", "check_seen", "check_seen", defArgs s_check_seen, defBody s_check_seen, defScope s_check_seen⟩
abbrev s_rests_in : Stmt := top 16
def da_rests_in : DefA := ⟨fun K => He.ga K "rests_in", "rests_in", "rests_in", defArgs s_rests_in, defBody s_rests_in, defScope s_rests_in⟩
abbrev s_had_by : Stmt := top 17
def da_had_by : DefA := ⟨fun K => He.ga K "had_by", "had_by", "had_by", defArgs s_had_by, defBody s_had_by, defScope s_had_by⟩
abbrev s_power : Stmt := top 18
def da_power : DefA := ⟨fun K => He.ga K "power", "power", "power", defArgs s_power, defBody s_power, defScope s_power⟩
abbrev s_ways : Stmt := top 19
def da_ways : DefA := ⟨fun K => He.ga K "ways", "ways", "ways", defArgs s_ways, defBody s_ways, defScope s_ways⟩
abbrev s_out_of : Stmt := top 20
def da_out_of : DefA := ⟨fun K => He.ga K "out_of", "out_of", "out_of", defArgs s_out_of, defBody s_out_of, defScope s_out_of⟩
abbrev s_many_lots : Stmt := top 21
def da_many_lots : DefA := ⟨fun K => He.ga K "many_lots", "many_lots", "many_lots", defArgs s_many_lots, defBody s_many_lots, defScope s_many_lots⟩
abbrev s_sure_rests : Stmt := top 22
def da_sure_rests : DefA := ⟨fun K => He.ga K "sure_rests", "sure_rests", "sure_rests", defArgs s_sure_rests, defBody s_sure_rests, defScope s_sure_rests⟩
abbrev s__law_draws : Stmt := top 24
def da__law_draws : DefA := ⟨fun K => He.ga K "_law_draws", "_law_draws", "_law_draws", defArgs s__law_draws, defBody s__law_draws, defScope s__law_draws⟩
abbrev s__law_pick : Stmt := top 25
def da__law_pick : DefA := ⟨fun K => He.ga K "_law_pick", "_law_pick", "_law_pick", defArgs s__law_pick, defBody s__law_pick, defScope s__law_pick⟩
abbrev s__law_far : Stmt := top 26
def da__law_far : DefA := ⟨fun K => He.ga K "_law_far", "_law_far", "_law_far", defArgs s__law_far, defBody s__law_far, defScope s__law_far⟩
abbrev s__law_told_there : Stmt := top 27
def da__law_told_there : DefA := ⟨fun K => He.ga K "_law_told_there", "_law_told_there", "_law_told_there", defArgs s__law_told_there, defBody s__law_told_there, defScope s__law_told_there⟩
abbrev s_law : Stmt := top 28
def da_law : DefA := ⟨fun K => He.ga K "law", "law", "law", defArgs s_law, defBody s_law, defScope s_law⟩
abbrev s_BadModuli_init : Stmt := inClass (top 3) 0
def da_BadModuli_init : DefA := ⟨fun K => He.ma K (He.ga K "BadModuli") "__init__", "__init__", "BadModuli.__init__", defArgs s_BadModuli_init, defBody s_BadModuli_init, defScope s_BadModuli_init⟩
abbrev s_BadSeen_init : Stmt := inClass (top 4) 0
def da_BadSeen_init : DefA := ⟨fun K => He.ma K (He.ga K "BadSeen") "__init__", "__init__", "BadSeen.__init__", defArgs s_BadSeen_init, defBody s_BadSeen_init, defScope s_BadSeen_init⟩
def fns0 : List (DefA) := [da_is_from, da_check_moduli, da_is_seen, da_check_seen, da_rests_in, da_had_by, da_power, da_ways, da_out_of, da_many_lots, da_sure_rests, da__law_draws, da__law_pick, da__law_far, da__law_told_there, da_law, da_BadModuli_init, da_BadSeen_init]
def fns : List (DefA) := fns0
def exs0 : List (Fct) := [(He.Fa.glo "is_from").ok, (He.Fa.glo "check_moduli").ok, (He.Fa.glo "is_seen").ok, (He.Fa.glo "check_seen").ok, (He.Fa.glo "rests_in").ok, (He.Fa.glo "had_by").ok, (He.Fa.glo "power").ok, (He.Fa.glo "ways").ok, (He.Fa.glo "out_of").ok, (He.Fa.glo "many_lots").ok, (He.Fa.glo "sure_rests").ok, (He.Fa.glo "_law_draws").ok, (He.Fa.glo "_law_pick").ok, (He.Fa.glo "_law_far").ok, (He.Fa.glo "_law_told_there").ok, (He.Fa.glo "law").ok, (He.Fa.free "ValueError").ok, (He.Fa.free "bool").ok, (He.Fa.free "dict").ok, (He.Fa.free "enumerate").ok, (He.Fa.free "int").ok, (He.Fa.free "isinstance").ok, (He.Fa.free "len").ok, (He.Fa.free "list").ok, (He.Fa.free "range").ok, (He.Fa.free "sum").ok, (He.Fa.free "tuple").ok, (He.Fa.int "FAR" 1000000000000000000000000000000).ok, (He.Fa.int "MOST_MODULI" 4).ok, (He.Fa.int "MOST_TOLD" 30).ok]
def exs1 : List (Fct) := [(He.Fa.int "MOST_SEEN" 20).ok, (He.Fa.int "MOST_OUT" 8).ok, (He.Fa.glo "RestError").ok, (He.Fa.exc "RestError").ok, (He.Fa.exm "RestError" "BadModuli" false).ok, (He.Fa.exm "RestError" "BadSeen" false).ok, (He.Fa.glo "Nothing").ok, (He.Fa.exc "Nothing").ok, (He.Fa.exm "Nothing" "BadModuli" false).ok, (He.Fa.exm "Nothing" "BadSeen" false).ok, (He.Fa.glo "BadModuli").ok, oexB "BadModuli", (He.Fa.noat "BadModuli" "index").ok, (He.Fa.exm "BadModuli" "BadModuli" true).ok, (He.Fa.exm "BadModuli" "BadSeen" false).ok, (He.Fa.glo "BadSeen").ok, oexB "BadSeen", (He.Fa.noat "BadSeen" "index").ok, (He.Fa.exm "BadSeen" "BadModuli" false).ok, (He.Fa.exm "BadSeen" "BadSeen" true).ok, excB "BadModuli", kitF "BadModuli" "RestError", excB "BadSeen", kitF "BadSeen" "RestError"]
def exs : List (Fct) := exs0 ++ exs1
structure Tx (K : PySem.W.Frag) (mg : Str → Option Value) : Prop where
  ex : ∃ h : Heap, K.In h ∧ h.Ns mainGlobals mg ∧ SaysR exs fns K
section
variable {K : PySem.W.Frag} {mg : Str → Option Value}
theorem t_is_from (T : Tx K mg) : TxD K mg "is_from" s_is_from := by
  obtain ⟨h, X, G, c⟩ := T.ex
  obtain ⟨fd, F⟩ := c.def_ 0 (d := da_is_from) rfl
  exact ⟨_, fd, fun_glo X G (c.fact 0), F⟩
theorem t_check_moduli (T : Tx K mg) : TxD K mg "check_moduli" s_check_moduli := by
  obtain ⟨h, X, G, c⟩ := T.ex
  obtain ⟨fd, F⟩ := c.def_ 1 (d := da_check_moduli) rfl
  exact ⟨_, fd, fun_glo X G (c.fact 1), F⟩
theorem t_is_seen (T : Tx K mg) : TxD K mg "is_seen" s_is_seen := by
  obtain ⟨h, X, G, c⟩ := T.ex
  obtain ⟨fd, F⟩ := c.def_ 2 (d := da_is_seen) rfl
  exact ⟨_, fd, fun_glo X G (c.fact 2), F⟩
theorem t_check_seen (T : Tx K mg) : TxD K mg "check_seen" s_check_seen := by
  obtain ⟨h, X, G, c⟩ := T.ex
  obtain ⟨fd, F⟩ := c.def_ 3 (d := da_check_seen) rfl
  exact ⟨_, fd, fun_glo X G (c.fact 3), F⟩
theorem t_rests_in (T : Tx K mg) : TxD K mg "rests_in" s_rests_in := by
  obtain ⟨h, X, G, c⟩ := T.ex
  obtain ⟨fd, F⟩ := c.def_ 4 (d := da_rests_in) rfl
  exact ⟨_, fd, fun_glo X G (c.fact 4), F⟩
theorem t_had_by (T : Tx K mg) : TxD K mg "had_by" s_had_by := by
  obtain ⟨h, X, G, c⟩ := T.ex
  obtain ⟨fd, F⟩ := c.def_ 5 (d := da_had_by) rfl
  exact ⟨_, fd, fun_glo X G (c.fact 5), F⟩
theorem t_power (T : Tx K mg) : TxD K mg "power" s_power := by
  obtain ⟨h, X, G, c⟩ := T.ex
  obtain ⟨fd, F⟩ := c.def_ 6 (d := da_power) rfl
  exact ⟨_, fd, fun_glo X G (c.fact 6), F⟩
theorem t_ways (T : Tx K mg) : TxD K mg "ways" s_ways := by
  obtain ⟨h, X, G, c⟩ := T.ex
  obtain ⟨fd, F⟩ := c.def_ 7 (d := da_ways) rfl
  exact ⟨_, fd, fun_glo X G (c.fact 7), F⟩
theorem t_out_of (T : Tx K mg) : TxD K mg "out_of" s_out_of := by
  obtain ⟨h, X, G, c⟩ := T.ex
  obtain ⟨fd, F⟩ := c.def_ 8 (d := da_out_of) rfl
  exact ⟨_, fd, fun_glo X G (c.fact 8), F⟩
theorem t_many_lots (T : Tx K mg) : TxD K mg "many_lots" s_many_lots := by
  obtain ⟨h, X, G, c⟩ := T.ex
  obtain ⟨fd, F⟩ := c.def_ 9 (d := da_many_lots) rfl
  exact ⟨_, fd, fun_glo X G (c.fact 9), F⟩
theorem t_sure_rests (T : Tx K mg) : TxD K mg "sure_rests" s_sure_rests := by
  obtain ⟨h, X, G, c⟩ := T.ex
  obtain ⟨fd, F⟩ := c.def_ 10 (d := da_sure_rests) rfl
  exact ⟨_, fd, fun_glo X G (c.fact 10), F⟩
theorem t__law_draws (T : Tx K mg) : TxD K mg "_law_draws" s__law_draws := by
  obtain ⟨h, X, G, c⟩ := T.ex
  obtain ⟨fd, F⟩ := c.def_ 11 (d := da__law_draws) rfl
  exact ⟨_, fd, fun_glo X G (c.fact 11), F⟩
theorem t__law_pick (T : Tx K mg) : TxD K mg "_law_pick" s__law_pick := by
  obtain ⟨h, X, G, c⟩ := T.ex
  obtain ⟨fd, F⟩ := c.def_ 12 (d := da__law_pick) rfl
  exact ⟨_, fd, fun_glo X G (c.fact 12), F⟩
theorem t__law_far (T : Tx K mg) : TxD K mg "_law_far" s__law_far := by
  obtain ⟨h, X, G, c⟩ := T.ex
  obtain ⟨fd, F⟩ := c.def_ 13 (d := da__law_far) rfl
  exact ⟨_, fd, fun_glo X G (c.fact 13), F⟩
theorem t__law_told_there (T : Tx K mg) : TxD K mg "_law_told_there" s__law_told_there := by
  obtain ⟨h, X, G, c⟩ := T.ex
  obtain ⟨fd, F⟩ := c.def_ 14 (d := da__law_told_there) rfl
  exact ⟨_, fd, fun_glo X G (c.fact 14), F⟩
theorem t_law (T : Tx K mg) : TxD K mg "law" s_law := by
  obtain ⟨h, X, G, c⟩ := T.ex
  obtain ⟨fd, F⟩ := c.def_ 15 (d := da_law) rfl
  exact ⟨_, fd, fun_glo X G (c.fact 15), F⟩
theorem b_ValueError (T : Tx K mg) : mg "ValueError" = none := by
  obtain ⟨h, X, G, c⟩ := T.ex
  exact fun_free X G (c.fact 16)
theorem b_bool (T : Tx K mg) : mg "bool" = none := by
  obtain ⟨h, X, G, c⟩ := T.ex
  exact fun_free X G (c.fact 17)
theorem b_dict (T : Tx K mg) : mg "dict" = none := by
  obtain ⟨h, X, G, c⟩ := T.ex
  exact fun_free X G (c.fact 18)
theorem b_enumerate (T : Tx K mg) : mg "enumerate" = none := by
  obtain ⟨h, X, G, c⟩ := T.ex
  exact fun_free X G (c.fact 19)
theorem b_int (T : Tx K mg) : mg "int" = none := by
  obtain ⟨h, X, G, c⟩ := T.ex
  exact fun_free X G (c.fact 20)
theorem b_isinstance (T : Tx K mg) : mg "isinstance" = none := by
  obtain ⟨h, X, G, c⟩ := T.ex
  exact fun_free X G (c.fact 21)
theorem b_len (T : Tx K mg) : mg "len" = none := by
  obtain ⟨h, X, G, c⟩ := T.ex
  exact fun_free X G (c.fact 22)
theorem b_list (T : Tx K mg) : mg "list" = none := by
  obtain ⟨h, X, G, c⟩ := T.ex
  exact fun_free X G (c.fact 23)
theorem b_range (T : Tx K mg) : mg "range" = none := by
  obtain ⟨h, X, G, c⟩ := T.ex
  exact fun_free X G (c.fact 24)
theorem b_sum (T : Tx K mg) : mg "sum" = none := by
  obtain ⟨h, X, G, c⟩ := T.ex
  exact fun_free X G (c.fact 25)
theorem b_tuple (T : Tx K mg) : mg "tuple" = none := by
  obtain ⟨h, X, G, c⟩ := T.ex
  exact fun_free X G (c.fact 26)
theorem g_FAR (T : Tx K mg) : ∃ u, mg "FAR" = some u ∧ RelV (.int 1000000000000000000000000000000) u := by
  obtain ⟨h, X, G, c⟩ := T.ex
  exact fun_int X G (c.fact 27)
theorem g_MOST_MODULI (T : Tx K mg) : ∃ u, mg "MOST_MODULI" = some u ∧ RelV (.int 4) u := by
  obtain ⟨h, X, G, c⟩ := T.ex
  exact fun_int X G (c.fact 28)
theorem g_MOST_TOLD (T : Tx K mg) : ∃ u, mg "MOST_TOLD" = some u ∧ RelV (.int 30) u := by
  obtain ⟨h, X, G, c⟩ := T.ex
  exact fun_int X G (c.fact 29)
theorem g_MOST_SEEN (T : Tx K mg) : ∃ u, mg "MOST_SEEN" = some u ∧ RelV (.int 20) u := by
  obtain ⟨h, X, G, c⟩ := T.ex
  exact fun_int X G (c.fact 30)
theorem g_MOST_OUT (T : Tx K mg) : ∃ u, mg "MOST_OUT" = some u ∧ RelV (.int 8) u := by
  obtain ⟨h, X, G, c⟩ := T.ex
  exact fun_int X G (c.fact 31)
theorem ex_RestError (T : Tx K mg) : XC K mg "RestError" := by
  obtain ⟨h, X, G, c⟩ := T.ex
  exact xc_of X G (c.fact 32) (c.fact 33)
theorem xm_RestError_BadModuli (T : Tx K mg) : PySem.W.exmOne K (.ref (He.ga K "RestError")) (.ref (He.ga K "BadModuli")) = some false := by
  obtain ⟨h, X, G, c⟩ := T.ex
  exact He.exm_ok (c.fact 34)
theorem xm_RestError_BadSeen (T : Tx K mg) : PySem.W.exmOne K (.ref (He.ga K "RestError")) (.ref (He.ga K "BadSeen")) = some false := by
  obtain ⟨h, X, G, c⟩ := T.ex
  exact He.exm_ok (c.fact 35)
theorem ex_Nothing (T : Tx K mg) : XC K mg "Nothing" := by
  obtain ⟨h, X, G, c⟩ := T.ex
  exact xc_of X G (c.fact 36) (c.fact 37)
theorem xm_Nothing_BadModuli (T : Tx K mg) : PySem.W.exmOne K (.ref (He.ga K "Nothing")) (.ref (He.ga K "BadModuli")) = some false := by
  obtain ⟨h, X, G, c⟩ := T.ex
  exact He.exm_ok (c.fact 38)
theorem xm_Nothing_BadSeen (T : Tx K mg) : PySem.W.exmOne K (.ref (He.ga K "Nothing")) (.ref (He.ga K "BadSeen")) = some false := by
  obtain ⟨h, X, G, c⟩ := T.ex
  exact He.exm_ok (c.fact 39)
theorem xi_BadModuli (T : Tx K mg) : XI K mg "BadModuli" := by
  obtain ⟨h, X, G, c⟩ := T.ex
  exact xi_of X G (c.fact 40) (c.fact 41)
theorem d_BadModuli_init (T : Tx K mg) : ∃ fd, FunD K "__init__" "BadModuli.__init__" (defArgs s_BadModuli_init) (defBody s_BadModuli_init) (defScope s_BadModuli_init) [] [] (He.ma K (He.ga K "BadModuli") "__init__") fd := by
  obtain ⟨h, X, G, c⟩ := T.ex
  exact c.def_ 16 (d := da_BadModuli_init) rfl
theorem na_BadModuli_index (T : Tx K mg) : NoAttr K (He.ga K "BadModuli") "index" := by
  obtain ⟨h, X, G, c⟩ := T.ex
  exact He.noat_ok (c.fact 42)
theorem xm_BadModuli_BadModuli (T : Tx K mg) : PySem.W.exmOne K (.ref (He.ga K "BadModuli")) (.ref (He.ga K "BadModuli")) = some true := by
  obtain ⟨h, X, G, c⟩ := T.ex
  exact He.exm_ok (c.fact 43)
theorem xm_BadModuli_BadSeen (T : Tx K mg) : PySem.W.exmOne K (.ref (He.ga K "BadModuli")) (.ref (He.ga K "BadSeen")) = some false := by
  obtain ⟨h, X, G, c⟩ := T.ex
  exact He.exm_ok (c.fact 44)
theorem xi_BadSeen (T : Tx K mg) : XI K mg "BadSeen" := by
  obtain ⟨h, X, G, c⟩ := T.ex
  exact xi_of X G (c.fact 45) (c.fact 46)
theorem d_BadSeen_init (T : Tx K mg) : ∃ fd, FunD K "__init__" "BadSeen.__init__" (defArgs s_BadSeen_init) (defBody s_BadSeen_init) (defScope s_BadSeen_init) [] [] (He.ma K (He.ga K "BadSeen") "__init__") fd := by
  obtain ⟨h, X, G, c⟩ := T.ex
  exact c.def_ 17 (d := da_BadSeen_init) rfl
theorem na_BadSeen_index (T : Tx K mg) : NoAttr K (He.ga K "BadSeen") "index" := by
  obtain ⟨h, X, G, c⟩ := T.ex
  exact He.noat_ok (c.fact 47)
theorem xm_BadSeen_BadModuli (T : Tx K mg) : PySem.W.exmOne K (.ref (He.ga K "BadSeen")) (.ref (He.ga K "BadModuli")) = some false := by
  obtain ⟨h, X, G, c⟩ := T.ex
  exact He.exm_ok (c.fact 48)
theorem xm_BadSeen_BadSeen (T : Tx K mg) : PySem.W.exmOne K (.ref (He.ga K "BadSeen")) (.ref (He.ga K "BadSeen")) = some true := by
  obtain ⟨h, X, G, c⟩ := T.ex
  exact He.exm_ok (c.fact 49)
theorem tbl_BadModuli (T : Tx K mg) : ∀ p ∈ ([("RestError", false), ("Nothing", false), ("BadModuli", true), ("BadSeen", false)] : List (Str × Bool)), PySem.W.exmOne K (.ref (He.ga K p.1)) (.ref (He.ga K "BadModuli")) = some p.2 := by
  intro p hp
  exact (by
      rcases List.mem_cons.mp hp with rfl | hp
      · exact xm_RestError_BadModuli T
      · exact (by
      rcases List.mem_cons.mp hp with rfl | hp
      · exact xm_Nothing_BadModuli T
      · exact (by
      rcases List.mem_cons.mp hp with rfl | hp
      · exact xm_BadModuli_BadModuli T
      · exact (by
      rcases List.mem_cons.mp hp with rfl | hp
      · exact xm_BadSeen_BadModuli T
      · exact (by cases hp)))))
theorem ec_BadModuli (T : Tx K mg) : ExcC K (He.ga K "BadModuli") := by
  obtain ⟨h, X, G, c⟩ := T.ex
  exact excB_ok (c.fact 50)
theorem kr_BadModuli (T : Tx K mg) : PySem.W.kitOne K (.ref (He.ga K "BadModuli")) (.ref (He.ga K "RestError")) = some true := by
  obtain ⟨h, X, G, c⟩ := T.ex
  exact kitF_ok (c.fact 51)
theorem tbl_BadSeen (T : Tx K mg) : ∀ p ∈ ([("RestError", false), ("Nothing", false), ("BadModuli", false), ("BadSeen", true)] : List (Str × Bool)), PySem.W.exmOne K (.ref (He.ga K p.1)) (.ref (He.ga K "BadSeen")) = some p.2 := by
  intro p hp
  exact (by
      rcases List.mem_cons.mp hp with rfl | hp
      · exact xm_RestError_BadSeen T
      · exact (by
      rcases List.mem_cons.mp hp with rfl | hp
      · exact xm_Nothing_BadSeen T
      · exact (by
      rcases List.mem_cons.mp hp with rfl | hp
      · exact xm_BadModuli_BadSeen T
      · exact (by
      rcases List.mem_cons.mp hp with rfl | hp
      · exact xm_BadSeen_BadSeen T
      · exact (by cases hp)))))
theorem ec_BadSeen (T : Tx K mg) : ExcC K (He.ga K "BadSeen") := by
  obtain ⟨h, X, G, c⟩ := T.ex
  exact excB_ok (c.fact 52)
theorem kr_BadSeen (T : Tx K mg) : PySem.W.kitOne K (.ref (He.ga K "BadSeen")) (.ref (He.ga K "RestError")) = some true := by
  obtain ⟨h, X, G, c⟩ := T.ex
  exact kitF_ok (c.fact 53)
end
end RL

namespace RL
open PySem PySem.Spec PyProof.Rows L2
section
variable {P : Program} {w : World} {K : PySem.W.Frag} {mg : Str → Option Value} {base : Heap}
theorem sc_BadModuli_init : FnScope ["self", "index"] ["self", "index"] (defScope s_BadModuli_init) := ⟨rfl, rfl, rfl, by decide +kernel, rfl, by decide +kernel, by decide +kernel⟩
theorem xm_BadModuli (T : Tx K mg) : XM P w K mg base 1 "BadModuli" (sp_init1 (He.ga K "BadModuli") "index") := by
  obtain ⟨fd, F⟩ := d_BadModuli_init T
  refine ⟨xi_BadModuli T, fd, ["self", "index"], F.ok sc_BadModuli_init (fun vs H Q E h => ?_) (fun cdv A outer s H vs Q E hr h => ?_), F.bindsN fun _ _ _ _ _ _ us hl => match us, hl with | [_, _], _ => rfl⟩
  · obtain ⟨a, v, rfl, _⟩ := h
    rfl
  · obtain ⟨a, v, rfl, ha, q⟩ := h
    exact ⟨_, pss_one (ps_ost (pv 0) (pv 1)), ⟨_, rfl, _, rfl, a, He.ga K "BadModuli", rfl, (xi_BadModuli T).c, na_BadModuli_index T, .inl ⟨ha, fun d hd hda => q d hd hda⟩⟩⟩
theorem sc_BadSeen_init : FnScope ["self", "index"] ["self", "index"] (defScope s_BadSeen_init) := ⟨rfl, rfl, rfl, by decide +kernel, rfl, by decide +kernel, by decide +kernel⟩
theorem xm_BadSeen (T : Tx K mg) : XM P w K mg base 1 "BadSeen" (sp_init1 (He.ga K "BadSeen") "index") := by
  obtain ⟨fd, F⟩ := d_BadSeen_init T
  refine ⟨xi_BadSeen T, fd, ["self", "index"], F.ok sc_BadSeen_init (fun vs H Q E h => ?_) (fun cdv A outer s H vs Q E hr h => ?_), F.bindsN fun _ _ _ _ _ _ us hl => match us, hl with | [_, _], _ => rfl⟩
  · obtain ⟨a, v, rfl, _⟩ := h
    rfl
  · obtain ⟨a, v, rfl, ha, q⟩ := h
    exact ⟨_, pss_one (ps_ost (pv 0) (pv 1)), ⟨_, rfl, _, rfl, a, He.ga K "BadSeen", rfl, (xi_BadSeen T).c, na_BadSeen_index T, .inl ⟨ha, fun d hd hda => q d hd hda⟩⟩⟩
theorem sc__law_draws : FnScope ["_law_script"] ["_law_script"] (defScope s__law_draws) := ⟨rfl, rfl, rfl, by decide +kernel, rfl, by decide +kernel, by decide +kernel⟩
theorem c__law_draws (T : Tx K mg) : Cal P w K mg base 1 "_law_draws" 1 F__law_draws :=
  calD G__law_draws (t__law_draws T) sc__law_draws (fun _ _ _ _ _ _ _ us hl => match us, hl with | [_], _ => rfl) (fun f cdv A outer s H E hr => dss_one (ds_retO (dn_lst (da_cons (DN.de (dn_callTy (q_list K) prList (by rfl) (b_list T) bt_list (da_cons (de_v (pv 0)) (da_nil)))) (da_cons (de_int) (da_cons (de_int) (da_cons (de_int) (da_nil)))))))) ok__law_draws
theorem sc__law_pick : FnScope ["_law_row", "_law_many", "_law_cell", "_law_found"] ["_law_row", "_law_many"] (defScope s__law_pick) := ⟨rfl, rfl, rfl, by decide +kernel, rfl, by decide +kernel, by decide +kernel⟩
theorem c__law_pick (T : Tx K mg) : CalO P w K mg base 1 "_law_pick" 1 F__law_pick :=
  calO (n := 1) G__law_pick (t__law_pick T) sc__law_pick rfl (fun _ _ _ _ _ _ _ us hl => match us, hl with | [_, _], _ => rfl) (fun f cdv A outer s H E hr => dss_cons (ds_if (dt_pk (dt_cmp (q_eqD K hr) prEq (DN.de (dn_ix (q_ix K) prIx (de_v (pv 0)) (de_int) (fun _ _ => rfl))) (de_int) (nomark _)))
 (dss_one (ds_if (dt_pk (dt_cmp op_lt prLt (DN.de (dn_ix (q_ix K) prIx (de_v (pv 0)) (de_int) (fun _ _ => rfl))) (DN.de (dn_callB (q_len K) prLen (by rfl) (b_len T) bt_len (da_cons (DN.de (dn_ix (q_ix K) prIx (de_v (pv 0)) (de_int) (fun _ _ => rfl))) (da_nil)))) (nomark _)))
 (dss_cons (ds_set (de_pk (DN.de (dn_ix (q_ix K) prIx (DN.de (dn_ix (q_ix K) prIx (de_v (pv 0)) (de_int) (fun _ _ => rfl))) (DN.de (dn_ix (q_ix K) prIx (de_v (pv 0)) (de_int) (fun _ _ => rfl))) (fun _ _ => rfl)))) (fun h => ps_set (i := 2) sc__law_pick.nd rfl (.inl rfl) h))
 (dss_cons (ds_setIx (pv 0) (de_int) (de_pk (DN.de (dn_op (q_add K) prAdd (DN.de (dn_ix (q_ix K) prIx (de_v (pv 0)) (de_int) (fun _ _ => rfl))) (de_int)))) (fun h1 h2 h3 => ps_asg h3 (pg_sub h1 h2 set_list)))
 (dss_one (ds_if (dt_cmp op_ge prGe (de_v (pv 2)) (DN.de (dn_op op_pow prPow (de_int) (de_int))) (nomark _))
 (dss_one (ds_setIx (pv 0) (de_int) (de_v (pv 2)) (fun h1 h2 h3 => ps_asg h3 (pg_sub h1 h2 set_list))))
 (dss_one (ds_setIx (pv 0) (de_int) (de_pk (DN.de (dn_op op_mod prMod (DN.de (dn_callTy call_int1 prInt (by rfl) (b_int T) bt_int (da_cons (DN.de (dn_op (q_add K) prAdd (DN.de (dn_op (q_add K) prAdd (DN.de (dn_op q_mul prMul (DN.de (dn_ix (q_ix K) prIx (de_v (pv 0)) (de_int) (fun _ _ => rfl))) (de_int))) (DN.de (dn_op q_mul prMul (de_v (pv 2)) (de_int))))) (de_int))) (da_nil)))) (de_int)))) (fun h1 h2 h3 => ps_asg h3 (pg_sub h1 h2 set_list))))))))
 (dss_one (ds_setIx (pv 0) (de_int) (de_pk (DN.de (dn_op op_mod prMod (DN.de (dn_callTy call_int1 prInt (by rfl) (b_int T) bt_int (da_cons (DN.de (dn_op (q_add K) prAdd (DN.de (dn_op q_mul prMul (DN.de (dn_ix (q_ix K) prIx (de_v (pv 0)) (de_int) (fun _ _ => rfl))) (de_int))) (de_int))) (da_nil)))) (de_int)))) (fun h1 h2 h3 => ps_asg h3 (pg_sub h1 h2 set_list))))))
 (dss_nil))
 (dss_cons (ds_if (dt_pk (dt_cmp op_gt prGt (DN.de (dn_ix (q_ix K) prIx (de_v (pv 0)) (de_int) (fun _ _ => rfl))) (de_int) (nomark _)))
 (dss_cons (ds_set (de_pk (DN.de (dn_op op_mod prMod (DN.de (dn_callTy call_int1 prInt (by rfl) (b_int T) bt_int (da_cons (DN.de (dn_ix (q_ix K) prIx (de_v (pv 0)) (de_int) (fun _ _ => rfl))) (da_nil)))) (de_v (pv 1))))) (fun h => ps_set (i := 3) sc__law_pick.nd rfl (.inl rfl) h))
 (dss_cons (ds_setIx (pv 0) (de_int) (de_pk (DN.de (dn_op op_fdivW prDiv (DN.de (dn_ix (q_ix K) prIx (de_v (pv 0)) (de_int) (fun _ _ => rfl))) (de_v (pv 1))))) (fun h1 h2 h3 => ps_asg h3 (pg_sub h1 h2 set_list)))
 (dss_one (ds_ret (de_v (pv 3))))))
 (dss_nil))
 (dss_one (ds_ret (de_pk (DN.de (dn_op op_mod prMod (DN.de (dn_op op_mod prMod (DN.de (dn_callTy call_int1 prInt (by rfl) (b_int T) bt_int (da_cons (DN.de (dn_op q_mul prMul (DN.de (dn_ix (q_ix K) prIx (de_v (pv 0)) (de_int) (fun _ _ => rfl))) (de_int))) (da_nil)))) (de_int))) (de_v (pv 1))))))))) len__law_pick ok__law_pick
theorem sc__law_far : FnScope ["_law_row", "_law_wide"] ["_law_row"] (defScope s__law_far) := ⟨rfl, rfl, rfl, by decide +kernel, rfl, by decide +kernel, by decide +kernel⟩
theorem c__law_far (T : Tx K mg) : CalO P w K mg base 2 "_law_far" 0 F__law_far :=
  calO (n := 0) G__law_far (t__law_far T) sc__law_far rfl (fun _ _ _ _ _ _ _ us hl => match us, hl with | [_], _ => rfl) (fun f cdv A outer s H E hr => dss_cons (ds_setN (dn_ix (q_ix K) prIx (DN.de (dn_lst (da_cons (de_int) (da_cons (de_int) (da_cons (de_int) (da_cons (de_int) (da_nil))))))) (DN.de (dn_callO (c__law_pick T) hr (takes_of rfl rfl rfl rfl) (pv 0) (da_cons (de_int) (da_nil)))) (fun _ _ => rfl)) (fun h => ps_set (i := 1) sc__law_far.nd rfl (.inl rfl) h))
 (dss_one (ds_retO (dn_op q_mul prMul (DN.de (dn_op op_sub prSub (DN.de (dn_callO (c__law_pick T) hr (takes_of rfl rfl rfl rfl) (pv 0) (da_cons (de_v (pv 1)) (da_nil)))) (DN.de (dn_op op_fdivW prDiv (de_v (pv 1)) (de_int))))) (DN.de (dn_ix (q_ix K) prIx (DN.de (dn_lst (da_cons (de_int) (da_cons (de_int) (da_cons (de_int) (da_nil)))))) (DN.de (dn_callO (c__law_pick T) hr (takes_of rfl rfl rfl rfl) (pv 0) (da_cons (de_int) (da_nil)))) (fun _ _ => rfl))))))) len__law_far ok__law_far
theorem sc_is_from : FnScope ["value", "low", "high"] ["value", "low", "high"] (defScope s_is_from) := ⟨rfl, rfl, rfl, by decide +kernel, rfl, by decide +kernel, by decide +kernel⟩
theorem c_is_from (T : Tx K mg) : Cal P w K mg base 1 "is_from" 3 F_is_from :=
  calD G_is_from (t_is_from T) sc_is_from (fun _ _ _ _ _ _ _ us hl => match us, hl with | [_, _, _], _ => rfl) (fun f cdv A outer s H E hr => dss_one (ds_ret (de_and (DN.de (dn_isi (by rfl) (b_isinstance T) (de_v (pv 0)) (by rfl) (b_int T) bt_int)) (de_and (de_not (DN.de (dn_isi (by rfl) (b_isinstance T) (de_v (pv 0)) (by rfl) (b_bool T) bt_bool))) (de_one (de_chain op_le op_le (de_v (pv 1)) (de_v (pv 0)) (de_v (pv 2)))))))) ok_is_from
theorem sc_check_moduli : FnScope ["value", "index", "modulus"] ["value"] (defScope s_check_moduli) := ⟨rfl, rfl, rfl, by decide +kernel, rfl, by decide +kernel, by decide +kernel⟩
theorem c_check_moduli (T : Tx K mg) : Cal P w K mg base 3 "check_moduli" 1 F_check_moduli :=
  calD G_check_moduli (t_check_moduli T) sc_check_moduli (fun _ _ _ _ _ _ _ us hl => match us, hl with | [_], _ => rfl) (fun f cdv A outer s H E hr => dss_cons (ds_if (DW.dt (dw_or (dt_not (dt_val (DN.de (dn_isi (by rfl) (b_isinstance T) (de_v (pv 0)) (by rfl) (b_tuple T) bt_tuple)))) (dw_or1 (dt_not (dt_chain op_le op_le (de_int) (DN.de (dn_callB (q_len K) prLen (by rfl) (b_len T) bt_len (da_cons (de_v (pv 0)) (da_nil)))) (de_c (pe_G (g_MOST_MODULI T)) (fun _ => .int _)))))))
 (dss_one (ds_rm1 (xm_BadModuli T) (takes_of rfl rfl rfl rfl) hr (da_cons (de_non) (da_nil))))
 (dss_nil))
 (dss_one (ds_for (passes_of rfl) (vs := [1, 2]) (di_enumT (by rfl) (b_enumerate T) (da_cons (de_v (pv 0)) (da_nil))) (dg_T (dgs_cons (dg_name (pg_name (i := 1) sc_check_moduli.nd rfl (.inl rfl))) (dgs_cons (dg_name (pg_name (i := 2) sc_check_moduli.nd rfl (.inl rfl))) (dgs_nil))))
 (dss_one (ds_if (dt_not (dt_val (DN.de (dn_call (c_is_from T) hr (takes_of rfl rfl rfl rfl) (da_cons (de_v (pv 2)) (da_cons (de_int) (da_cons (de_c (pe_G (g_MOST_TOLD T)) (fun _ => .int _)) (da_nil))))))))
 (dss_one (ds_rm1 (xm_BadModuli T) (takes_of rfl rfl rfl rfl) hr (da_cons (de_v (pv 1)) (da_nil))))
 (dss_nil)))))) ok_check_moduli
theorem sc_is_seen : FnScope ["value"] ["value"] (defScope s_is_seen) := ⟨rfl, rfl, rfl, by decide +kernel, rfl, by decide +kernel, by decide +kernel⟩
theorem c_is_seen (T : Tx K mg) : Cal P w K mg base 2 "is_seen" 1 F_is_seen :=
  calD G_is_seen (t_is_seen T) sc_is_seen (fun _ _ _ _ _ _ _ us hl => match us, hl with | [_], _ => rfl) (fun f cdv A outer s H E hr => dss_cons (ds_if (DW.dt (dw_or (dt_not (dt_val (DN.de (dn_isi (by rfl) (b_isinstance T) (de_v (pv 0)) (by rfl) (b_tuple T) bt_tuple)))) (dw_or (dt_cmp (q_neD K hr) prNe (DN.de (dn_callB (q_len K) prLen (by rfl) (b_len T) bt_len (da_cons (de_v (pv 0)) (da_nil)))) (de_int) (nomark _)) (dw_or1 (dt_not (dt_val (DN.de (dn_call (c_is_from T) hr (takes_of rfl rfl rfl rfl) (da_cons (DN.de (dn_ix (q_ix K) prIx (de_v (pv 0)) (de_int) (fun _ _ => rfl))) (da_cons (DN.de (dn_un un_neg prNeg (de_c (pe_G (g_FAR T)) (fun _ => .int _)))) (da_cons (de_c (pe_G (g_FAR T)) (fun _ => .int _)) (da_nil))))))))))))
 (dss_one (ds_ret (de_bl)))
 (dss_nil))
 (dss_one (ds_retO (dn_isi (by rfl) (b_isinstance T) (DN.de (dn_ix (q_ix K) prIx (de_v (pv 0)) (de_int) (fun _ _ => rfl))) (by rfl) (b_bool T) bt_bool)))) ok_is_seen
theorem sc_check_seen : FnScope ["value", "out", "index", "one"] ["value"] (defScope s_check_seen) := ⟨rfl, rfl, rfl, by decide +kernel, rfl, by decide +kernel, by decide +kernel⟩
theorem c_check_seen (T : Tx K mg) : Cal P w K mg base 3 "check_seen" 1 F_check_seen :=
  calD G_check_seen (t_check_seen T) sc_check_seen (fun _ _ _ _ _ _ _ us hl => match us, hl with | [_], _ => rfl) (fun f cdv A outer s H E hr => dss_cons (ds_if (DW.dt (dw_or (dt_not (dt_val (DN.de (dn_isi2 (by rfl) (b_isinstance T) (de_v (pv 0)) (by rfl) (b_list T) bt_list (by rfl) (b_tuple T) bt_tuple)))) (dw_or1 (dt_cmp op_gt prGt (DN.de (dn_callB (q_len K) prLen (by rfl) (b_len T) bt_len (da_cons (de_v (pv 0)) (da_nil)))) (de_c (pe_G (g_MOST_SEEN T)) (fun _ => .int _)) (nomark _)))))
 (dss_one (ds_rm1 (xm_BadSeen T) (takes_of rfl rfl rfl rfl) hr (da_cons (de_non) (da_nil))))
 (dss_nil))
 (dss_cons (ds_set (de_int) (fun h => ps_set (i := 1) sc_check_seen.nd rfl (.inl rfl) h))
 (dss_one (ds_for (passes_of rfl) (vs := [2, 3]) (di_enumT (by rfl) (b_enumerate T) (da_cons (de_v (pv 0)) (da_nil))) (dg_T (dgs_cons (dg_name (pg_name (i := 2) sc_check_seen.nd rfl (.inl rfl))) (dgs_cons (dg_name (pg_name (i := 3) sc_check_seen.nd rfl (.inl rfl))) (dgs_nil))))
 (dss_cons (ds_if (dt_not (dt_val (DN.de (dn_call (c_is_seen T) hr (takes_of rfl rfl rfl rfl) (da_cons (de_v (pv 3)) (da_nil))))))
 (dss_one (ds_rm1 (xm_BadSeen T) (takes_of rfl rfl rfl rfl) hr (da_cons (de_v (pv 2)) (da_nil))))
 (dss_nil))
 (dss_cons (ds_aug (DN.de (dn_callTy call_int1 prInt (by rfl) (b_int T) bt_int (da_cons (de_not (DN.de (dn_ix (q_ix K) prIx (de_v (pv 3)) (de_int) (fun _ _ => rfl)))) (da_nil)))) (fun h => ps_aug (i := 1) sc_check_seen.nd rfl (.inl rfl) h ip_add))
 (dss_one (ds_if (dt_cmp op_gt prGt (de_v (pv 1)) (de_c (pe_G (g_MOST_OUT T)) (fun _ => .int _)) (nomark _))
 (dss_one (ds_rm1 (xm_BadSeen T) (takes_of rfl rfl rfl rfl) hr (da_cons (de_v (pv 2)) (da_nil))))
 (dss_nil))))))))) ok_check_seen
theorem sc_power : FnScope ["many", "found", "turn"] ["many"] (defScope s_power) := ⟨rfl, rfl, rfl, by decide +kernel, rfl, by decide +kernel, by decide +kernel⟩
theorem c_power (T : Tx K mg) : Cal P w K mg base 1 "power" 1 F_power :=
  calD G_power (t_power T) sc_power (fun _ _ _ _ _ _ _ us hl => match us, hl with | [_], _ => rfl) (fun f cdv A outer s H E hr => dss_cons (ds_set (de_int) (fun h => ps_set (i := 1) sc_power.nd rfl (.inl rfl) h))
 (dss_cons (ds_for (passes_of rfl) (vs := [2]) (di_range1 (by rfl) (b_range T) (da_cons (de_v (pv 0)) (da_nil))) (dg_name (pg_name (i := 2) sc_power.nd rfl (.inl rfl)))
 (dss_one (ds_set (DN.de (dn_op q_mul prMul (de_int) (de_v (pv 1)))) (fun h => ps_set (i := 1) sc_power.nd rfl (.inl rfl) h))))
 (dss_one (ds_ret (de_v (pv 1)))))) ok_power
theorem sc_rests_in : FnScope ["moduli", "number", "index", "modulus"] ["moduli", "number"] (defScope s_rests_in) := ⟨rfl, rfl, rfl, by decide +kernel, rfl, by decide +kernel, by decide +kernel⟩
theorem c_rests_in (T : Tx K mg) : Cal P w K mg base 1 "rests_in" 2 F_rests_in :=
  calD G_rests_in (t_rests_in T) sc_rests_in (fun _ _ _ _ _ _ _ us hl => match us, hl with | [_, _], _ => rfl) (fun f cdv A outer s H E hr => dss_one (ds_retO (dn_lc rfl sc_rests_in.nd (own := [("index", 2), ("modulus", 3)]) (di_enumT (by rfl) (b_enumerate T) (da_cons (de_v (pv 0)) (da_nil))) (blkOk_by (own := [("index", 2), ("modulus", 3)]) (N := ["moduli", "number", "index", "modulus"]) (sc := defScope s_rests_in) (by decide +kernel)) (fun _ _ _ _ _ => dg_T (dgs_cons (dg_name (pg_name (i := 2) sc_rests_in.nd rfl (.inl rfl))) (dgs_cons (dg_name (pg_name (i := 3) sc_rests_in.nd rfl (.inl rfl))) (dgs_nil)))) (fun _ _ _ _ _ => dts_nil) (fun _ _ _ _ _ => DN.de (dn_tup (da_cons (de_v (pv 2)) (da_cons (DN.de (dn_op op_mod prMod (de_v (pv 1)) (de_v (pv 3)))) (da_nil)))))))) ok_rests_in
theorem sc_ways : FnScope ["moduli", "had", "out", "with_one", "told"] ["moduli", "had", "out"] (defScope s_ways) := ⟨rfl, rfl, rfl, by decide +kernel, rfl, by decide +kernel, by decide +kernel⟩
theorem cr_ways (T : Tx K mg) : ∀ n : Nat, Cal P w K mg base (2 + n) "ways" 3 (FR_ways n)
  | 0 => calNo 1 (t_ways T) sc_ways (fun _ _ _ _ _ _ _ us hl => match us, hl with | [_, _, _], _ => rfl)
  | n + 1 => calD (k := 2 + n) (G_ways (FR_ways n)) (t_ways T) sc_ways (fun _ _ _ _ _ _ _ us hl => match us, hl with | [_, _, _], _ => rfl) (fun f cdv A outer s H E hr => dss_cons (ds_if (dt_cmp (q_eqD K hr) prEq (de_v (pv 2)) (DN.de (dn_lst (da_nil))) (nomark _))
 (dss_one (ds_retO (dn_call (c_power T) hr (takes_of rfl rfl rfl rfl) (da_cons (DN.de (dn_op op_sub prSub (DN.de (dn_callB (q_sumT K) prSumT (by rfl) (b_sum T) bt_sum (da_cons (de_v (pv 0)) (da_nil)))) (DN.de (dn_callB call_len_dT prLenT (by rfl) (b_len T) bt_len (da_cons (de_v (pv 1)) (da_nil)))))) (da_nil)) (hk := by omega))))
 (dss_nil))
 (dss_cons (ds_setN (dn_callTy (call_dictB hr) prDict (by rfl) (b_dict T) bt_dict (da_cons (de_v (pv 1)) (da_nil))) (fun h => ps_set (i := 3) sc_ways.nd rfl (.inl rfl) h))
 (dss_cons (ds_for (passes_of rfl) (vs := [4]) (di_seq (DN.de (dn_call (c_rests_in T) hr (takes_of rfl rfl rfl rfl) (da_cons (de_v (pv 0)) (da_cons (DN.de (dn_ix (q_ix K) prIx (de_v (pv 2)) (de_int) (fun _ _ => rfl))) (da_nil))) (hk := by omega)))) (dg_name (pg_name (i := 4) sc_ways.nd rfl (.inl rfl)))
 (dss_one (ds_putK hr (pv 3) (de_v (pv 4)) (de_bl))))
 (dss_one (ds_ret (de_pk (DN.de (dn_op op_sub prSub (DN.de (dn_call (cr_ways T n) hr (takes_of rfl rfl rfl rfl) (da_cons (de_v (pv 0)) (da_cons (de_v (pv 1)) (da_cons (DN.de (dn_slice (q_sl K) prSl (de_v (pv 2)) (do_some (de_int)) do_none)) (da_nil)))) (hk := Nat.le_refl _))) (DN.de (dn_call (cr_ways T n) hr (takes_of rfl rfl rfl rfl) (da_cons (de_v (pv 0)) (da_cons (de_v (pv 3)) (da_cons (DN.de (dn_slice (q_sl K) prSl (de_v (pv 2)) (do_some (de_int)) do_none)) (da_nil)))) (hk := Nat.le_refl _))))))))))) (okR_ways n)
theorem c_ways (T : Tx K mg) : Cal P w K mg base 11 "ways" 3 F_ways := cr_ways T 9
theorem sc_had_by : FnScope ["moduli", "seen", "number", "does", "told"] ["moduli", "seen"] (defScope s_had_by) := ⟨rfl, rfl, rfl, by decide +kernel, rfl, by decide +kernel, by decide +kernel⟩
theorem c_had_by (T : Tx K mg) : Cal P w K mg base 2 "had_by" 2 F_had_by :=
  calD G_had_by (t_had_by T) sc_had_by (fun _ _ _ _ _ _ _ us hl => match us, hl with | [_, _], _ => rfl) (fun f cdv A outer s H E hr => dss_one (ds_retO (dn_dcT2 hr rfl sc_had_by.nd (own := [("number", 2), ("does", 3), ("told", 4)]) (vs1 := [4]) (di_seq (de_v (pv 1))) (blkOk_by (own := [("number", 2), ("does", 3), ("told", 4)]) (N := ["moduli", "seen", "number", "does", "told"]) (sc := defScope s_had_by) (by decide +kernel)) (by decide) (fun _ _ _ _ _ => dg_T (dgs_cons (dg_name (pg_name (i := 2) sc_had_by.nd rfl (.inl rfl))) (dgs_cons (dg_name (pg_name (i := 3) sc_had_by.nd rfl (.inl rfl))) (dgs_nil)))) (fun _ _ _ _ _ => dts_one (dt_val (de_v (pv 3)))) (fun _ _ _ _ _ => di_seq (DN.de (dn_call0 (c_rests_in T) hr (da_cons (de_v (pv 0)) (da_cons (de_v (pv 2)) (da_nil)))))) (fun _ _ _ _ _ => dg_name (pg_name (i := 4) sc_had_by.nd rfl (.inl rfl))) (fun _ _ _ _ _ => dts_nil) (fun _ _ _ _ _ => de_v (pv 4)) (fun _ _ _ _ _ => de_bl)))) ok_had_by
theorem sc_out_of : FnScope ["seen", "number", "does"] ["seen"] (defScope s_out_of) := ⟨rfl, rfl, rfl, by decide +kernel, rfl, by decide +kernel, by decide +kernel⟩
theorem c_out_of (T : Tx K mg) : Cal P w K mg base 1 "out_of" 1 F_out_of :=
  calD G_out_of (t_out_of T) sc_out_of (fun _ _ _ _ _ _ _ us hl => match us, hl with | [_], _ => rfl) (fun f cdv A outer s H E hr => dss_one (ds_retO (dn_lc rfl sc_out_of.nd (own := [("number", 1), ("does", 2)]) (di_seq (de_v (pv 0))) (blkOk_by (own := [("number", 1), ("does", 2)]) (N := ["seen", "number", "does"]) (sc := defScope s_out_of) (by decide +kernel)) (fun _ _ _ _ _ => dg_T (dgs_cons (dg_name (pg_name (i := 1) sc_out_of.nd rfl (.inl rfl))) (dgs_cons (dg_name (pg_name (i := 2) sc_out_of.nd rfl (.inl rfl))) (dgs_nil)))) (fun _ _ _ _ _ => dts_one (dt_not (dt_val (de_v (pv 2))))) (fun _ _ _ _ _ => de_v (pv 1))))) ok_out_of
theorem sc_many_lots : FnScope ["moduli", "seen"] ["moduli", "seen"] (defScope s_many_lots) := ⟨rfl, rfl, rfl, by decide +kernel, rfl, by decide +kernel, by decide +kernel⟩
theorem c_many_lots (T : Tx K mg) : Cal P w K mg base 12 "many_lots" 2 F_many_lots :=
  calD G_many_lots (t_many_lots T) sc_many_lots (fun _ _ _ _ _ _ _ us hl => match us, hl with | [_, _], _ => rfl) (fun f cdv A outer s H E hr => dss_cons (ds_expr (DN.de (dn_call (c_check_moduli T) hr (takes_of rfl rfl rfl rfl) (da_cons (de_v (pv 0)) (da_nil)))))
 (dss_cons (ds_expr (DN.de (dn_call (c_check_seen T) hr (takes_of rfl rfl rfl rfl) (da_cons (de_v (pv 1)) (da_nil)))))
 (dss_one (ds_retO (dn_call (c_ways T) hr (takes_of rfl rfl rfl rfl) (da_cons (de_v (pv 0)) (da_cons (DN.de (dn_call (c_had_by T) hr (takes_of rfl rfl rfl rfl) (da_cons (de_v (pv 0)) (da_cons (de_v (pv 1)) (da_nil))))) (da_cons (DN.de (dn_call (c_out_of T) hr (takes_of rfl rfl rfl rfl) (da_cons (de_v (pv 1)) (da_nil)))) (da_nil))))))))) ok_many_lots
theorem sc_sure_rests : FnScope ["moduli", "seen", "had", "out", "found", "every", "index", "modulus", "sure", "never", "rest", "with_one", "many"] ["moduli", "seen"] (defScope s_sure_rests) := ⟨rfl, rfl, rfl, by decide +kernel, rfl, by decide +kernel, by decide +kernel⟩
theorem c_sure_rests (T : Tx K mg) : Cal P w K mg base 12 "sure_rests" 2 F_sure_rests :=
  calD G_sure_rests (t_sure_rests T) sc_sure_rests (fun _ _ _ _ _ _ _ us hl => match us, hl with | [_, _], _ => rfl) (fun f cdv A outer s H E hr => dss_cons (ds_expr (DN.de (dn_call (c_check_moduli T) hr (takes_of rfl rfl rfl rfl) (da_cons (de_v (pv 0)) (da_nil)))))
 (dss_cons (ds_expr (DN.de (dn_call (c_check_seen T) hr (takes_of rfl rfl rfl rfl) (da_cons (de_v (pv 1)) (da_nil)))))
 (dss_cons (ds_par3 (i := 2) (j := 3) (l := 4) (dm_cons (DE.dn (DN.de (dn_call (c_had_by T) hr (takes_of rfl rfl rfl rfl) (da_cons (de_v (pv 0)) (da_cons (de_v (pv 1)) (da_nil)))))) (dm_cons (DE.dn (DN.de (dn_call (c_out_of T) hr (takes_of rfl rfl rfl rfl) (da_cons (de_v (pv 1)) (da_nil))))) (dm_cons (dn_lst (da_nil)) (dm_nil)))) (fun h => ps_par3 rfl sc_sure_rests.nd rfl rfl rfl (by decide) (by decide) (by decide) rfl rfl rfl h (by rfl)))
 (dss_cons (ds_set (DN.de (dn_call (c_ways T) hr (takes_of rfl rfl rfl rfl) (da_cons (de_v (pv 0)) (da_cons (de_v (pv 2)) (da_cons (de_v (pv 3)) (da_nil)))))) (fun h => ps_set (i := 5) sc_sure_rests.nd rfl (.inl rfl) h))
 (dss_cons (ds_if (dt_cmp (q_eqD K hr) prEq (de_v (pv 5)) (de_int) (nomark _))
 (dss_one (ds_rz (ex_Nothing T) (takes_of rfl rfl rfl rfl)))
 (dss_nil))
 (dss_cons (ds_for (passes_of rfl) (vs := [6, 7]) (di_enumT (by rfl) (b_enumerate T) (da_cons (de_v (pv 0)) (da_nil))) (dg_T (dgs_cons (dg_name (pg_name (i := 6) sc_sure_rests.nd rfl (.inl rfl))) (dgs_cons (dg_name (pg_name (i := 7) sc_sure_rests.nd rfl (.inl rfl))) (dgs_nil))))
 (dss_cons (ds_par (i := 8) (j := 9) (dm_cons (dn_lst (da_nil)) (dm_cons (dn_lst (da_nil)) (dm_nil))) (fun h => ps_par rfl sc_sure_rests.nd rfl rfl (by decide) rfl rfl h (by rfl)))
 (dss_cons (ds_for (passes_of rfl) (vs := [10]) (di_range1 (by rfl) (b_range T) (da_cons (de_v (pv 7)) (da_nil))) (dg_name (pg_name (i := 10) sc_sure_rests.nd rfl (.inl rfl)))
 (dss_cons (ds_setN (dn_callTy (call_dictB hr) prDict (by rfl) (b_dict T) bt_dict (da_cons (de_v (pv 2)) (da_nil))) (fun h => ps_set (i := 11) sc_sure_rests.nd rfl (.inl rfl) h))
 (dss_cons (ds_putK hr (pv 11) (DN.de (dn_tup (da_cons (de_v (pv 6)) (da_cons (de_v (pv 10)) (da_nil))))) (de_bl))
 (dss_cons (ds_set (DN.de (dn_call (c_ways T) hr (takes_of rfl rfl rfl rfl) (da_cons (de_v (pv 0)) (da_cons (de_v (pv 11)) (da_cons (de_v (pv 3)) (da_nil)))))) (fun h => ps_set (i := 12) sc_sure_rests.nd rfl (.inl rfl) h))
 (dss_cons (ds_if (dt_cmp (q_eqD K hr) prEq (de_v (pv 12)) (de_v (pv 5)) (nomark _))
 (dss_one (ds_expr (de_mutL prApp PySem.F.slot_list_append PySem.F.type_list_append mt_append (pv 8) (da_cons (de_v (pv 10)) (da_nil)))))
 (dss_nil))
 (dss_one (ds_if (dt_cmp (q_eqD K hr) prEq (de_v (pv 12)) (de_int) (nomark _))
 (dss_one (ds_expr (de_mutL prApp PySem.F.slot_list_append PySem.F.type_list_append mt_append (pv 9) (da_cons (de_v (pv 10)) (da_nil)))))
 (dss_nil))))))))
 (dss_one (ds_expr (de_mutL prApp PySem.F.slot_list_append PySem.F.type_list_append mt_append (pv 4) (da_cons (DN.de (dn_tup (da_cons (de_v (pv 8)) (da_cons (de_v (pv 9)) (da_nil))))) (da_nil))))))))
 (dss_one (ds_ret (de_v (pv 4)))))))))) ok_sure_rests
theorem sc__law_told_there : FnScope ["_law_moduli", "_law_seen", "_law_is_many", "_law_told_there_here", "e"] ["_law_moduli", "_law_seen", "_law_is_many"] (defScope s__law_told_there) := ⟨rfl, rfl, rfl, by decide +kernel, rfl, by decide +kernel, by decide +kernel⟩
theorem c__law_told_there (T : Tx K mg) : Cal P w K mg base 13 "_law_told_there" 3 F__law_told_there :=
  calD G__law_told_there (t__law_told_there T) sc__law_told_there (fun _ _ _ _ _ _ _ us hl => match us, hl with | [_, _, _], _ => rfl) (fun f cdv A outer s H E hr => dss_cons (ds_set (de_non) (fun h => ps_set (i := 3) sc__law_told_there.nd rfl (.inl rfl) h))
 (dss_cons (ds_tryS rfl rfl sc__law_told_there.nd rfl rfl (takes_of rfl rfl rfl rfl)
 (fun W1 pn1 xe1 tk1 ps1 => dss_one (ds_set (de_if (dt_val (de_v (pv 2))) (DN.de (dn_call (c_many_lots T) hr tk1 (da_cons (de_v (pv 0)) (da_cons (de_v (pv 1)) (da_nil))))) (DN.de (dn_call (c_sure_rests T) hr tk1 (da_cons (de_v (pv 0)) (da_cons (de_v (pv 1)) (da_nil)))))) (fun h => ps_set (i := 3) sc__law_told_there.nd rfl (.inl rfl) h)))
 (.cons (xi_BadModuli T).g (tbl_BadModuli T) (hnd_L (items := [.s "moduli", .f "index"]) (ec_BadModuli T) (kr_BadModuli T) (b_isinstance T) (ex_RestError T).g (fun _ _ _ => pv 4) (fun q oe cls d pn hz hf => pa_cons pe_str (pa_cons (pe_xf (ExcC.xf (ec_BadModuli T)) (na_BadModuli_index T) hz hf (pv 4)) (pa_nil))) (fun _ _ _ => pe_str) (fun _ _ _ _ h => ps_set (i := 3) sc__law_told_there.nd rfl (.inl rfl) h)) (.cons (xi_BadSeen T).g (tbl_BadSeen T) (hnd_L (items := [.s "seen", .f "index"]) (ec_BadSeen T) (kr_BadSeen T) (b_isinstance T) (ex_RestError T).g (fun _ _ _ => pv 4) (fun q oe cls d pn hz hf => pa_cons pe_str (pa_cons (pe_xf (ExcC.xf (ec_BadSeen T)) (na_BadSeen_index T) hz hf (pv 4)) (pa_nil))) (fun _ _ _ => pe_str) (fun _ _ _ _ h => ps_set (i := 3) sc__law_told_there.nd rfl (.inl rfl) h)) (.nil))))
 (dss_one (ds_ret (de_v (pv 3)))))) ok__law_told_there
theorem sc_law : FnScope ["_law_script", "_law_row", "_law_turn", "_law_moduli", "_law_k", "_law_seen", "_law_is_many", "_law_at", "_law_wrong", "_law_odd"] ["_law_script"] (defScope s_law) := ⟨rfl, rfl, rfl, by decide +kernel, rfl, by decide +kernel, by decide +kernel⟩
theorem law_end {fa : Addr} {h : Heap} (T : Tx K mg) (hmg : mg "law" = some (.ref fa)) (KX : K.In h) : ∃ (K : PySem.W.Frag) (fd : FuncData) (sp : Sp), K.In h ∧ (∀ (s : Shared) (u : Value), BindsTo s fd ⟨[u], []⟩ [("_law_script", u)]) ∧
      (∀ (H : Hp) (a : Addr) (ns : List Int), ns.length ≤ 63 → Only H → SqL K H a (ns.map V.int) → sp [.ref a] H (fun v _ => v = .bl true) fun _ _ _ => False) ∧
      ∀ base : Heap, K.In base → base.Ns mainGlobals mg → FnOk P w K mg base CXF 14 fa fd ["_law_script"] sp :=
  lawE G_law (t_law T) sc_law (fun _ _ _ _ _ _ us hl => match us, hl with | [_], _ => rfl) (fun base f cdv A outer s H E hr => dss_cons (ds_setN (dn_call0 (c__law_draws T) hr (da_cons (de_v (pv 0)) (da_nil))) (fun h => ps_set (i := 1) sc_law.nd rfl (.inr rfl) h))
 (dss_cons (ds_for (passes_of rfl) (vs := [2]) (di_range1 (by rfl) (b_range T) (da_cons (de_int) (da_nil))) (dg_name (pg_name (i := 2) sc_law.nd rfl (.inl rfl)))
 (dss_cons (ds_set (DN.de (dn_callTy (q_tuple K) prTuple (by rfl) (b_tuple T) bt_tuple (da_cons (DN.de (dn_lc rfl sc_law.nd (own := [("_law_k", 4)]) (di_range1 (by rfl) (b_range T) (da_cons (DN.de (dn_op (q_add K) prAdd (de_int) (DN.de (dn_callO0 (c__law_pick T) hr (pv 1) (da_cons (de_int) (da_nil)))))) (da_nil))) (blkOk_by (own := [("_law_k", 4)]) (N := ["_law_script", "_law_row", "_law_turn", "_law_moduli", "_law_k", "_law_seen", "_law_is_many", "_law_at", "_law_wrong", "_law_odd"]) (sc := defScope s_law) (by decide +kernel)) (fun _ _ _ _ _ => dg_name (pg_name (i := 4) sc_law.nd rfl (.inl rfl))) (fun _ _ _ _ _ => dts_nil) (fun _ _ _ _ _ => DN.de (dn_op (q_add K) prAdd (de_int) (DN.de (dn_callO0 (c__law_pick T) hr (pv 1) (da_cons (de_int) (da_nil)))))))) (da_nil)))) (fun h => ps_set (i := 3) sc_law.nd rfl (.inl rfl) h))
 (dss_cons (ds_par (i := 5) (j := 6) (dm_cons (DE.dn (DN.de (dn_lc rfl sc_law.nd (own := [("_law_k", 4)]) (di_range1 (by rfl) (b_range T) (da_cons (DN.de (dn_callO0 (c__law_pick T) hr (pv 1) (da_cons (de_int) (da_nil)))) (da_nil))) (blkOk_by (own := [("_law_k", 4)]) (N := ["_law_script", "_law_row", "_law_turn", "_law_moduli", "_law_k", "_law_seen", "_law_is_many", "_law_at", "_law_wrong", "_law_odd"]) (sc := defScope s_law) (by decide +kernel)) (fun _ _ _ _ _ => dg_name (pg_name (i := 4) sc_law.nd rfl (.inl rfl))) (fun _ _ _ _ _ => dts_nil) (fun _ _ _ _ _ => DN.de (dn_tup (da_cons (DN.de (dn_callO0 (c__law_far T) hr (pv 1) (da_nil))) (da_cons (de_bl) (da_nil)))))))) (dm_cons (DE.dn (DN.de (dn_cmp (q_eqD K hr) prEq (DN.de (dn_callO0 (c__law_pick T) hr (pv 1) (da_cons (de_int) (da_nil)))) (de_int) (nomark _)))) (dm_nil))) (fun h => ps_par rfl sc_law.nd rfl rfl (by decide) rfl rfl h (by rfl)))
 (dss_cons (ds_set (DN.de (dn_callO0 (c__law_pick T) hr (pv 1) (da_cons (DN.de (dn_callB (q_len K) prLen (by rfl) (b_len T) bt_len (da_cons (de_v (pv 3)) (da_nil)))) (da_nil)))) (fun h => ps_set (i := 7) sc_law.nd rfl (.inl rfl) h))
 (dss_cons (ds_set (DN.de (dn_op (q_add K) prAdd (DN.de (dn_op (q_add K) prAdd (DN.de (dn_slice (q_sl K) prSl (de_v (pv 3)) do_none (do_some (de_v (pv 7))))) (DN.de (dn_tup (da_cons (DN.de (dn_ix (q_ix K) prIx (DN.de (dn_lst (da_cons (de_int) (da_cons (de_int) (da_cons (DN.de (dn_un un_neg prNeg (de_int))) (da_cons (de_bl) (da_cons (de_non) (da_cons (de_str) (da_nil))))))))) (DN.de (dn_callO0 (c__law_pick T) hr (pv 1) (da_cons (de_int) (da_nil)))) (fun _ _ => rfl))) (da_nil)))))) (DN.de (dn_slice (q_sl K) prSl (de_v (pv 3)) (do_some (DN.de (dn_op (q_add K) prAdd (de_v (pv 7)) (de_int)))) do_none)))) (fun h => ps_set (i := 8) sc_law.nd rfl (.inl rfl) h))
 (dss_cons (ds_if (dt_cmp (q_neD K hr) prNe (DN.de (dn_call0 (c__law_told_there T) hr (da_cons (de_v (pv 8)) (da_cons (de_non) (da_cons (de_v (pv 6)) (da_nil)))))) (DN.de (dn_lst (da_cons (de_str) (da_cons (de_v (pv 7)) (da_nil))))) (nomark _))
 (dss_one (ds_ret (de_bl)))
 (dss_nil))
 (dss_cons (ds_if (dt_cmp (q_neD K hr) prNe (DN.de (dn_call0 (c__law_told_there T) hr (da_cons (DN.de (dn_ix (q_ix K) prIx (DN.de (dn_lst (da_cons (de_non) (da_cons (DN.de (dn_tup (da_nil))) (da_cons (DN.de (dn_callTy (q_list K) prList (by rfl) (b_list T) bt_list (da_cons (de_v (pv 3)) (da_nil)))) (da_cons (DN.de (dn_op (q_repT K) prRepT (DN.de (dn_tup (da_cons (de_int) (da_nil)))) (de_int))) (da_cons (de_int) (da_nil)))))))) (DN.de (dn_callO0 (c__law_pick T) hr (pv 1) (da_cons (de_int) (da_nil)))) (fun _ _ => rfl))) (da_cons (de_non) (da_cons (de_v (pv 6)) (da_nil)))))) (DN.de (dn_lst (da_cons (de_str) (da_cons (de_non) (da_nil))))) (nomark _))
 (dss_one (ds_ret (de_bl)))
 (dss_nil))
 (dss_cons (ds_setN (dn_lst (da_cons (de_non) (da_cons (DN.de (dn_tup (da_cons (de_int) (da_nil)))) (da_cons (DN.de (dn_lst (da_cons (de_int) (da_cons (de_bl) (da_nil))))) (da_cons (DN.de (dn_tup (da_cons (de_int) (da_cons (de_int) (da_nil))))) (da_cons (DN.de (dn_tup (da_cons (de_bl) (da_cons (de_bl) (da_nil))))) (da_cons (DN.de (dn_tup (da_cons (de_str) (da_cons (de_bl) (da_nil))))) (da_cons (DN.de (dn_tup (da_cons (DN.de (dn_op (q_add K) prAdd (DN.de (dn_op op_pow prPow (de_int) (de_int))) (de_int))) (da_cons (de_bl) (da_nil))))) (da_cons (DN.de (dn_tup (da_cons (de_int) (da_cons (de_non) (da_nil))))) (da_nil)))))))))) (fun h => ps_set (i := 9) sc_law.nd rfl (.inl rfl) h))
 (dss_cons (ds_expr (de_mutL prApp PySem.F.slot_list_append PySem.F.type_list_append mt_append (pv 9) (da_cons (DN.de (dn_tup (da_cons (de_int) (da_cons (de_bl) (da_cons (de_bl) (da_nil)))))) (da_nil))))
 (dss_cons (ds_set (DN.de (dn_op (q_add K) prAdd (de_v (pv 5)) (DN.de (dn_lst (da_cons (DN.de (dn_ix (q_ix K) prIx (de_v (pv 9)) (DN.de (dn_callO0 (c__law_pick T) hr (pv 1) (da_cons (de_int) (da_nil)))) (fun _ _ => rfl))) (da_cons (de_non) (da_nil))))))) (fun h => ps_set (i := 8) sc_law.nd rfl (.inl rfl) h))
 (dss_cons (ds_if (dt_cmp (q_neD K hr) prNe (DN.de (dn_call0 (c__law_told_there T) hr (da_cons (de_v (pv 3)) (da_cons (de_v (pv 8)) (da_cons (de_v (pv 6)) (da_nil)))))) (DN.de (dn_lst (da_cons (de_str) (da_cons (DN.de (dn_callB (q_len K) prLen (by rfl) (b_len T) bt_len (da_cons (de_v (pv 5)) (da_nil)))) (da_nil))))) (nomark _))
 (dss_one (ds_ret (de_bl)))
 (dss_nil))
 (dss_cons (ds_if (dt_cmp (q_neD K hr) prNe (DN.de (dn_call0 (c__law_told_there T) hr (da_cons (de_v (pv 3)) (da_cons (DN.de (dn_ix (q_ix K) prIx (DN.de (dn_lst (da_cons (de_non) (da_cons (de_str) (da_cons (DN.de (dn_dict0)) (da_cons (DN.de (dn_op q_mul prMul (DN.de (dn_lst (da_cons (DN.de (dn_tup (da_cons (de_int) (da_cons (de_bl) (da_nil))))) (da_nil)))) (de_int))) (da_nil))))))) (DN.de (dn_callO0 (c__law_pick T) hr (pv 1) (da_cons (de_int) (da_nil)))) (fun _ _ => rfl))) (da_cons (de_v (pv 6)) (da_nil)))))) (DN.de (dn_lst (da_cons (de_str) (da_cons (de_non) (da_nil))))) (nomark _))
 (dss_one (ds_ret (de_bl)))
 (dss_nil))
 (dss_one (ds_if (dt_cmp (q_neD K hr) prNe (DN.de (dn_call0 (c__law_told_there T) hr (da_cons (de_v (pv 3)) (da_cons (DN.de (dn_op (q_add K) prAdd (DN.de (dn_callTy (q_tuple K) prTuple (by rfl) (b_tuple T) bt_tuple (da_cons (de_v (pv 5)) (da_nil)))) (DN.de (dn_op (q_repT K) prRepT (DN.de (dn_tup (da_cons (DN.de (dn_tup (da_cons (de_int) (da_cons (de_bl) (da_nil))))) (da_nil)))) (de_int))))) (da_cons (de_v (pv 6)) (da_nil)))))) (DN.de (dn_lst (da_cons (de_str) (da_cons (DN.de (dn_op (q_add K) prAdd (DN.de (dn_callB (q_len K) prLen (by rfl) (b_len T) bt_len (da_cons (de_v (pv 5)) (da_nil)))) (de_int))) (da_nil))))) (nomark _))
 (dss_one (ds_ret (de_bl)))
 (dss_nil)))))))))))))))
 (dss_one (ds_retO (dn_cmp (q_eqD K hr) prEq (DN.de (dn_call0 (c_many_lots T) hr (da_cons (DN.de (dn_tup (da_cons (de_int) (da_cons (de_int) (da_cons (de_int) (da_cons (de_int) (da_nil))))))) (da_cons (DN.de (dn_op q_mul prMul (DN.de (dn_lst (da_cons (DN.de (dn_tup (da_cons (de_int) (da_cons (de_bl) (da_nil))))) (da_nil)))) (de_int))) (da_nil))))) (DN.de (dn_op q_mul prMul (DN.de (dn_op op_pow prPow (de_int) (de_int))) (DN.de (dn_op op_pow prPow (de_int) (de_int))))) (nomark _)))))) ok_law hmg KX
end
end RL

namespace RL
open PySem PySem.Spec PyProof.Rows L2
abbrev R : PySem.W.OpenRow := PySem.W.OpenLaw.row PySem.Challenge.rw_restlots_k33_seen_refused
abbrev hk : PySem.W.Hook := hookR 6 exs fns
def ob (s : PySem.W.SharedT) : He.AlD := obsRG 6 exs fns (HandSHeadRun.getT s)
theorem ob_eq (s : PySem.W.SharedT) : ob s = hk.obs s.abs := obsRG_eq (HandSHeadRun.getT_eq s)
def loose0 : List PySem.Str := ["RestError", "Nothing", "BadModuli", "BadSeen", "FAR", "is_from", "MOST_MODULI", "MOST_TOLD", "MOST_SEEN", "MOST_OUT", "check_moduli", "is_seen", "check_seen", "rests_in", "had_by", "power", "ways", "out_of", "many_lots", "sure_rests", "_law_draws", "_law_pick", "_law_far", "_law_told_there"]
def loose : List PySem.Str := loose0
theorem run (w : World) : HandSHeadRun.RunEq R (PySem.W.view R.prog [28]) hk ob 4000 loose w := by
  intro os
  kernel_rfl
end RL

open PySem PySem.W PySem.Calls PyProof.Rows
set_option maxHeartbeats 0 in
theorem PySem.Challenge.cw_restlots_k33_seen_refused_holds : PySem.Challenge.rw_restlots_k33_seen_refused.Holds := by
  w_on; o_law
  refine HandSHeadRun.head_any (r := OpenLaw.row PySem.Challenge.rw_restlots_k33_seen_refused) (q := view (OpenLaw.row PySem.Challenge.rw_restlots_k33_seen_refused).prog [28]) (H := RL.hk) (ob := RL.ob) (M := 4000) (loose := RL.loose) (d := HandSHeadRun.topDef (OpenLaw.row PySem.Challenge.rw_restlots_k33_seen_refused).prog 28) (kwd := []) RL.ob_eq
    (by kernel_rfl) (fun s => by kernel_rfl) RL.run (by kernel_rfl) (by kernel_rfl) (by kernel_rfl) (by rfl) (by first | assumption | decide +kernel) (by decide +kernel) ⟨rfl, rfl, rfl, rfl, rfl, by decide +kernel⟩ ?hw ?hc
  case hw => w_witness2
  case hc =>
    refine L2.walk_ofE (l := PySem.Challenge.rw_restlots_k33_seen_refused) (n := 63) (k := 14) (x := "_law_script") (CX := fun _ _ _ _ _ _ => False) rfl (by decide) (by kernel_rfl) ⟨rfl, by decide, by decide⟩ ?F (fun _ _ _ _ z => z)
    intro w mg fa h Y G hmg0
    obtain ⟨K, KX, c⟩ := Y
    have hmg : mg ("law" : PySem.Str) = some (.ref fa) := by
      have e : (HandSHeadRun.topDef (OpenLaw.row PySem.Challenge.rw_restlots_k33_seen_refused).prog 28).name = ("law" : PySem.Str) := by kernel_rfl
      rw [← e]
      exact hmg0
    exact RL.law_end (P := (PySem.Challenge.rw_restlots_k33_seen_refused).prog) (w := w) ⟨h, KX, G, c⟩ hmg KX
